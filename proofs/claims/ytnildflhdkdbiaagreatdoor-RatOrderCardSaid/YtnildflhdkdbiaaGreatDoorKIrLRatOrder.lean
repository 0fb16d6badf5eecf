/-
  The compiled bodies, printed: IrLRatOrder.
-/
import Derived.Test.YtnildflhdkdbiaaGreatDoorKAb
import Derived.Test.YtnildflhdkdbiaaGreatDoorProg
set_option linter.all false
set_option linter.unusedVariables false
set_option linter.unusedSimpArgs false
set_option maxHeartbeats 4000000
namespace Go.Proofs.YtnildflhdkdbiaaGreatDoorK.NatIr
open Go.Proofs.YtnildflhdkdbiaaGreatDoorK.AI
/-- cubit/cubitlaw3.RatOrder -/
def c9 : IR :=
  (.seq (.reg false [⟨(some 3), .box 75 3 (.t 0), none⟩, ⟨(some 4), .box 75 3 (.t 1), none⟩, ⟨(some 5), .box 75 3 (.t 2), none⟩, ⟨(some 6), .mv (.c (.bool false)), none⟩] [])
  (.seq (.seq (.reg false [⟨(some 12), .call 54 [], none⟩, ⟨(some 13), .not (.t 12), none⟩] [])
  (.cond (.t 13)
    (.seq (.reg false [⟨(some 6), .mv (.c (.bool false)), none⟩] [])
    .ret)
    .skip))
  (.seq (.seq (.reg false [⟨(some 14), .load true 3 (.t 3), none⟩, ⟨(some 15), .call 59 [(.t 14)], none⟩, ⟨(some 16), .mv (.t 15), none⟩, ⟨(some 17), .load true 3 (.t 4), (some ((some 16), false))⟩, ⟨(some 18), .call 59 [(.t 17)], (some ((some 16), false))⟩, ⟨(some 19), .pick (.t 16) (.c (.bool true)) (.t 18), none⟩, ⟨(some 20), .mv (.t 19), none⟩, ⟨(some 21), .load true 3 (.t 5), (some ((some 20), false))⟩, ⟨(some 22), .call 59 [(.t 21)], (some ((some 20), false))⟩, ⟨(some 23), .pick (.t 20) (.c (.bool true)) (.t 22), none⟩, ⟨(some 24), .mv (.t 23), none⟩, ⟨(some 25), .load true 3 (.t 3), (some ((some 24), false))⟩, ⟨(some 26), .call 57 [(.t 25)], (some ((some 24), false))⟩, ⟨(some 27), .not (.t 26), (some ((some 24), false))⟩, ⟨(some 28), .pick (.t 24) (.c (.bool true)) (.t 27), none⟩, ⟨(some 29), .mv (.t 28), none⟩, ⟨(some 30), .load true 3 (.t 4), (some ((some 29), false))⟩, ⟨(some 31), .call 57 [(.t 30)], (some ((some 29), false))⟩, ⟨(some 32), .not (.t 31), (some ((some 29), false))⟩, ⟨(some 33), .pick (.t 29) (.c (.bool true)) (.t 32), none⟩, ⟨(some 34), .mv (.t 33), none⟩, ⟨(some 35), .load true 3 (.t 5), (some ((some 34), false))⟩, ⟨(some 36), .call 57 [(.t 35)], (some ((some 34), false))⟩, ⟨(some 37), .not (.t 36), (some ((some 34), false))⟩, ⟨(some 38), .pick (.t 34) (.c (.bool true)) (.t 37), none⟩] [])
  (.cond (.t 38)
    (.seq (.reg false [⟨(some 6), .mv (.c (.bool true)), none⟩] [])
    .ret)
    .skip))
  (.seq (.reg false [⟨(some 39), .load true 3 (.t 3), none⟩, ⟨(some 40), .load true 3 (.t 4), none⟩, ⟨(some 41), .call 61 [(.t 39), (.t 40)], none⟩, ⟨(some 7), .mv (.t 41), none⟩] [])
  (.seq (.seq (.reg true [⟨(some 42), .load true 3 (.t 3), none⟩, ⟨(some 43), .load true 3 (.t 5), none⟩, ⟨(some 44), .call 62 [(.t 42), (.t 43)], none⟩, ⟨(some 45), .load true 3 (.t 4), none⟩, ⟨(some 46), .load true 3 (.t 5), none⟩, ⟨(some 47), .call 62 [(.t 45), (.t 46)], none⟩, ⟨(some 48), .call 61 [(.t 44), (.t 47)], none⟩, ⟨(some 49), .mv (.t 7), none⟩, ⟨(some 50), .bin .neq (.t 48) (.t 49), none⟩, ⟨(some 51), .mv (.t 50), none⟩, ⟨(some 52), .load true 3 (.t 4), (some ((some 51), false))⟩, ⟨(some 53), .call 64 [(.t 52)], (some ((some 51), false))⟩, ⟨(some 54), .load true 3 (.t 3), (some ((some 51), false))⟩, ⟨(some 55), .call 64 [(.t 54)], (some ((some 51), false))⟩, ⟨(some 56), .call 61 [(.t 53), (.t 55)], (some ((some 51), false))⟩, ⟨(some 57), .mv (.t 7), (some ((some 51), false))⟩, ⟨(some 58), .bin .neq (.t 56) (.t 57), (some ((some 51), false))⟩, ⟨(some 59), .pick (.t 51) (.c (.bool true)) (.t 58), none⟩] [0, 0, 3, 0, 0, 31, 63, 0, 255, 511, 1023, 2047, 1023, 8191, 16383, 1023, 65535, 131071])
  (.cond (.t 59)
    (.seq (.reg false [⟨(some 6), .mv (.c (.bool false)), none⟩] [])
    .ret)
    .skip))
  (.seq (.seq (.reg false [⟨(some 60), .load true 3 (.t 3), none⟩, ⟨(some 61), .call 65 [(.t 60)], none⟩, ⟨(some 62), .bin .leq (.t 61) (.c (.int .i64 0)), none⟩, ⟨(some 63), .mv (.t 62), none⟩, ⟨(some 64), .load true 3 (.t 4), (some ((some 63), false))⟩, ⟨(some 65), .call 65 [(.t 64)], (some ((some 63), false))⟩, ⟨(some 66), .bin .leq (.t 65) (.c (.int .i64 0)), (some ((some 63), false))⟩, ⟨(some 67), .pick (.t 63) (.c (.bool true)) (.t 66), none⟩] [])
  (.cond (.t 67)
    (.seq (.reg false [⟨(some 6), .mv (.c (.bool true)), none⟩] [])
    .ret)
    .skip))
  (.seq (.reg false [⟨(some 69), .load true 3 (.t 3), none⟩, ⟨(some 70), .call 66 [(.t 69)], none⟩, ⟨(some 68), .mv (.t 70), none⟩, ⟨(some 71), .ext (.t 68) 0, none⟩, ⟨(some 72), .ext (.t 68) 1, none⟩, ⟨(some 8), .new 75 3 [(.bool false), .nils, .nils], none⟩, ⟨none, .store 3 (.t 8) (.t 71), none⟩, ⟨(some 9), .mv (.t 72), none⟩] [])
  (.seq (.reg false [⟨(some 74), .load true 3 (.t 4), none⟩, ⟨(some 75), .call 66 [(.t 74)], none⟩, ⟨(some 73), .mv (.t 75), none⟩, ⟨(some 76), .ext (.t 73) 0, none⟩, ⟨(some 77), .ext (.t 73) 1, none⟩, ⟨(some 10), .new 75 3 [(.bool false), .nils, .nils], none⟩, ⟨none, .store 3 (.t 10) (.t 76), none⟩, ⟨(some 11), .mv (.t 77), none⟩] [])
  (.seq (.reg false [⟨(some 78), .load true 3 (.t 10), none⟩, ⟨(some 79), .load true 3 (.t 8), none⟩, ⟨(some 80), .call 61 [(.t 78), (.t 79)], none⟩, ⟨(some 81), .mv (.t 7), none⟩, ⟨(some 82), .bin .eql (.t 80) (.t 81), none⟩, ⟨(some 6), .mv (.t 82), none⟩] [])
  .ret)))))))))
theorem ok9 : (Go.Proofs.Tryz.f9.body).bind (comp Go.Proofs.Tryz.prog) = some c9 := by kernel_rfl
end Go.Proofs.YtnildflhdkdbiaaGreatDoorK.NatIr
