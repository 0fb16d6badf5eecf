/-
  The compiled bodies, printed: IrLNatTexts.
-/
import Derived.Test.YtnildflhdkdbiaaDoorKAb
import Derived.Test.YtnildflhdkdbiaaDoorProg
set_option linter.all false
set_option linter.unusedVariables false
set_option linter.unusedSimpArgs false
set_option maxHeartbeats 4000000
namespace Go.Proofs.YtnildflhdkdbiaaDoorK.NatIr
open Go.Proofs.YtnildflhdkdbiaaDoorK.AI
/-- cubit/cubitlaw1.NatTexts -/
def c3 : IR :=
  (.seq (.reg false [⟨(some 6), .mv (.c (.bool false)), none⟩] [])
  (.seq (.seq (.reg false [⟨(some 14), .call 7 [], none⟩, ⟨(some 15), .not (.t 14), none⟩] [])
  (.cond (.t 15)
    (.seq (.reg false [⟨(some 6), .mv (.c (.bool false)), none⟩] [])
    .ret)
    .skip))
  (.seq (.seq (.reg false [⟨(some 16), .mv (.t 0), none⟩, ⟨(some 17), .lenS (.t 16), none⟩, ⟨(some 18), .bin .gtr (.t 17) (.c (.int .i64 200)), none⟩, ⟨(some 19), .mv (.t 18), none⟩, ⟨(some 20), .mv (.t 1), (some ((some 19), false))⟩, ⟨(some 21), .lenL (.t 20), (some ((some 19), false))⟩, ⟨(some 22), .bin .gtr (.t 21) (.c (.int .i64 8)), (some ((some 19), false))⟩, ⟨(some 23), .pick (.t 19) (.c (.bool true)) (.t 22), none⟩, ⟨(some 24), .mv (.t 23), none⟩, ⟨(some 25), .mv (.t 2), (some ((some 24), false))⟩, ⟨(some 26), .bin .gtr (.t 25) (.c (.int .i64 30)), (some ((some 24), false))⟩, ⟨(some 27), .pick (.t 24) (.c (.bool true)) (.t 26), none⟩] [])
  (.cond (.t 27)
    (.seq (.reg false [⟨(some 6), .mv (.c (.bool true)), none⟩] [])
    .ret)
    .skip))
  (.seq (.reg false [⟨(some 29), .mv (.t 0), none⟩, ⟨(some 30), .call 8 [(.t 29)], none⟩, ⟨(some 28), .mv (.t 30), none⟩, ⟨(some 31), .ext (.t 28) 0, none⟩, ⟨(some 32), .ext (.t 28) 1, none⟩, ⟨(some 7), .new 25 1 [.nils], none⟩, ⟨none, .store 1 (.t 7) (.t 31), none⟩, ⟨(some 8), .mv (.t 32), none⟩] [])
  (.seq (.reg false [⟨(some 34), .mv (.t 0), none⟩, ⟨(some 35), .call 9 [(.t 34)], none⟩, ⟨(some 33), .mv (.t 35), none⟩, ⟨(some 36), .ext (.t 33) 0, none⟩, ⟨(some 37), .ext (.t 33) 1, none⟩, ⟨(some 9), .mv (.t 36), none⟩, ⟨(some 10), .mv (.t 37), none⟩] [])
  (.seq (.seq (.reg false [⟨(some 38), .mv (.t 8), none⟩, ⟨(some 39), .mv (.t 10), none⟩, ⟨(some 40), .beq true (.t 38) (.t 39), none⟩, ⟨(some 41), .mv (.t 40), none⟩, ⟨(some 42), .mv (.t 8), (some ((some 41), false))⟩, ⟨(some 43), .mv (.t 42), (some ((some 41), false))⟩, ⟨(some 44), .load true 1 (.t 7), (some ((some 43), true))⟩, ⟨(some 45), .mv (.t 9), (some ((some 43), true))⟩, ⟨(some 46), .call 10 [(.t 44), (.t 45)], (some ((some 43), true))⟩, ⟨(some 47), .not (.t 46), (some ((some 43), true))⟩, ⟨(some 48), .pick (.t 43) (.t 47) (.c (.bool false)), (some ((some 41), false))⟩, ⟨(some 49), .pick (.t 41) (.c (.bool true)) (.t 48), none⟩, ⟨(some 50), .mv (.t 49), none⟩, ⟨(some 51), .mv (.t 8), (some ((some 50), false))⟩, ⟨(some 52), .not (.t 51), (some ((some 50), false))⟩, ⟨(some 53), .mv (.t 52), (some ((some 50), false))⟩, ⟨(some 54), .faddr 0 (.t 7), (some ((some 53), true))⟩, ⟨(some 55), .load false 1 (.t 54), (some ((some 53), true))⟩, ⟨(some 56), .lenL (.t 55), (some ((some 53), true))⟩, ⟨(some 57), .bin .neq (.t 56) (.c (.int .i64 0)), (some ((some 53), true))⟩, ⟨(some 58), .pick (.t 53) (.t 57) (.c (.bool false)), (some ((some 50), false))⟩, ⟨(some 59), .pick (.t 50) (.c (.bool true)) (.t 58), none⟩] [])
  (.cond (.t 59)
    (.seq (.reg false [⟨(some 6), .mv (.c (.bool false)), none⟩] [])
    .ret)
    .skip))
  (.seq (.reg false [⟨(some 60), .mv (.t 1), none⟩, ⟨(some 61), .build [.nils] [(0, 1, (.t 60))], none⟩, ⟨(some 11), .new 25 1 [.nils], none⟩, ⟨none, .store 1 (.t 11) (.t 61), none⟩] [])
  (.seq (.reg false [⟨(some 63), .load true 1 (.t 11), none⟩, ⟨(some 64), .call 11 [(.t 63)], none⟩, ⟨(some 65), .call 8 [(.t 64)], none⟩, ⟨(some 62), .mv (.t 65), none⟩, ⟨(some 66), .ext (.t 62) 0, none⟩, ⟨(some 67), .ext (.t 62) 1, none⟩, ⟨(some 12), .new 25 1 [.nils], none⟩, ⟨none, .store 1 (.t 12) (.t 66), none⟩, ⟨(some 13), .mv (.t 67), none⟩] [])
  (.seq (.reg true [⟨(some 68), .mv (.t 13), none⟩, ⟨(some 69), .mv (.t 68), none⟩, ⟨(some 70), .load true 1 (.t 12), (some ((some 69), true))⟩, ⟨(some 71), .mv (.t 1), (some ((some 69), true))⟩, ⟨(some 72), .call 12 [(.t 71)], (some ((some 69), true))⟩, ⟨(some 73), .call 10 [(.t 70), (.t 72)], (some ((some 69), true))⟩, ⟨(some 74), .pick (.t 69) (.t 73) (.c (.bool false)), none⟩, ⟨(some 75), .mv (.t 74), none⟩, ⟨(some 76), .load true 1 (.t 11), (some ((some 75), true))⟩, ⟨(some 77), .mv (.t 2), (some ((some 75), true))⟩, ⟨(some 78), .call 13 [(.t 76), (.t 77)], (some ((some 75), true))⟩, ⟨(some 79), .mv (.t 1), (some ((some 75), true))⟩, ⟨(some 80), .call 12 [(.t 79)], (some ((some 75), true))⟩, ⟨(some 81), .mv (.t 2), (some ((some 75), true))⟩, ⟨(some 82), .call 14 [(.t 80), (.t 81)], (some ((some 75), true))⟩, ⟨(some 83), .call 10 [(.t 78), (.t 82)], (some ((some 75), true))⟩, ⟨(some 84), .pick (.t 75) (.t 83) (.c (.bool false)), none⟩, ⟨(some 6), .mv (.t 84), none⟩] [0, 1, 3, 3, 11, 31, 63, 127, 255, 255, 1023, 255, 4095, 255, 16383, 32767, 65535, 131071])
  .ret)))))))))
theorem ok3 : (Go.Proofs.Tryd.f3.body).bind (comp Go.Proofs.Tryd.prog) = some c3 := by kernel_rfl
end Go.Proofs.YtnildflhdkdbiaaDoorK.NatIr
