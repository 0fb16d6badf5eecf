/-
  The compiled bodies, printed: IrLRatLowest.
-/
import Derived.Test.YtnildflhdkdbiaaGreatDoorKAb
import Derived.Test.YtnildflhdkdbiaaGreatDoorProg
set_option linter.all false
set_option linter.unusedVariables false
set_option linter.unusedSimpArgs false
set_option maxHeartbeats 4000000
namespace Go.Proofs.YtnildflhdkdbiaaGreatDoorK.NatIr
open Go.Proofs.YtnildflhdkdbiaaGreatDoorK.AI
/-- cubit/cubitlaw3.RatLowest -/
def c7 : IR :=
  (.seq (.reg false [⟨(some 6), .mv (.c (.bool false)), none⟩] [])
  (.seq (.seq (.reg false [⟨(some 11), .call 54 [], none⟩, ⟨(some 12), .not (.t 11), none⟩] [])
  (.cond (.t 12)
    (.seq (.reg false [⟨(some 6), .mv (.c (.bool false)), none⟩] [])
    .ret)
    .skip))
  (.seq (.seq (.reg false [⟨(some 13), .mv (.t 2), none⟩, ⟨(some 14), .bin .eql (.t 13) (.c (.int .u64 0)), none⟩] [])
  (.cond (.t 14)
    (.seq (.reg false [⟨(some 6), .mv (.c (.bool true)), none⟩] [])
    .ret)
    .skip))
  (.seq (.reg false [⟨(some 16), .mv (.t 0), none⟩, ⟨(some 17), .call 33 [(.t 16)], none⟩, ⟨(some 18), .mv (.t 1), none⟩, ⟨(some 19), .call 56 [(.t 18)], none⟩, ⟨(some 20), .call 55 [(.t 17), (.t 19)], none⟩, ⟨(some 15), .mv (.t 20), none⟩, ⟨(some 21), .ext (.t 15) 0, none⟩, ⟨(some 22), .ext (.t 15) 1, none⟩, ⟨(some 7), .new 75 3 [(.bool false), .nils, .nils], none⟩, ⟨none, .store 3 (.t 7) (.t 21), none⟩, ⟨(some 8), .mv (.t 22), none⟩] [])
  (.seq (.reg false [⟨(some 24), .mv (.t 0), none⟩, ⟨(some 25), .call 33 [(.t 24)], none⟩, ⟨(some 26), .mv (.t 2), none⟩, ⟨(some 27), .call 56 [(.t 26)], none⟩, ⟨(some 28), .build [(.bool false), .nils] [(1, 1, (.t 27))], none⟩, ⟨(some 29), .call 50 [(.t 25), (.t 28)], none⟩, ⟨(some 30), .mv (.t 1), none⟩, ⟨(some 31), .call 56 [(.t 30)], none⟩, ⟨(some 32), .mv (.t 2), none⟩, ⟨(some 33), .call 56 [(.t 32)], none⟩, ⟨(some 34), .call 24 [(.t 31), (.t 33)], none⟩, ⟨(some 35), .call 55 [(.t 29), (.t 34)], none⟩, ⟨(some 23), .mv (.t 35), none⟩, ⟨(some 36), .ext (.t 23) 0, none⟩, ⟨(some 37), .ext (.t 23) 1, none⟩, ⟨(some 9), .new 75 3 [(.bool false), .nils, .nils], none⟩, ⟨none, .store 3 (.t 9) (.t 36), none⟩, ⟨(some 10), .mv (.t 37), none⟩] [])
  (.seq (.seq (.reg false [⟨(some 38), .mv (.t 8), none⟩, ⟨(some 39), .not (.t 38), none⟩, ⟨(some 40), .mv (.t 39), none⟩, ⟨(some 41), .mv (.t 10), (some ((some 40), false))⟩, ⟨(some 42), .not (.t 41), (some ((some 40), false))⟩, ⟨(some 43), .pick (.t 40) (.c (.bool true)) (.t 42), none⟩] [])
  (.cond (.t 43)
    (.seq (.reg false [⟨(some 44), .mv (.t 1), none⟩, ⟨(some 45), .bin .eql (.t 44) (.c (.int .u64 0)), none⟩, ⟨(some 46), .mv (.t 45), none⟩, ⟨(some 47), .mv (.t 8), (some ((some 46), true))⟩, ⟨(some 48), .not (.t 47), (some ((some 46), true))⟩, ⟨(some 49), .pick (.t 46) (.t 48) (.c (.bool false)), none⟩, ⟨(some 50), .mv (.t 49), none⟩, ⟨(some 51), .mv (.t 10), (some ((some 50), true))⟩, ⟨(some 52), .not (.t 51), (some ((some 50), true))⟩, ⟨(some 53), .pick (.t 50) (.t 52) (.c (.bool false)), none⟩, ⟨(some 6), .mv (.t 53), none⟩] [])
    .ret)
    .skip))
  (.seq (.reg true [⟨(some 54), .load true 3 (.t 7), none⟩, ⟨(some 55), .call 57 [(.t 54)], none⟩, ⟨(some 56), .mv (.t 55), none⟩, ⟨(some 57), .load true 3 (.t 9), (some ((some 56), true))⟩, ⟨(some 58), .call 57 [(.t 57)], (some ((some 56), true))⟩, ⟨(some 59), .pick (.t 56) (.t 58) (.c (.bool false)), none⟩, ⟨(some 60), .mv (.t 59), none⟩, ⟨(some 61), .load true 3 (.t 7), (some ((some 60), true))⟩, ⟨(some 62), .call 58 [(.t 61)], (some ((some 60), true))⟩, ⟨(some 63), .load true 3 (.t 9), (some ((some 60), true))⟩, ⟨(some 64), .call 58 [(.t 63)], (some ((some 60), true))⟩, ⟨(some 65), .bin .eql (.t 62) (.t 64), (some ((some 60), true))⟩, ⟨(some 66), .pick (.t 60) (.t 65) (.c (.bool false)), none⟩, ⟨(some 67), .mv (.t 66), none⟩, ⟨(some 68), .faddr 0 (.t 7), (some ((some 67), true))⟩, ⟨(some 69), .faddr 1 (.t 68), (some ((some 67), true))⟩, ⟨(some 70), .load true 1 (.t 69), (some ((some 67), true))⟩, ⟨(some 71), .faddr 2 (.t 7), (some ((some 67), true))⟩, ⟨(some 72), .load true 1 (.t 71), (some ((some 67), true))⟩, ⟨(some 73), .call 28 [(.t 70), (.t 72)], (some ((some 67), true))⟩, ⟨(some 74), .call 56 [(.c (.int .u64 1))], (some ((some 67), true))⟩, ⟨(some 75), .call 21 [(.t 73), (.t 74)], (some ((some 67), true))⟩, ⟨(some 76), .bin .eql (.t 75) (.c (.int .i64 0)), (some ((some 67), true))⟩, ⟨(some 77), .pick (.t 67) (.t 76) (.c (.bool false)), none⟩, ⟨(some 6), .mv (.t 77), none⟩] [0, 1, 3, 7, 15, 31, 63, 127, 255, 127, 1023, 2047, 4095, 8191, 16383, 32767, 65535, 16383, 147455, 524287, 1048575, 2097151, 4194303, 8388607, 16777215])
  .ret)))))))
theorem ok7 : (Go.Proofs.Tryz.f7.body).bind (comp Go.Proofs.Tryz.prog) = some c7 := by kernel_rfl
end Go.Proofs.YtnildflhdkdbiaaGreatDoorK.NatIr
