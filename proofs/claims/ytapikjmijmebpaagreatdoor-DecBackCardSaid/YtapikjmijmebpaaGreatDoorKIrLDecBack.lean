/-
  The compiled bodies, printed: IrLDecBack.
-/
import Derived.Test.YtapikjmijmebpaaGreatDoorKAb
import Derived.Test.YtapikjmijmebpaaGreatDoorProg
set_option linter.all false
set_option linter.unusedVariables false
set_option linter.unusedSimpArgs false
set_option maxHeartbeats 4000000
namespace Go.Proofs.YtapikjmijmebpaaGreatDoorK.NatIr
open Go.Proofs.YtapikjmijmebpaaGreatDoorK.AI
/-- cubit/cubitlaw4.DecBack -/
def c9 : IR :=
  (.seq (.reg false [⟨(some 1), .box 30 3 (.t 0), none⟩, ⟨(some 2), .mv (.c (.bool false)), none⟩] [])
  (.seq (.seq (.reg false [⟨(some 8), .call 28 [], none⟩, ⟨(some 9), .not (.t 8), none⟩] [])
  (.cond (.t 9)
    (.seq (.reg false [⟨(some 2), .mv (.c (.bool false)), none⟩] [])
    .ret)
    .skip))
  (.seq (.seq (.reg false [⟨(some 10), .faddr 1 (.t 1), none⟩, ⟨(some 11), .faddr 0 (.t 10), none⟩, ⟨(some 12), .load false 1 (.t 11), none⟩, ⟨(some 13), .lenL (.t 12), none⟩, ⟨(some 14), .bin .gtr (.t 13) (.c (.int .i64 16)), none⟩, ⟨(some 15), .mv (.t 14), none⟩, ⟨(some 16), .load true 3 (.t 1), (some ((some 15), false))⟩, ⟨(some 17), .call 24 [(.t 16)], (some ((some 15), false))⟩, ⟨(some 18), .not (.t 17), (some ((some 15), false))⟩, ⟨(some 19), .pick (.t 15) (.c (.bool true)) (.t 18), none⟩] [])
  (.cond (.t 19)
    (.seq (.reg false [⟨(some 2), .mv (.c (.bool true)), none⟩] [])
    .ret)
    .skip))
  (.seq (.reg false [⟨(some 21), .load true 3 (.t 1), none⟩, ⟨(some 22), .call 32 [(.t 21)], none⟩, ⟨(some 23), .call 29 [(.t 22)], none⟩, ⟨(some 20), .mv (.t 23), none⟩, ⟨(some 24), .ext (.t 20) 0, none⟩, ⟨(some 25), .ext (.t 20) 1, none⟩, ⟨(some 3), .new 30 3 [(.bool false), .nils, (.int .i64 0)], none⟩, ⟨none, .store 3 (.t 3) (.t 24), none⟩, ⟨(some 4), .mv (.t 25), none⟩] [])
  (.seq (.reg false [⟨(some 26), .load true 3 (.t 1), none⟩, ⟨(some 27), .call 39 [(.t 26)], none⟩, ⟨(some 5), .new 30 3 [(.bool false), .nils, (.int .i64 0)], none⟩, ⟨none, .store 3 (.t 5) (.t 27), none⟩] [])
  (.seq (.reg false [⟨(some 29), .load true 3 (.t 1), none⟩, ⟨(some 30), .call 34 [(.t 29)], none⟩, ⟨(some 31), .call 36 [(.t 30), (.c (.int .i64 60))], none⟩, ⟨(some 28), .mv (.t 31), none⟩, ⟨(some 32), .ext (.t 28) 0, none⟩, ⟨(some 33), .ext (.t 28) 1, none⟩, ⟨(some 6), .new 30 3 [(.bool false), .nils, (.int .i64 0)], none⟩, ⟨none, .store 3 (.t 6) (.t 32), none⟩, ⟨(some 7), .mv (.t 33), none⟩] [])
  (.seq (.reg true [⟨(some 34), .mv (.t 4), none⟩, ⟨(some 35), .bin .eql (.t 34) (.c (.int .i64 0)), none⟩, ⟨(some 36), .mv (.t 35), none⟩, ⟨(some 37), .load true 3 (.t 3), (some ((some 36), true))⟩, ⟨(some 38), .load true 3 (.t 1), (some ((some 36), true))⟩, ⟨(some 39), .call 43 [(.t 38)], (some ((some 36), true))⟩, ⟨(some 40), .call 42 [(.t 37), (.t 39)], (some ((some 36), true))⟩, ⟨(some 41), .pick (.t 36) (.t 40) (.c (.bool false)), none⟩, ⟨(some 42), .mv (.t 41), none⟩, ⟨(some 43), .load true 3 (.t 5), (some ((some 42), true))⟩, ⟨(some 44), .call 34 [(.t 43)], (some ((some 42), true))⟩, ⟨(some 45), .load true 3 (.t 1), (some ((some 42), true))⟩, ⟨(some 46), .call 34 [(.t 45)], (some ((some 42), true))⟩, ⟨(some 47), .call 63 [(.t 44), (.t 46)], (some ((some 42), true))⟩, ⟨(some 48), .bin .eql (.t 47) (.c (.int .i64 0)), (some ((some 42), true))⟩, ⟨(some 49), .pick (.t 42) (.t 48) (.c (.bool false)), none⟩, ⟨(some 50), .mv (.t 49), none⟩, ⟨(some 51), .mv (.t 7), (some ((some 50), true))⟩, ⟨(some 52), .pick (.t 50) (.t 51) (.c (.bool false)), none⟩, ⟨(some 53), .mv (.t 52), none⟩, ⟨(some 54), .load true 3 (.t 6), (some ((some 53), true))⟩, ⟨(some 55), .load true 3 (.t 5), (some ((some 53), true))⟩, ⟨(some 56), .call 43 [(.t 55)], (some ((some 53), true))⟩, ⟨(some 57), .call 42 [(.t 54), (.t 56)], (some ((some 53), true))⟩, ⟨(some 58), .pick (.t 53) (.t 57) (.c (.bool false)), none⟩, ⟨(some 59), .mv (.t 58), none⟩, ⟨(some 60), .faddr 2 (.t 5), (some ((some 59), true))⟩, ⟨(some 61), .load false 1 (.t 60), (some ((some 59), true))⟩, ⟨(some 62), .faddr 2 (.t 1), (some ((some 59), true))⟩, ⟨(some 63), .load false 1 (.t 62), (some ((some 59), true))⟩, ⟨(some 64), .bin .leq (.t 61) (.t 63), (some ((some 59), true))⟩, ⟨(some 65), .pick (.t 59) (.t 64) (.c (.bool false)), none⟩, ⟨(some 66), .mv (.t 65), none⟩, ⟨(some 67), .load true 3 (.t 1), (some ((some 66), true))⟩, ⟨(some 68), .call 30 [(.t 67)], (some ((some 66), true))⟩, ⟨(some 69), .lenS (.t 68), (some ((some 66), true))⟩, ⟨(some 70), .faddr 2 (.t 1), (some ((some 66), true))⟩, ⟨(some 71), .load false 1 (.t 70), (some ((some 66), true))⟩, ⟨(some 72), .bin .eql (.t 69) (.t 71), (some ((some 66), true))⟩, ⟨(some 73), .pick (.t 66) (.t 72) (.c (.bool false)), none⟩, ⟨(some 2), .mv (.t 73), none⟩] [0, 1, 3, 7, 7, 23, 63, 127, 255, 511, 1023, 511, 4095, 8191, 16383, 32767, 65535, 131071, 262143, 524287, 1048575, 1048575, 3145727, 8388607, 16777215, 33554431, 67108863, 134217727, 67108863, 335544319, 1073741823, 2147483647, 4294967295, 8589934591, 17179869183, 34359738367, 8589934591, 77309411327, 274877906943, 549755813887, 1099511627775])
  .ret)))))))
theorem ok9 : (Go.Proofs.Tryz.f9.body).bind (comp Go.Proofs.Tryz.prog) = some c9 := by kernel_rfl
end Go.Proofs.YtapikjmijmebpaaGreatDoorK.NatIr
