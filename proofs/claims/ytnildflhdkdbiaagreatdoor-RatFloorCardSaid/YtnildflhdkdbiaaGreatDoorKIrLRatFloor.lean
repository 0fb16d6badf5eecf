/-
  The compiled bodies, printed: IrLRatFloor.
-/
import Derived.Test.YtnildflhdkdbiaaGreatDoorKAb
import Derived.Test.YtnildflhdkdbiaaGreatDoorProg
set_option linter.all false
set_option linter.unusedVariables false
set_option linter.unusedSimpArgs false
set_option maxHeartbeats 4000000
namespace Go.Proofs.YtnildflhdkdbiaaGreatDoorK.NatIr
open Go.Proofs.YtnildflhdkdbiaaGreatDoorK.AI
/-- cubit/cubitlaw3.RatFloor -/
def c8 : IR :=
  (.seq (.reg false [⟨(some 1), .box 75 3 (.t 0), none⟩, ⟨(some 2), .mv (.c (.bool false)), none⟩] [])
  (.seq (.seq (.reg false [⟨(some 6), .call 54 [], none⟩, ⟨(some 7), .not (.t 6), none⟩] [])
  (.cond (.t 7)
    (.seq (.reg false [⟨(some 2), .mv (.c (.bool false)), none⟩] [])
    .ret)
    .skip))
  (.seq (.seq (.reg false [⟨(some 8), .load true 3 (.t 1), none⟩, ⟨(some 9), .call 59 [(.t 8)], none⟩] [])
  (.cond (.t 9)
    (.seq (.reg false [⟨(some 2), .mv (.c (.bool true)), none⟩] [])
    .ret)
    .skip))
  (.seq (.reg false [⟨(some 10), .load true 3 (.t 1), none⟩, ⟨(some 11), .call 60 [(.t 10)], none⟩, ⟨(some 3), .new 44 2 [(.bool false), .nils], none⟩, ⟨none, .store 2 (.t 3) (.t 11), none⟩] [])
  (.seq (.reg true [⟨(some 13), .load true 2 (.t 3), none⟩, ⟨(some 14), .call 56 [(.c (.int .u64 1))], none⟩, ⟨(some 15), .call 55 [(.t 13), (.t 14)], none⟩, ⟨(some 12), .mv (.t 15), none⟩, ⟨(some 16), .ext (.t 12) 0, none⟩, ⟨(some 17), .ext (.t 12) 1, none⟩, ⟨(some 4), .new 75 3 [(.bool false), .nils, .nils], none⟩, ⟨none, .store 3 (.t 4) (.t 16), none⟩, ⟨(some 5), .mv (.t 17), none⟩] [0, 0, 3, 7, 15, 15, 0, 95, 255])
  (.seq (.reg true [⟨(some 18), .mv (.t 5), none⟩, ⟨(some 19), .mv (.t 18), none⟩, ⟨(some 20), .load true 3 (.t 4), (some ((some 19), true))⟩, ⟨(some 21), .load true 3 (.t 1), (some ((some 19), true))⟩, ⟨(some 22), .call 61 [(.t 20), (.t 21)], (some ((some 19), true))⟩, ⟨(some 23), .bin .leq (.t 22) (.c (.int .i64 0)), (some ((some 19), true))⟩, ⟨(some 24), .pick (.t 19) (.t 23) (.c (.bool false)), none⟩, ⟨(some 25), .mv (.t 24), none⟩, ⟨(some 26), .load true 3 (.t 1), (some ((some 25), true))⟩, ⟨(some 27), .load true 3 (.t 4), (some ((some 25), true))⟩, ⟨(some 28), .call 63 [(.c (.int .i64 1))], (some ((some 25), true))⟩, ⟨(some 29), .call 62 [(.t 27), (.t 28)], (some ((some 25), true))⟩, ⟨(some 30), .call 61 [(.t 26), (.t 29)], (some ((some 25), true))⟩, ⟨(some 31), .bin .lss (.t 30) (.c (.int .i64 0)), (some ((some 25), true))⟩, ⟨(some 32), .pick (.t 25) (.t 31) (.c (.bool false)), none⟩, ⟨(some 2), .mv (.t 32), none⟩] [0, 1, 3, 3, 15, 31, 63, 127, 255, 255, 255, 1791, 4095, 8191, 16383, 32767])
  .ret))))))
theorem ok8 : (Go.Proofs.Tryz.f8.body).bind (comp Go.Proofs.Tryz.prog) = some c8 := by kernel_rfl
end Go.Proofs.YtnildflhdkdbiaaGreatDoorK.NatIr
