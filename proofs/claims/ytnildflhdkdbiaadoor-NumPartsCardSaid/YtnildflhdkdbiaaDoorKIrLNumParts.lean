/-
  The compiled bodies, printed: IrLNumParts.
-/
import Derived.Test.YtnildflhdkdbiaaDoorKAb
import Derived.Test.YtnildflhdkdbiaaDoorProg
set_option linter.all false
set_option linter.unusedVariables false
set_option linter.unusedSimpArgs false
set_option maxHeartbeats 4000000
namespace Go.Proofs.YtnildflhdkdbiaaDoorK.NatIr
open Go.Proofs.YtnildflhdkdbiaaDoorK.AI
/-- cubit/cubitlaw2.NumParts -/
def c5 : IR :=
  (.seq (.reg false [⟨(some 2), .box 52 2 (.t 0), none⟩, ⟨(some 3), .box 52 2 (.t 1), none⟩, ⟨(some 4), .mv (.c (.bool false)), none⟩] [])
  (.seq (.seq (.reg false [⟨(some 9), .call 24 [], none⟩, ⟨(some 10), .not (.t 9), none⟩] [])
  (.cond (.t 10)
    (.seq (.reg false [⟨(some 4), .mv (.c (.bool false)), none⟩] [])
    .ret)
    .skip))
  (.seq (.seq (.reg false [⟨(some 11), .load true 2 (.t 2), none⟩, ⟨(some 12), .call 25 [(.t 11)], none⟩, ⟨(some 13), .mv (.t 12), none⟩, ⟨(some 14), .load true 2 (.t 3), (some ((some 13), false))⟩, ⟨(some 15), .call 25 [(.t 14)], (some ((some 13), false))⟩, ⟨(some 16), .pick (.t 13) (.c (.bool true)) (.t 15), none⟩] [])
  (.cond (.t 16)
    (.seq (.reg false [⟨(some 4), .mv (.c (.bool true)), none⟩] [])
    .ret)
    .skip))
  (.seq (.reg false [⟨(some 18), .load true 2 (.t 2), none⟩, ⟨(some 19), .load true 2 (.t 3), none⟩, ⟨(some 20), .call 26 [(.t 18), (.t 19)], none⟩, ⟨(some 17), .mv (.t 20), none⟩, ⟨(some 21), .ext (.t 17) 0, none⟩, ⟨(some 22), .ext (.t 17) 1, none⟩, ⟨(some 23), .ext (.t 17) 2, none⟩, ⟨(some 5), .new 52 2 [(.bool false), .nils], none⟩, ⟨(some 6), .new 52 2 [(.bool false), .nils], none⟩, ⟨none, .store 2 (.t 5) (.t 21), none⟩, ⟨none, .store 2 (.t 6) (.t 22), none⟩, ⟨(some 7), .mv (.t 23), none⟩] [])
  (.seq (.seq (.reg false [⟨(some 24), .mv (.t 7), none⟩, ⟨(some 25), .not (.t 24), none⟩] [])
  (.cond (.t 25)
    (.seq (.reg false [⟨(some 26), .load true 2 (.t 3), none⟩, ⟨(some 27), .call 27 [(.t 26)], none⟩, ⟨(some 28), .bin .eql (.t 27) (.c (.int .i64 0)), none⟩, ⟨(some 4), .mv (.t 28), none⟩] [])
    .ret)
    .skip))
  (.seq (.reg false [⟨(some 29), .load true 2 (.t 3), none⟩, ⟨(some 8), .new 52 2 [(.bool false), .nils], none⟩, ⟨none, .store 2 (.t 8) (.t 29), none⟩] [])
  (.seq (.seq (.reg false [⟨(some 30), .load true 2 (.t 3), none⟩, ⟨(some 31), .call 27 [(.t 30)], none⟩, ⟨(some 32), .bin .lss (.t 31) (.c (.int .i64 0)), none⟩] [])
  (.cond (.t 32)
    (.reg false [⟨(some 33), .load true 2 (.t 3), none⟩, ⟨(some 34), .call 28 [(.t 33)], none⟩, ⟨none, .store 2 (.t 8) (.t 34), none⟩] [])
    .skip))
  (.seq (.reg true [⟨(some 35), .load true 2 (.t 6), none⟩, ⟨(some 36), .call 27 [(.t 35)], none⟩, ⟨(some 37), .bin .geq (.t 36) (.c (.int .i64 0)), none⟩, ⟨(some 38), .mv (.t 37), none⟩, ⟨(some 39), .load true 2 (.t 6), (some ((some 38), true))⟩, ⟨(some 40), .load true 2 (.t 8), (some ((some 38), true))⟩, ⟨(some 41), .call 29 [(.t 39), (.t 40)], (some ((some 38), true))⟩, ⟨(some 42), .bin .lss (.t 41) (.c (.int .i64 0)), (some ((some 38), true))⟩, ⟨(some 43), .pick (.t 38) (.t 42) (.c (.bool false)), none⟩, ⟨(some 44), .mv (.t 43), none⟩, ⟨(some 45), .load true 2 (.t 5), (some ((some 44), true))⟩, ⟨(some 46), .load true 2 (.t 3), (some ((some 44), true))⟩, ⟨(some 47), .call 31 [(.t 45), (.t 46)], (some ((some 44), true))⟩, ⟨(some 48), .load true 2 (.t 6), (some ((some 44), true))⟩, ⟨(some 49), .call 30 [(.t 47), (.t 48)], (some ((some 44), true))⟩, ⟨(some 50), .load true 2 (.t 2), (some ((some 44), true))⟩, ⟨(some 51), .call 29 [(.t 49), (.t 50)], (some ((some 44), true))⟩, ⟨(some 52), .bin .eql (.t 51) (.c (.int .i64 0)), (some ((some 44), true))⟩, ⟨(some 53), .pick (.t 44) (.t 52) (.c (.bool false)), none⟩, ⟨(some 4), .mv (.t 53), none⟩] [0, 1, 3, 7, 15, 15, 63, 127, 255, 511, 1023, 1023, 4095, 1023, 16383, 1023, 65535, 131071, 262143, 524287])
  .ret))))))))
theorem ok5 : (Go.Proofs.Tryd.f5.body).bind (comp Go.Proofs.Tryd.prog) = some c5 := by kernel_rfl
end Go.Proofs.YtnildflhdkdbiaaDoorK.NatIr
