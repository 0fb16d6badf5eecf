/-
  The compiled bodies, printed: IrLib.
-/
import Derived.Test.YticocfhgopppjaaDoorKAb
import Derived.Test.YticocfhgopppjaaDoorProg
set_option linter.all false
set_option linter.unusedVariables false
set_option linter.unusedSimpArgs false
set_option maxHeartbeats 4000000
namespace Go.Proofs.YticocfhgopppjaaDoorK.NatIr
open Go.Proofs.YticocfhgopppjaaDoorK.AI
def c28 : IR :=
  (.seq (.reg false [⟨(some 4), .mv (.c (.bool false)), none⟩] [])
  (.seq (.reg false [⟨(some 5), .mv (.t 0), none⟩, ⟨(some 6), .mv (.t 1), none⟩, ⟨(some 7), .call 34 [(.t 5), (.t 6)], none⟩, ⟨(some 8), .bin .geq (.t 7) (.c (.int .i64 0)), none⟩, ⟨(some 4), .mv (.t 8), none⟩] [])
  .ret))
theorem ok28 : (Go.Proofs.Tryd.f28.body).bind (comp Go.Proofs.Tryd.prog) = some c28 := by kernel_rfl
def c34 : IR :=
  (.seq (.reg false [⟨(some 4), .mv (.c (.int .i64 0)), none⟩] [])
  (.seq (.seq (.reg false [⟨(some 6), .mv (.t 0), none⟩, ⟨(some 7), .lenL (.t 6), none⟩, ⟨(some 8), .mv (.c (.int .i64 0)), none⟩] [])
  (.block 0 (.loop (.seq (.reg false [⟨(some 9), .bin .lss (.t 8) (.t 7), none⟩] [])
      (.seq (.cond (.t 9)
        .skip
        (.exit 0))
      (.seq (.block 1 (.seq (.reg false [⟨(some 10), .mv (.t 8), none⟩, ⟨(some 5), .mv (.t 10), none⟩] [])
        (.seq (.reg false [⟨(some 11), .mv (.t 1), none⟩, ⟨(some 12), .mv (.t 0), none⟩, ⟨(some 13), .mv (.t 5), none⟩, ⟨(some 14), .iaddrS 1 (.t 12) (.t 13), none⟩, ⟨(some 15), .load false 1 (.t 14), none⟩, ⟨(some 16), .dcall (.t 11) [(.t 15)], none⟩] [])
        (.cond (.t 16)
          (.seq (.reg false [⟨(some 17), .mv (.t 5), none⟩, ⟨(some 4), .mv (.t 17), none⟩] [])
          .ret)
          .skip))))
      (.reg false [⟨(some 18), .bin .add (.t 8) (.c (.int .i64 1)), none⟩, ⟨(some 8), .mv (.t 18), none⟩] [])))))))
  (.seq (.reg false [⟨(some 4), .mv (.c (.int .i64 (-1))), none⟩] [])
  .ret)))
theorem ok34 : (Go.Proofs.Tryd.f34.body).bind (comp Go.Proofs.Tryd.prog) = some c34 := by kernel_rfl
end Go.Proofs.YticocfhgopppjaaDoorK.NatIr
