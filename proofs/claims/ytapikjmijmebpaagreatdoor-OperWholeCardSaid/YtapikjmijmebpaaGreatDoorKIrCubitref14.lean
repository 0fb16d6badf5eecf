/-
  The compiled bodies, printed: IrCubitref14.
-/
import Derived.Test.YtapikjmijmebpaaGreatDoorKAb
import Derived.Test.YtapikjmijmebpaaGreatDoorProg
set_option linter.all false
set_option linter.unusedVariables false
set_option linter.unusedSimpArgs false
set_option maxHeartbeats 4000000
namespace Go.Proofs.YtapikjmijmebpaaGreatDoorK.NatIr
open Go.Proofs.YtapikjmijmebpaaGreatDoorK.AI
/-- cubit/cubitref14.Abs -/
def c128 : IR :=
  (.seq (.reg false [⟨(some 1), .box 38 3 (.t 0), none⟩, ⟨(some 2), .new 38 3 [(.bool false), .nils, .nils], none⟩] [])
  (.seq (.reg true [⟨(some 3), .faddr 0 (.t 1), none⟩, ⟨(some 4), .faddr 1 (.t 3), none⟩, ⟨(some 5), .load false 1 (.t 4), none⟩, ⟨(some 6), .call 73 [(.c (.bool false)), (.t 5)], none⟩, ⟨(some 7), .faddr 2 (.t 1), none⟩, ⟨(some 8), .load false 1 (.t 7), none⟩, ⟨(some 9), .build [(.bool false), .nils, .nils] [(0, 2, (.t 6)), (2, 1, (.t 8))], none⟩, ⟨none, .store 3 (.t 2) (.t 9), none⟩] [0, 1, 3, 7, 0, 16, 63, 127])
  .ret))
theorem ok128 : (Go.Proofs.Tryz.f128.body).bind (comp Go.Proofs.Tryz.prog) = some c128 := by kernel_rfl
end Go.Proofs.YtapikjmijmebpaaGreatDoorK.NatIr
