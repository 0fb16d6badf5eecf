/-
  The compiled bodies, printed: IrRefZ.
-/
import Derived.Test.YtnildflhdkdbiaaDoorKAb
import Derived.Test.YtnildflhdkdbiaaDoorProg
set_option linter.all false
set_option linter.unusedVariables false
set_option linter.unusedSimpArgs false
set_option maxHeartbeats 4000000
namespace Go.Proofs.YtnildflhdkdbiaaDoorK.NatIr
open Go.Proofs.YtnildflhdkdbiaaDoorK.AI
/-- cubit/cubitref1.ZInt -/
def c55 : IR :=
  (.seq (.reg false [⟨(some 2), .new 89 2 [(.bool false), .nils], none⟩] [])
  (.seq (.seq (.reg false [⟨(some 3), .mv (.t 0), none⟩, ⟨(some 4), .bin .lss (.t 3) (.c (.int .i64 0)), none⟩] [])
  (.cond (.t 4)
    (.seq (.reg false [⟨(some 5), .mv (.t 0), none⟩, ⟨(some 6), .bin .add (.t 5) (.c (.int .i64 1)), none⟩, ⟨(some 7), .neg (.t 6), none⟩, ⟨(some 8), .conv .u64 (.t 7), none⟩, ⟨(some 9), .call 19 [(.t 8)], none⟩, ⟨(some 10), .call 19 [(.c (.int .u64 1))], none⟩, ⟨(some 11), .call 45 [(.t 9), (.t 10)], none⟩, ⟨(some 12), .build [(.bool false), .nils] [(0, 1, (.c (.bool true))), (1, 1, (.t 11))], none⟩, ⟨none, .store 2 (.t 2) (.t 12), none⟩] [])
    .ret)
    .skip))
  (.seq (.reg false [⟨(some 13), .mv (.t 0), none⟩, ⟨(some 14), .conv .u64 (.t 13), none⟩, ⟨(some 15), .call 19 [(.t 14)], none⟩, ⟨(some 16), .build [(.bool false), .nils] [(0, 1, (.c (.bool false))), (1, 1, (.t 15))], none⟩, ⟨none, .store 2 (.t 2) (.t 16), none⟩] [])
  .ret)))
theorem ok55 : (Go.Proofs.Tryd.f55.body).bind (comp Go.Proofs.Tryd.prog) = some c55 := by kernel_rfl
end Go.Proofs.YtnildflhdkdbiaaDoorK.NatIr
