/-
  The law's helper awake: it answers true: run.
-/
import Derived.Test.YtapikjmijmebpaaGreatDoorKIrDec
import Derived.Test.YtapikjmijmebpaaGreatDoorKIrLaw18
import Derived.Test.YtapikjmijmebpaaGreatDoorKIrNat
import Derived.Test.YtapikjmijmebpaaGreatDoorKIrNum
import Derived.Test.YtapikjmijmebpaaGreatDoorKIrOper
import Derived.Test.YtapikjmijmebpaaGreatDoorKIrRat
import Derived.Test.YtapikjmijmebpaaGreatDoorKEvQ
set_option linter.all false
set_option linter.unusedVariables false
set_option linter.unusedSimpArgs false
set_option maxHeartbeats 4000000
namespace Go.Proofs.YtapikjmijmebpaaGreatDoorK.LawT18
open Go.Proofs.YtapikjmijmebpaaGreatDoorK.AI Go.Proofs.YtapikjmijmebpaaGreatDoorK.NatIr Go.Proofs.YtapikjmijmebpaaGreatDoorK.EvT
variable {G : World → Prop}
def tbl : FuncId → FnE := fun | 24 => .ir c24 26 [.tmp 2] | 26 => .lib eWords | 29 => .ir c29 76 [.cell 2 true 3, .tmp 3] | 30 => .ir c30 12 [.tmp 2] | 34 => .ir c34 20 [.cell 2 true 3] | 38 => .lib eOf | 39 => .ir c39 29 [.cell 2 true 3] | 50 => .ir c50 19 [.cell 2 true 1] | 54 => .ir c54 46 [.tmp 0] | 55 => .ir c55 28 [.cell 2 true 8] | 57 => .ir c57 21 [.tmp 2] | 58 => .ir c58 21 [.tmp 4] | 59 => .lib eSmall | 66 => .lib eQOf | 69 => .lib eCmp | 83 => .lib eText | 103 => .ir c103 18 [.tmp 2] | 104 => .ir c104 7 [.tmp 2] | 106 => .lib eCutP | 107 => .lib eCut | 108 => .lib eParse | 109 => .ir c109 35 [.tmp 2, .tmp 3] | 110 => .ir c110 8 [.cell 2 true 3] | 113 => .ir c113 2 [.cell 0 true 1] | 114 => .ir c114 6 [.cell 2 true 1] | 115 => .ir c115 10 [.tmp 2] | 116 => .ir c116 14 [.cell 2 true 3] | 117 => .lib eDiv | 124 => .lib eRCmp | 125 => .ir c125 11 [.cell 2 true 1] | 127 => .ir c127 13 [.tmp 2] | 132 => .lib ePow | 141 => .lib eRepeat | 144 => .ir c144 7 [.tmp 2] | _ => .no
theorem tbl_ok (hG : Stable G) (hT : ∀ w, G w → Lib.TabIs Tryz.prog w "internal/strconv.uint64pow10" .u64 Lib.pow10Tab) (hM : ∀ w, G w → LibT.gMax w) (f : FuncId) : (tbl f).ok Tryz.prog G f := by
  unfold tbl
  split
  · exact ⟨Tryz.f24, by kernel_rfl, ok24, by kernel_rfl, by decide, by kernel_rfl, by kernel_rfl⟩
  · exact eWords_ok hG
  · exact ⟨Tryz.f29, by kernel_rfl, ok29, by kernel_rfl, by decide, by kernel_rfl, by kernel_rfl⟩
  · exact ⟨Tryz.f30, by kernel_rfl, ok30, by kernel_rfl, by decide, by kernel_rfl, by kernel_rfl⟩
  · exact ⟨Tryz.f34, by kernel_rfl, ok34, by kernel_rfl, by decide, by kernel_rfl, by kernel_rfl⟩
  · exact eOf_ok hG
  · exact ⟨Tryz.f39, by kernel_rfl, ok39, by kernel_rfl, by decide, by kernel_rfl, by kernel_rfl⟩
  · exact ⟨Tryz.f50, by kernel_rfl, ok50, by kernel_rfl, by decide, by kernel_rfl, by kernel_rfl⟩
  · exact ⟨Tryz.f54, by kernel_rfl, ok54, by kernel_rfl, by decide, by kernel_rfl, by kernel_rfl⟩
  · exact ⟨Tryz.f55, by kernel_rfl, ok55, by kernel_rfl, by decide, by kernel_rfl, by kernel_rfl⟩
  · exact ⟨Tryz.f57, by kernel_rfl, ok57, by kernel_rfl, by decide, by kernel_rfl, by kernel_rfl⟩
  · exact ⟨Tryz.f58, by kernel_rfl, ok58, by kernel_rfl, by decide, by kernel_rfl, by kernel_rfl⟩
  · exact eSmall_ok hG
  · exact eQOf_ok hG
  · exact eCmp_ok hG
  · exact eText_ok hG hT
  · exact ⟨Tryz.f103, by kernel_rfl, ok103, by kernel_rfl, by decide, by kernel_rfl, by kernel_rfl⟩
  · exact ⟨Tryz.f104, by kernel_rfl, ok104, by kernel_rfl, by decide, by kernel_rfl, by kernel_rfl⟩
  · exact eCutP_ok
  · exact eCut_ok hM
  · exact eParse_ok hG
  · exact ⟨Tryz.f109, by kernel_rfl, ok109, by kernel_rfl, by decide, by kernel_rfl, by kernel_rfl⟩
  · exact ⟨Tryz.f110, by kernel_rfl, ok110, by kernel_rfl, by decide, by kernel_rfl, by kernel_rfl⟩
  · exact ⟨Tryz.f113, by kernel_rfl, ok113, by kernel_rfl, by decide, by kernel_rfl, by kernel_rfl⟩
  · exact ⟨Tryz.f114, by kernel_rfl, ok114, by kernel_rfl, by decide, by kernel_rfl, by kernel_rfl⟩
  · exact ⟨Tryz.f115, by kernel_rfl, ok115, by kernel_rfl, by decide, by kernel_rfl, by kernel_rfl⟩
  · exact ⟨Tryz.f116, by kernel_rfl, ok116, by kernel_rfl, by decide, by kernel_rfl, by kernel_rfl⟩
  · exact eDiv_ok hG
  · exact eRCmp_ok hG
  · exact ⟨Tryz.f125, by kernel_rfl, ok125, by kernel_rfl, by decide, by kernel_rfl, by kernel_rfl⟩
  · exact ⟨Tryz.f127, by kernel_rfl, ok127, by kernel_rfl, by decide, by kernel_rfl, by kernel_rfl⟩
  · exact ePow_ok hG
  · exact eRepeat_ok
  · exact ⟨Tryz.f144, by kernel_rfl, ok144, by kernel_rfl, by decide, by kernel_rfl, by kernel_rfl⟩
  · exact trivial
theorem pcr_awake (hG : Stable G) (hT : ∀ w, G w → Lib.TabIs Tryz.prog w "internal/strconv.uint64pow10" .u64 Lib.pow10Tab) (hM : ∀ w, G w → LibT.gMax w) : PCr Tryz.prog G 54 [] (.bool true) :=
  evF_ok (N := 1000) hG (tbl_ok hG hT hM) 30 _ _ _ (by kernel_rfl)
end Go.Proofs.YtapikjmijmebpaaGreatDoorK.LawT18
