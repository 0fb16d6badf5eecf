/-
  cubitlaw4.DecKnown answers true: it is run.
-/
import Derived.Test.YtapikjmijmebpaaGreatDoorKIrDec
import Derived.Test.YtapikjmijmebpaaGreatDoorKIrLDecKnown
import Derived.Test.YtapikjmijmebpaaGreatDoorKIrLaw4
import Derived.Test.YtapikjmijmebpaaGreatDoorKIrNat
import Derived.Test.YtapikjmijmebpaaGreatDoorKIrNum
import Derived.Test.YtapikjmijmebpaaGreatDoorKAwakeE4
set_option linter.all false
set_option linter.unusedVariables false
set_option linter.unusedSimpArgs false
set_option maxHeartbeats 4000000
namespace Go.Proofs.YtapikjmijmebpaaGreatDoorK.LawT4
open Go.Proofs.YtapikjmijmebpaaGreatDoorK.AI Go.Proofs.YtapikjmijmebpaaGreatDoorK.NatIr Go.Proofs.YtapikjmijmebpaaGreatDoorK.EvT
variable {G : World → Prop}
def tblK : FuncId → FnE := fun | 5 => .ir c5 181 [.tmp 0] | 24 => .ir c24 26 [.tmp 2] | 26 => .lib eWords | 28 => .ir c28 35 [.tmp 0] | 29 => .ir c29 76 [.cell 2 true 3, .tmp 3] | 30 => .ir c30 12 [.tmp 2] | 32 => .ir c32 23 [.tmp 2] | 36 => .ir c36 46 [.cell 4 true 3, .tmp 5] | 37 => .ir c37 14 [.cell 2 true 2] | 38 => .lib eOf | 39 => .ir c39 29 [.cell 2 true 3] | 49 => .ir c49 21 [.tmp 4] | 50 => .ir c50 19 [.cell 2 true 1] | 59 => .lib eSmall | 65 => .lib eQInt | 67 => .lib eQAdd | 69 => .lib eCmp | 83 => .lib eText | 103 => .ir c103 18 [.tmp 2] | 104 => .ir c104 7 [.tmp 2] | 106 => .lib eCutP | 107 => .lib eCut | 108 => .lib eParse | 109 => .ir c109 35 [.tmp 2, .tmp 3] | 110 => .ir c110 8 [.cell 2 true 3] | 114 => .ir c114 6 [.cell 2 true 1] | 117 => .lib eDiv | 118 => .lib eMul | 119 => .ir c119 16 [.cell 4 true 2] | 124 => .lib eRCmp | 132 => .lib ePow | 137 => .lib eAdd | 141 => .lib eRepeat | 144 => .ir c144 7 [.tmp 2] | _ => .no
theorem tblK_ok (hG : Stable G) (hT : ∀ w, G w → Lib.TabIs Tryz.prog w "internal/strconv.uint64pow10" .u64 Lib.pow10Tab) (hM : ∀ w, G w → LibT.gMax w) (f : FuncId) : (tblK f).ok Tryz.prog G f := by
  unfold tblK
  split
  · exact ⟨Tryz.f5, by kernel_rfl, ok5, by kernel_rfl, by decide, by kernel_rfl, by kernel_rfl⟩
  · exact ⟨Tryz.f24, by kernel_rfl, ok24, by kernel_rfl, by decide, by kernel_rfl, by kernel_rfl⟩
  · exact eWords_ok hG
  · exact ⟨Tryz.f28, by kernel_rfl, ok28, by kernel_rfl, by decide, by kernel_rfl, by kernel_rfl⟩
  · exact ⟨Tryz.f29, by kernel_rfl, ok29, by kernel_rfl, by decide, by kernel_rfl, by kernel_rfl⟩
  · exact ⟨Tryz.f30, by kernel_rfl, ok30, by kernel_rfl, by decide, by kernel_rfl, by kernel_rfl⟩
  · exact ⟨Tryz.f32, by kernel_rfl, ok32, by kernel_rfl, by decide, by kernel_rfl, by kernel_rfl⟩
  · exact ⟨Tryz.f36, by kernel_rfl, ok36, by kernel_rfl, by decide, by kernel_rfl, by kernel_rfl⟩
  · exact ⟨Tryz.f37, by kernel_rfl, ok37, by kernel_rfl, by decide, by kernel_rfl, by kernel_rfl⟩
  · exact eOf_ok hG
  · exact ⟨Tryz.f39, by kernel_rfl, ok39, by kernel_rfl, by decide, by kernel_rfl, by kernel_rfl⟩
  · exact ⟨Tryz.f49, by kernel_rfl, ok49, by kernel_rfl, by decide, by kernel_rfl, by kernel_rfl⟩
  · exact ⟨Tryz.f50, by kernel_rfl, ok50, by kernel_rfl, by decide, by kernel_rfl, by kernel_rfl⟩
  · exact eSmall_ok hG
  · exact eQInt_ok hG
  · exact eQAdd_ok hG
  · exact eCmp_ok hG
  · exact eText_ok hG hT
  · exact ⟨Tryz.f103, by kernel_rfl, ok103, by kernel_rfl, by decide, by kernel_rfl, by kernel_rfl⟩
  · exact ⟨Tryz.f104, by kernel_rfl, ok104, by kernel_rfl, by decide, by kernel_rfl, by kernel_rfl⟩
  · exact eCutP_ok
  · exact eCut_ok hM
  · exact eParse_ok hG
  · exact ⟨Tryz.f109, by kernel_rfl, ok109, by kernel_rfl, by decide, by kernel_rfl, by kernel_rfl⟩
  · exact ⟨Tryz.f110, by kernel_rfl, ok110, by kernel_rfl, by decide, by kernel_rfl, by kernel_rfl⟩
  · exact ⟨Tryz.f114, by kernel_rfl, ok114, by kernel_rfl, by decide, by kernel_rfl, by kernel_rfl⟩
  · exact eDiv_ok hG
  · exact eMul_ok hG
  · exact ⟨Tryz.f119, by kernel_rfl, ok119, by kernel_rfl, by decide, by kernel_rfl, by kernel_rfl⟩
  · exact eRCmp_ok hG
  · exact ePow_ok hG
  · exact eAdd_ok hG
  · exact eRepeat_ok
  · exact ⟨Tryz.f144, by kernel_rfl, ok144, by kernel_rfl, by decide, by kernel_rfl, by kernel_rfl⟩
  · exact trivial
theorem pcr_known (hG : Stable G) (hT : ∀ w, G w → Lib.TabIs Tryz.prog w "internal/strconv.uint64pow10" .u64 Lib.pow10Tab) (hM : ∀ w, G w → LibT.gMax w) : PCr Tryz.prog G 5 [] (.bool true) :=
  evF_ok (N := 1000) hG (tblK_ok hG hT hM) 30 _ _ _ (by kernel_rfl)
end Go.Proofs.YtapikjmijmebpaaGreatDoorK.LawT4
