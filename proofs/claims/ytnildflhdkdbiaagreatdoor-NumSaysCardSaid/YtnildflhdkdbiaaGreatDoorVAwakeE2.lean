/-
  The law's helper awake: it answers true: run.
-/
import Derived.Test.YtnildflhdkdbiaaGreatDoorVIrLaw2
import Derived.Test.YtnildflhdkdbiaaGreatDoorVIrNat
import Derived.Test.YtnildflhdkdbiaaGreatDoorVIrNum
import Derived.Test.YtnildflhdkdbiaaGreatDoorVIrRefZ
import Derived.Test.YtnildflhdkdbiaaGreatDoorVEvL
set_option linter.all false
set_option linter.unusedVariables false
set_option linter.unusedSimpArgs false
set_option maxHeartbeats 4000000
namespace Go.Proofs.YtnildflhdkdbiaaGreatDoorV.LawT2
open Go.Proofs.YtnildflhdkdbiaaGreatDoorV.AI Go.Proofs.YtnildflhdkdbiaaGreatDoorV.NatIr Go.Proofs.YtnildflhdkdbiaaGreatDoorV.EvT
variable {G : World → Prop}
def tbl : FuncId → FnE := fun | 14 => .lib eWords | 15 => .lib eSub | 16 => .lib eRCmp | 19 => .lib eDiv | 21 => .lib eCmp | 22 => .lib eAdd | 23 => .lib eRAdd | 26 => .lib eText | 30 => .ir c30 32 [.tmp 0] | 32 => .ir c32 48 [.cell 4 true 2, .cell 5 true 2, .tmp 6] | 33 => .ir c33 14 [.cell 2 true 2] | 34 => .ir c34 16 [.tmp 2] | 35 => .ir c35 10 [.tmp 2] | 37 => .ir c37 13 [.tmp 2] | 38 => .ir c38 21 [.tmp 4] | 39 => .ir c39 17 [.cell 2 true 2] | 53 => .ir c53 18 [.tmp 2] | 56 => .lib eOf | 85 => .lib eSmall | 103 => .ir c103 16 [.cell 4 true 2] | 104 => .ir c104 7 [.tmp 2] | 105 => .ir c105 21 [.tmp 4] | _ => .no
theorem tbl_ok (hG : Stable G) (hT : ∀ w, G w → Lib.TabIs Tryz.prog w "internal/strconv.uint64pow10" .u64 Lib.pow10Tab) (hM : ∀ w, G w → LibT.gMax w) (f : FuncId) : (tbl f).ok Tryz.prog G f := by
  unfold tbl
  split
  · exact eWords_ok hG
  · exact eSub_ok hG
  · exact eRCmp_ok hG
  · exact eDiv_ok hG
  · exact eCmp_ok hG
  · exact eAdd_ok hG
  · exact eRAdd_ok hG
  · exact eText_ok hG hT
  · exact ⟨Tryz.f30, by kernel_rfl, ok30, by kernel_rfl, by decide, by kernel_rfl, by kernel_rfl⟩
  · exact ⟨Tryz.f32, by kernel_rfl, ok32, by kernel_rfl, by decide, by kernel_rfl, by kernel_rfl⟩
  · exact ⟨Tryz.f33, by kernel_rfl, ok33, by kernel_rfl, by decide, by kernel_rfl, by kernel_rfl⟩
  · exact ⟨Tryz.f34, by kernel_rfl, ok34, by kernel_rfl, by decide, by kernel_rfl, by kernel_rfl⟩
  · exact ⟨Tryz.f35, by kernel_rfl, ok35, by kernel_rfl, by decide, by kernel_rfl, by kernel_rfl⟩
  · exact ⟨Tryz.f37, by kernel_rfl, ok37, by kernel_rfl, by decide, by kernel_rfl, by kernel_rfl⟩
  · exact ⟨Tryz.f38, by kernel_rfl, ok38, by kernel_rfl, by decide, by kernel_rfl, by kernel_rfl⟩
  · exact ⟨Tryz.f39, by kernel_rfl, ok39, by kernel_rfl, by decide, by kernel_rfl, by kernel_rfl⟩
  · exact ⟨Tryz.f53, by kernel_rfl, ok53, by kernel_rfl, by decide, by kernel_rfl, by kernel_rfl⟩
  · exact eOf_ok hG
  · exact eSmall_ok hG
  · exact ⟨Tryz.f103, by kernel_rfl, ok103, by kernel_rfl, by decide, by kernel_rfl, by kernel_rfl⟩
  · exact ⟨Tryz.f104, by kernel_rfl, ok104, by kernel_rfl, by decide, by kernel_rfl, by kernel_rfl⟩
  · exact ⟨Tryz.f105, by kernel_rfl, ok105, by kernel_rfl, by decide, by kernel_rfl, by kernel_rfl⟩
  · exact trivial
theorem pcr_awake (hG : Stable G) (hT : ∀ w, G w → Lib.TabIs Tryz.prog w "internal/strconv.uint64pow10" .u64 Lib.pow10Tab) (hM : ∀ w, G w → LibT.gMax w) : PCr Tryz.prog G 30 [] (.bool true) :=
  evF_ok (N := 1000) hG (tbl_ok hG hT hM) 30 _ _ _ (by kernel_rfl)
end Go.Proofs.YtnildflhdkdbiaaGreatDoorV.LawT2
