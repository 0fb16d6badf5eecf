/-
  cubitlaw1.NatKnown answers true: it is run.
-/
import Derived.Test.YtnildflhdkdbiaaDoorKIrLNatKnown
import Derived.Test.YtnildflhdkdbiaaDoorKIrLaw1
import Derived.Test.YtnildflhdkdbiaaDoorKIrNat
import Derived.Test.YtnildflhdkdbiaaDoorKIrRef
import Derived.Test.YtnildflhdkdbiaaDoorKAwakeE1
set_option linter.all false
set_option linter.unusedVariables false
set_option linter.unusedSimpArgs false
set_option maxHeartbeats 4000000
namespace Go.Proofs.YtnildflhdkdbiaaDoorK.LawT1
open Go.Proofs.YtnildflhdkdbiaaDoorK.AI Go.Proofs.YtnildflhdkdbiaaDoorK.NatIr Go.Proofs.YtnildflhdkdbiaaDoorK.EvT
variable {G : World → Prop}
def tblK : FuncId → FnE := fun | 4 => .ir c4 172 [.tmp 0] | 7 => .ir c7 44 [.tmp 0] | 8 => .lib eParse | 10 => .ir c10 21 [.tmp 4] | 11 => .lib eText | 12 => .lib eWords | 13 => .lib ePow | 14 => .ir c14 17 [.tmp 4] | 15 => .lib eOf | 16 => .ir c16 32 [.tmp 2, .tmp 3] | 17 => .lib eSub | 18 => .lib eDiv | 19 => .lib eSmall | 20 => .ir c20 18 [.tmp 2] | 21 => .lib eGcd | 22 => .ir c22 6 [.tmp 2] | 23 => .lib eCmp | 34 => .lib eMul | 38 => .lib eRCmp | 39 => .ir c39 22 [.cell 2 true 1] | 46 => .lib eRMul | _ => .no
theorem tblK_ok (hG : Stable G) (hT : ∀ w, G w → Lib.TabIs Tryd.prog w "internal/strconv.uint64pow10" .u64 Lib.pow10Tab) (hM : ∀ w, G w → LibT.gMax w) (f : FuncId) : (tblK f).ok Tryd.prog G f := by
  unfold tblK
  split
  · exact ⟨Tryd.f4, by kernel_rfl, ok4, by kernel_rfl, by decide, by kernel_rfl, by kernel_rfl⟩
  · exact ⟨Tryd.f7, by kernel_rfl, ok7, by kernel_rfl, by decide, by kernel_rfl, by kernel_rfl⟩
  · exact eParse_ok hG
  · exact ⟨Tryd.f10, by kernel_rfl, ok10, by kernel_rfl, by decide, by kernel_rfl, by kernel_rfl⟩
  · exact eText_ok hG hT
  · exact eWords_ok hG
  · exact ePow_ok hG
  · exact ⟨Tryd.f14, by kernel_rfl, ok14, by kernel_rfl, by decide, by kernel_rfl, by kernel_rfl⟩
  · exact eOf_ok hG
  · exact ⟨Tryd.f16, by kernel_rfl, ok16, by kernel_rfl, by decide, by kernel_rfl, by kernel_rfl⟩
  · exact eSub_ok hG
  · exact eDiv_ok hG
  · exact eSmall_ok hG
  · exact ⟨Tryd.f20, by kernel_rfl, ok20, by kernel_rfl, by decide, by kernel_rfl, by kernel_rfl⟩
  · exact eGcd_ok hG
  · exact ⟨Tryd.f22, by kernel_rfl, ok22, by kernel_rfl, by decide, by kernel_rfl, by kernel_rfl⟩
  · exact eCmp_ok hG
  · exact eMul_ok hG
  · exact eRCmp_ok hG
  · exact ⟨Tryd.f39, by kernel_rfl, ok39, by kernel_rfl, by decide, by kernel_rfl, by kernel_rfl⟩
  · exact eRMul_ok hG
  · exact trivial
theorem pcr_known (hG : Stable G) (hT : ∀ w, G w → Lib.TabIs Tryd.prog w "internal/strconv.uint64pow10" .u64 Lib.pow10Tab) (hM : ∀ w, G w → LibT.gMax w) : PCr Tryd.prog G 4 [] (.bool true) :=
  evF_ok (N := 1000) hG (tblK_ok hG hT hM) 30 _ _ _ (by kernel_rfl)
end Go.Proofs.YtnildflhdkdbiaaDoorK.LawT1
