/-
  The law's helper awake: it answers true: run.
-/
import Derived.Test.YtnildflhdkdbiaaDoorKIrLaw1
import Derived.Test.YtnildflhdkdbiaaDoorKIrNat
import Derived.Test.YtnildflhdkdbiaaDoorKEvL
set_option linter.all false
set_option linter.unusedVariables false
set_option linter.unusedSimpArgs false
set_option maxHeartbeats 4000000
namespace Go.Proofs.YtnildflhdkdbiaaDoorK.LawT1
open Go.Proofs.YtnildflhdkdbiaaDoorK.AI Go.Proofs.YtnildflhdkdbiaaDoorK.NatIr Go.Proofs.YtnildflhdkdbiaaDoorK.EvT
variable {G : World → Prop}
def tbl : FuncId → FnE := fun | 7 => .ir c7 44 [.tmp 0] | 8 => .lib eParse | 10 => .ir c10 21 [.tmp 4] | 11 => .lib eText | 12 => .lib eWords | 15 => .lib eOf | 19 => .lib eSmall | 20 => .ir c20 18 [.tmp 2] | 34 => .lib eMul | 38 => .lib eRCmp | _ => .no
theorem tbl_ok (hG : Stable G) (hT : ∀ w, G w → Lib.TabIs Tryd.prog w "internal/strconv.uint64pow10" .u64 Lib.pow10Tab) (hM : ∀ w, G w → LibT.gMax w) (f : FuncId) : (tbl f).ok Tryd.prog G f := by
  unfold tbl
  split
  · exact ⟨Tryd.f7, by kernel_rfl, ok7, by kernel_rfl, by decide, by kernel_rfl, by kernel_rfl⟩
  · exact eParse_ok hG
  · exact ⟨Tryd.f10, by kernel_rfl, ok10, by kernel_rfl, by decide, by kernel_rfl, by kernel_rfl⟩
  · exact eText_ok hG hT
  · exact eWords_ok hG
  · exact eOf_ok hG
  · exact eSmall_ok hG
  · exact ⟨Tryd.f20, by kernel_rfl, ok20, by kernel_rfl, by decide, by kernel_rfl, by kernel_rfl⟩
  · exact eMul_ok hG
  · exact eRCmp_ok hG
  · exact trivial
theorem pcr_awake (hG : Stable G) (hT : ∀ w, G w → Lib.TabIs Tryd.prog w "internal/strconv.uint64pow10" .u64 Lib.pow10Tab) (hM : ∀ w, G w → LibT.gMax w) : PCr Tryd.prog G 7 [] (.bool true) :=
  evF_ok (N := 1000) hG (tbl_ok hG hT hM) 30 _ _ _ (by kernel_rfl)
end Go.Proofs.YtnildflhdkdbiaaDoorK.LawT1
