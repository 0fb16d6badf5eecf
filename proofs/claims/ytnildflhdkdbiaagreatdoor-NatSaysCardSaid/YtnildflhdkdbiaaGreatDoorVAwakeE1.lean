/-
  The law's helper awake: it answers true: run.
-/
import Derived.Test.YtnildflhdkdbiaaGreatDoorVIrLaw1
import Derived.Test.YtnildflhdkdbiaaGreatDoorVIrNat
import Derived.Test.YtnildflhdkdbiaaGreatDoorVEvL
set_option linter.all false
set_option linter.unusedVariables false
set_option linter.unusedSimpArgs false
set_option maxHeartbeats 4000000
namespace Go.Proofs.YtnildflhdkdbiaaGreatDoorV.LawT1
open Go.Proofs.YtnildflhdkdbiaaGreatDoorV.AI Go.Proofs.YtnildflhdkdbiaaGreatDoorV.NatIr Go.Proofs.YtnildflhdkdbiaaGreatDoorV.EvT
variable {G : World → Prop}
def tbl : FuncId → FnE := fun | 13 => .ir c13 44 [.tmp 0] | 14 => .lib eWords | 16 => .lib eRCmp | 17 => .ir c17 21 [.tmp 4] | 24 => .lib eMul | 26 => .lib eText | 53 => .ir c53 18 [.tmp 2] | 56 => .lib eOf | 84 => .lib eParse | 85 => .lib eSmall | _ => .no
theorem tbl_ok (hG : Stable G) (hT : ∀ w, G w → Lib.TabIs Tryz.prog w "internal/strconv.uint64pow10" .u64 Lib.pow10Tab) (hM : ∀ w, G w → LibT.gMax w) (f : FuncId) : (tbl f).ok Tryz.prog G f := by
  unfold tbl
  split
  · exact ⟨Tryz.f13, by kernel_rfl, ok13, by kernel_rfl, by decide, by kernel_rfl, by kernel_rfl⟩
  · exact eWords_ok hG
  · exact eRCmp_ok hG
  · exact ⟨Tryz.f17, by kernel_rfl, ok17, by kernel_rfl, by decide, by kernel_rfl, by kernel_rfl⟩
  · exact eMul_ok hG
  · exact eText_ok hG hT
  · exact ⟨Tryz.f53, by kernel_rfl, ok53, by kernel_rfl, by decide, by kernel_rfl, by kernel_rfl⟩
  · exact eOf_ok hG
  · exact eParse_ok hG
  · exact eSmall_ok hG
  · exact trivial
theorem pcr_awake (hG : Stable G) (hT : ∀ w, G w → Lib.TabIs Tryz.prog w "internal/strconv.uint64pow10" .u64 Lib.pow10Tab) (hM : ∀ w, G w → LibT.gMax w) : PCr Tryz.prog G 13 [] (.bool true) :=
  evF_ok (N := 1000) hG (tbl_ok hG hT hM) 30 _ _ _ (by kernel_rfl)
end Go.Proofs.YtnildflhdkdbiaaGreatDoorV.LawT1
