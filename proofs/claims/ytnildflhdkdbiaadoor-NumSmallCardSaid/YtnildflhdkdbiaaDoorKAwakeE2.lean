/-
  The law's helper awake: it answers true: run.
-/
import Derived.Test.YtnildflhdkdbiaaDoorKIrLaw2
import Derived.Test.YtnildflhdkdbiaaDoorKIrNat
import Derived.Test.YtnildflhdkdbiaaDoorKIrNum
import Derived.Test.YtnildflhdkdbiaaDoorKIrRefZ
import Derived.Test.YtnildflhdkdbiaaDoorKEvL
set_option linter.all false
set_option linter.unusedVariables false
set_option linter.unusedSimpArgs false
set_option maxHeartbeats 4000000
namespace Go.Proofs.YtnildflhdkdbiaaDoorK.LawT2
open Go.Proofs.YtnildflhdkdbiaaDoorK.AI Go.Proofs.YtnildflhdkdbiaaDoorK.NatIr Go.Proofs.YtnildflhdkdbiaaDoorK.EvT
variable {G : World → Prop}
def tbl : FuncId → FnE := fun | 11 => .lib eText | 12 => .lib eWords | 15 => .lib eOf | 17 => .lib eSub | 18 => .lib eDiv | 19 => .lib eSmall | 20 => .ir c20 18 [.tmp 2] | 23 => .lib eCmp | 24 => .ir c24 32 [.tmp 0] | 26 => .ir c26 48 [.cell 4 true 2, .cell 5 true 2, .tmp 6] | 27 => .ir c27 10 [.tmp 2] | 32 => .ir c32 14 [.cell 2 true 2] | 38 => .lib eRCmp | 45 => .lib eRAdd | 54 => .ir c54 21 [.tmp 4] | 55 => .ir c55 17 [.cell 2 true 2] | 56 => .ir c56 13 [.tmp 2] | 57 => .ir c57 7 [.tmp 2] | 58 => .lib eAdd | 59 => .ir c59 16 [.cell 4 true 2] | 79 => .ir c79 16 [.tmp 2] | 80 => .ir c80 21 [.tmp 4] | _ => .no
theorem tbl_ok (hG : Stable G) (hT : ∀ w, G w → Lib.TabIs Tryd.prog w "internal/strconv.uint64pow10" .u64 Lib.pow10Tab) (hM : ∀ w, G w → LibT.gMax w) (f : FuncId) : (tbl f).ok Tryd.prog G f := by
  unfold tbl
  split
  · exact eText_ok hG hT
  · exact eWords_ok hG
  · exact eOf_ok hG
  · exact eSub_ok hG
  · exact eDiv_ok hG
  · exact eSmall_ok hG
  · exact ⟨Tryd.f20, by kernel_rfl, ok20, by kernel_rfl, by decide, by kernel_rfl, by kernel_rfl⟩
  · exact eCmp_ok hG
  · exact ⟨Tryd.f24, by kernel_rfl, ok24, by kernel_rfl, by decide, by kernel_rfl, by kernel_rfl⟩
  · exact ⟨Tryd.f26, by kernel_rfl, ok26, by kernel_rfl, by decide, by kernel_rfl, by kernel_rfl⟩
  · exact ⟨Tryd.f27, by kernel_rfl, ok27, by kernel_rfl, by decide, by kernel_rfl, by kernel_rfl⟩
  · exact ⟨Tryd.f32, by kernel_rfl, ok32, by kernel_rfl, by decide, by kernel_rfl, by kernel_rfl⟩
  · exact eRCmp_ok hG
  · exact eRAdd_ok hG
  · exact ⟨Tryd.f54, by kernel_rfl, ok54, by kernel_rfl, by decide, by kernel_rfl, by kernel_rfl⟩
  · exact ⟨Tryd.f55, by kernel_rfl, ok55, by kernel_rfl, by decide, by kernel_rfl, by kernel_rfl⟩
  · exact ⟨Tryd.f56, by kernel_rfl, ok56, by kernel_rfl, by decide, by kernel_rfl, by kernel_rfl⟩
  · exact ⟨Tryd.f57, by kernel_rfl, ok57, by kernel_rfl, by decide, by kernel_rfl, by kernel_rfl⟩
  · exact eAdd_ok hG
  · exact ⟨Tryd.f59, by kernel_rfl, ok59, by kernel_rfl, by decide, by kernel_rfl, by kernel_rfl⟩
  · exact ⟨Tryd.f79, by kernel_rfl, ok79, by kernel_rfl, by decide, by kernel_rfl, by kernel_rfl⟩
  · exact ⟨Tryd.f80, by kernel_rfl, ok80, by kernel_rfl, by decide, by kernel_rfl, by kernel_rfl⟩
  · exact trivial
theorem pcr_awake (hG : Stable G) (hT : ∀ w, G w → Lib.TabIs Tryd.prog w "internal/strconv.uint64pow10" .u64 Lib.pow10Tab) (hM : ∀ w, G w → LibT.gMax w) : PCr Tryd.prog G 24 [] (.bool true) :=
  evF_ok (N := 1000) hG (tbl_ok hG hT hM) 30 _ _ _ (by kernel_rfl)
end Go.Proofs.YtnildflhdkdbiaaDoorK.LawT2
