/-
  The law's helper awake: it answers true: run.
-/
import Derived.Test.YtapikjmijmebpaaDoorKIrDec
import Derived.Test.YtapikjmijmebpaaDoorKIrLaw5
import Derived.Test.YtapikjmijmebpaaDoorKIrNat
import Derived.Test.YtapikjmijmebpaaDoorKIrNum
import Derived.Test.YtapikjmijmebpaaDoorKIrRound
import Derived.Test.YtapikjmijmebpaaDoorKEvQ
set_option linter.all false
set_option linter.unusedVariables false
set_option linter.unusedSimpArgs false
set_option maxHeartbeats 4000000
namespace Go.Proofs.YtapikjmijmebpaaDoorK.LawT5
open Go.Proofs.YtapikjmijmebpaaDoorK.AI Go.Proofs.YtapikjmijmebpaaDoorK.NatIr Go.Proofs.YtapikjmijmebpaaDoorK.EvT
variable {G : World → Prop}
def tbl : FuncId → FnE := fun | 9 => .ir c9 38 [.tmp 0] | 11 => .lib eQSign | 12 => .ir c12 96 [.cell 6 true 3, .tmp 7] | 13 => .lib eText | 15 => .ir c15 40 [.cell 4 true 2, .tmp 5] | 16 => .lib eQOf | 17 => .lib eOf | 18 => .lib eQCmp | 20 => .lib eQFloor | 21 => .ir c21 33 [.cell 6 true 3, .tmp 7] | 22 => .lib eQPow | 23 => .ir c23 16 [.cell 4 true 3] | 24 => .lib eQAdd | 26 => .lib eQNeg | 29 => .ir c29 23 [.tmp 2] | 30 => .lib eDiv | 31 => .lib eCmp | 32 => .ir c32 9 [.tmp 2] | 34 => .ir c34 18 [.tmp 2] | 38 => .ir c38 10 [.tmp 2] | 40 => .lib eQInt | 41 => .ir c41 22 [.tmp 2] | 42 => .ir c42 12 [.cell 2 true 3] | 43 => .lib eQMul | 44 => .lib eQInv | 45 => .ir c45 11 [.cell 4 true 3] | 46 => .ir c46 16 [.cell 4 true 2] | 47 => .ir c47 48 [.cell 4 true 2, .cell 5 true 2, .tmp 6] | 48 => .ir c48 14 [.cell 2 true 2] | 52 => .lib eRepeat | 55 => .ir c55 56 [.tmp 8] | 56 => .ir c56 47 [.cell 4 true 2] | 61 => .lib eMul | 62 => .ir c62 8 [.cell 2 true 3] | 64 => .ir c64 26 [.tmp 2] | 66 => .ir c66 35 [.tmp 2, .tmp 3] | 73 => .ir c73 7 [.tmp 2] | 74 => .ir c74 16 [.cell 4 true 2] | 75 => .lib eAdd | 76 => .lib eSub | 84 => .ir c84 7 [.tmp 2] | _ => .no
theorem tbl_ok (hG : Stable G) (hT : ∀ w, G w → Lib.TabIs Tryd.prog w "internal/strconv.uint64pow10" .u64 Lib.pow10Tab) (hM : ∀ w, G w → LibT.gMax w) (f : FuncId) : (tbl f).ok Tryd.prog G f := by
  unfold tbl
  split
  · exact ⟨Tryd.f9, by kernel_rfl, ok9, by kernel_rfl, by decide, by kernel_rfl, by kernel_rfl⟩
  · exact eQSign_ok hG
  · exact ⟨Tryd.f12, by kernel_rfl, ok12, by kernel_rfl, by decide, by kernel_rfl, by kernel_rfl⟩
  · exact eText_ok hG hT
  · exact ⟨Tryd.f15, by kernel_rfl, ok15, by kernel_rfl, by decide, by kernel_rfl, by kernel_rfl⟩
  · exact eQOf_ok hG
  · exact eOf_ok hG
  · exact eQCmp_ok hG
  · exact eQFloor_ok hG
  · exact ⟨Tryd.f21, by kernel_rfl, ok21, by kernel_rfl, by decide, by kernel_rfl, by kernel_rfl⟩
  · exact eQPow_ok hG
  · exact ⟨Tryd.f23, by kernel_rfl, ok23, by kernel_rfl, by decide, by kernel_rfl, by kernel_rfl⟩
  · exact eQAdd_ok hG
  · exact eQNeg_ok hG
  · exact ⟨Tryd.f29, by kernel_rfl, ok29, by kernel_rfl, by decide, by kernel_rfl, by kernel_rfl⟩
  · exact eDiv_ok hG
  · exact eCmp_ok hG
  · exact ⟨Tryd.f32, by kernel_rfl, ok32, by kernel_rfl, by decide, by kernel_rfl, by kernel_rfl⟩
  · exact ⟨Tryd.f34, by kernel_rfl, ok34, by kernel_rfl, by decide, by kernel_rfl, by kernel_rfl⟩
  · exact ⟨Tryd.f38, by kernel_rfl, ok38, by kernel_rfl, by decide, by kernel_rfl, by kernel_rfl⟩
  · exact eQInt_ok hG
  · exact ⟨Tryd.f41, by kernel_rfl, ok41, by kernel_rfl, by decide, by kernel_rfl, by kernel_rfl⟩
  · exact ⟨Tryd.f42, by kernel_rfl, ok42, by kernel_rfl, by decide, by kernel_rfl, by kernel_rfl⟩
  · exact eQMul_ok hG
  · exact eQInv_ok hG
  · exact ⟨Tryd.f45, by kernel_rfl, ok45, by kernel_rfl, by decide, by kernel_rfl, by kernel_rfl⟩
  · exact ⟨Tryd.f46, by kernel_rfl, ok46, by kernel_rfl, by decide, by kernel_rfl, by kernel_rfl⟩
  · exact ⟨Tryd.f47, by kernel_rfl, ok47, by kernel_rfl, by decide, by kernel_rfl, by kernel_rfl⟩
  · exact ⟨Tryd.f48, by kernel_rfl, ok48, by kernel_rfl, by decide, by kernel_rfl, by kernel_rfl⟩
  · exact eRepeat_ok
  · exact ⟨Tryd.f55, by kernel_rfl, ok55, by kernel_rfl, by decide, by kernel_rfl, by kernel_rfl⟩
  · exact ⟨Tryd.f56, by kernel_rfl, ok56, by kernel_rfl, by decide, by kernel_rfl, by kernel_rfl⟩
  · exact eMul_ok hG
  · exact ⟨Tryd.f62, by kernel_rfl, ok62, by kernel_rfl, by decide, by kernel_rfl, by kernel_rfl⟩
  · exact ⟨Tryd.f64, by kernel_rfl, ok64, by kernel_rfl, by decide, by kernel_rfl, by kernel_rfl⟩
  · exact ⟨Tryd.f66, by kernel_rfl, ok66, by kernel_rfl, by decide, by kernel_rfl, by kernel_rfl⟩
  · exact ⟨Tryd.f73, by kernel_rfl, ok73, by kernel_rfl, by decide, by kernel_rfl, by kernel_rfl⟩
  · exact ⟨Tryd.f74, by kernel_rfl, ok74, by kernel_rfl, by decide, by kernel_rfl, by kernel_rfl⟩
  · exact eAdd_ok hG
  · exact eSub_ok hG
  · exact ⟨Tryd.f84, by kernel_rfl, ok84, by kernel_rfl, by decide, by kernel_rfl, by kernel_rfl⟩
  · exact trivial
theorem pcr_awake (hG : Stable G) (hT : ∀ w, G w → Lib.TabIs Tryd.prog w "internal/strconv.uint64pow10" .u64 Lib.pow10Tab) (hM : ∀ w, G w → LibT.gMax w) : PCr Tryd.prog G 9 [] (.bool true) :=
  evF_ok (N := 1000) hG (tbl_ok hG hT hM) 30 _ _ _ (by kernel_rfl)
end Go.Proofs.YtapikjmijmebpaaDoorK.LawT5
