/-
  The law's helper awake: it answers true: run.
-/
import Derived.Test.YtapikjmijmebpaaGreatDoorKIrDec
import Derived.Test.YtapikjmijmebpaaGreatDoorKIrLaw5
import Derived.Test.YtapikjmijmebpaaGreatDoorKIrNat
import Derived.Test.YtapikjmijmebpaaGreatDoorKIrNum
import Derived.Test.YtapikjmijmebpaaGreatDoorKIrRound
import Derived.Test.YtapikjmijmebpaaGreatDoorKEvQ
set_option linter.all false
set_option linter.unusedVariables false
set_option linter.unusedSimpArgs false
set_option maxHeartbeats 4000000
namespace Go.Proofs.YtapikjmijmebpaaGreatDoorK.LawT5
open Go.Proofs.YtapikjmijmebpaaGreatDoorK.AI Go.Proofs.YtapikjmijmebpaaGreatDoorK.NatIr Go.Proofs.YtapikjmijmebpaaGreatDoorK.EvT
variable {G : World → Prop}
def tbl : FuncId → FnE := fun | 12 => .ir c12 38 [.tmp 0] | 15 => .ir c15 40 [.cell 4 true 2, .tmp 5] | 16 => .ir c16 33 [.cell 6 true 3, .tmp 7] | 17 => .ir c17 96 [.cell 6 true 3, .tmp 7] | 19 => .ir c19 9 [.tmp 2] | 24 => .ir c24 26 [.tmp 2] | 32 => .ir c32 23 [.tmp 2] | 35 => .lib eQSign | 37 => .ir c37 14 [.cell 2 true 2] | 38 => .lib eOf | 63 => .lib eQCmp | 64 => .lib eQPow | 65 => .lib eQInt | 66 => .lib eQOf | 67 => .lib eQAdd | 68 => .lib eQMul | 69 => .lib eCmp | 70 => .ir c70 16 [.cell 4 true 3] | 74 => .lib eQFloor | 75 => .lib eQNeg | 76 => .ir c76 56 [.tmp 8] | 77 => .ir c77 47 [.cell 4 true 2] | 78 => .ir c78 12 [.cell 2 true 3] | 79 => .ir c79 11 [.cell 4 true 3] | 80 => .ir c80 22 [.tmp 2] | 81 => .lib eQInv | 82 => .ir c82 16 [.cell 4 true 2] | 83 => .lib eText | 84 => .ir c84 48 [.cell 4 true 2, .cell 5 true 2, .tmp 6] | 103 => .ir c103 18 [.tmp 2] | 104 => .ir c104 7 [.tmp 2] | 109 => .ir c109 35 [.tmp 2, .tmp 3] | 110 => .ir c110 8 [.cell 2 true 3] | 115 => .ir c115 10 [.tmp 2] | 117 => .lib eDiv | 118 => .lib eMul | 119 => .ir c119 16 [.cell 4 true 2] | 137 => .lib eAdd | 138 => .lib eSub | 141 => .lib eRepeat | 144 => .ir c144 7 [.tmp 2] | _ => .no
theorem tbl_ok (hG : Stable G) (hT : ∀ w, G w → Lib.TabIs Tryz.prog w "internal/strconv.uint64pow10" .u64 Lib.pow10Tab) (hM : ∀ w, G w → LibT.gMax w) (f : FuncId) : (tbl f).ok Tryz.prog G f := by
  unfold tbl
  split
  · exact ⟨Tryz.f12, by kernel_rfl, ok12, by kernel_rfl, by decide, by kernel_rfl, by kernel_rfl⟩
  · exact ⟨Tryz.f15, by kernel_rfl, ok15, by kernel_rfl, by decide, by kernel_rfl, by kernel_rfl⟩
  · exact ⟨Tryz.f16, by kernel_rfl, ok16, by kernel_rfl, by decide, by kernel_rfl, by kernel_rfl⟩
  · exact ⟨Tryz.f17, by kernel_rfl, ok17, by kernel_rfl, by decide, by kernel_rfl, by kernel_rfl⟩
  · exact ⟨Tryz.f19, by kernel_rfl, ok19, by kernel_rfl, by decide, by kernel_rfl, by kernel_rfl⟩
  · exact ⟨Tryz.f24, by kernel_rfl, ok24, by kernel_rfl, by decide, by kernel_rfl, by kernel_rfl⟩
  · exact ⟨Tryz.f32, by kernel_rfl, ok32, by kernel_rfl, by decide, by kernel_rfl, by kernel_rfl⟩
  · exact eQSign_ok hG
  · exact ⟨Tryz.f37, by kernel_rfl, ok37, by kernel_rfl, by decide, by kernel_rfl, by kernel_rfl⟩
  · exact eOf_ok hG
  · exact eQCmp_ok hG
  · exact eQPow_ok hG
  · exact eQInt_ok hG
  · exact eQOf_ok hG
  · exact eQAdd_ok hG
  · exact eQMul_ok hG
  · exact eCmp_ok hG
  · exact ⟨Tryz.f70, by kernel_rfl, ok70, by kernel_rfl, by decide, by kernel_rfl, by kernel_rfl⟩
  · exact eQFloor_ok hG
  · exact eQNeg_ok hG
  · exact ⟨Tryz.f76, by kernel_rfl, ok76, by kernel_rfl, by decide, by kernel_rfl, by kernel_rfl⟩
  · exact ⟨Tryz.f77, by kernel_rfl, ok77, by kernel_rfl, by decide, by kernel_rfl, by kernel_rfl⟩
  · exact ⟨Tryz.f78, by kernel_rfl, ok78, by kernel_rfl, by decide, by kernel_rfl, by kernel_rfl⟩
  · exact ⟨Tryz.f79, by kernel_rfl, ok79, by kernel_rfl, by decide, by kernel_rfl, by kernel_rfl⟩
  · exact ⟨Tryz.f80, by kernel_rfl, ok80, by kernel_rfl, by decide, by kernel_rfl, by kernel_rfl⟩
  · exact eQInv_ok hG
  · exact ⟨Tryz.f82, by kernel_rfl, ok82, by kernel_rfl, by decide, by kernel_rfl, by kernel_rfl⟩
  · exact eText_ok hG hT
  · exact ⟨Tryz.f84, by kernel_rfl, ok84, by kernel_rfl, by decide, by kernel_rfl, by kernel_rfl⟩
  · exact ⟨Tryz.f103, by kernel_rfl, ok103, by kernel_rfl, by decide, by kernel_rfl, by kernel_rfl⟩
  · exact ⟨Tryz.f104, by kernel_rfl, ok104, by kernel_rfl, by decide, by kernel_rfl, by kernel_rfl⟩
  · exact ⟨Tryz.f109, by kernel_rfl, ok109, by kernel_rfl, by decide, by kernel_rfl, by kernel_rfl⟩
  · exact ⟨Tryz.f110, by kernel_rfl, ok110, by kernel_rfl, by decide, by kernel_rfl, by kernel_rfl⟩
  · exact ⟨Tryz.f115, by kernel_rfl, ok115, by kernel_rfl, by decide, by kernel_rfl, by kernel_rfl⟩
  · exact eDiv_ok hG
  · exact eMul_ok hG
  · exact ⟨Tryz.f119, by kernel_rfl, ok119, by kernel_rfl, by decide, by kernel_rfl, by kernel_rfl⟩
  · exact eAdd_ok hG
  · exact eSub_ok hG
  · exact eRepeat_ok
  · exact ⟨Tryz.f144, by kernel_rfl, ok144, by kernel_rfl, by decide, by kernel_rfl, by kernel_rfl⟩
  · exact trivial
theorem pcr_awake (hG : Stable G) (hT : ∀ w, G w → Lib.TabIs Tryz.prog w "internal/strconv.uint64pow10" .u64 Lib.pow10Tab) (hM : ∀ w, G w → LibT.gMax w) : PCr Tryz.prog G 12 [] (.bool true) :=
  evF_ok (N := 1000) hG (tbl_ok hG hT hM) 30 _ _ _ (by kernel_rfl)
end Go.Proofs.YtapikjmijmebpaaGreatDoorK.LawT5
