/-
  The law's helper awake: it answers true: run.
-/
import Derived.Test.YticocfhgopppjaaDoorKIrDims
import Derived.Test.YticocfhgopppjaaDoorKIrLaw8
import Derived.Test.YticocfhgopppjaaDoorKEvM
set_option linter.all false
set_option linter.unusedVariables false
set_option linter.unusedSimpArgs false
set_option maxHeartbeats 4000000
namespace Go.Proofs.YticocfhgopppjaaDoorK.LawT8
open Go.Proofs.YticocfhgopppjaaDoorK.AI Go.Proofs.YticocfhgopppjaaDoorK.NatIr Go.Proofs.YticocfhgopppjaaDoorK.EvT
variable {G : World → Prop}
def tbl : FuncId → FnE := fun | 7 => .ir c7 39 [.tmp 0] | 8 => .inl c8 4 [.tmp 0] | 9 => .inl c9 34 [.tmp 6] | 11 => .inl c11 19 [.tmp 4, .tmp 5] | 19 => .ir c19 15 [.cell 2 true 8, .tmp 3] | 21 => .ir c21 18 [.tmp 2] | 26 => .lib eItoa | 27 => .lib eJoin | _ => .no
theorem tbl_ok (hG : Stable G) (hT : ∀ w, G w → Lib.TabIs Tryd.prog w "internal/strconv.uint64pow10" .u64 Lib.pow10Tab) (hM : ∀ w, G w → LibT.gMax w) (f : FuncId) : (tbl f).ok Tryd.prog G f := by
  unfold tbl
  split
  · exact ⟨Tryd.f7, by kernel_rfl, ok7, by kernel_rfl, by decide, by kernel_rfl, by kernel_rfl, by kernel_rfl⟩
  · exact ⟨Tryd.f8, by kernel_rfl, ok8, by kernel_rfl, by decide, by kernel_rfl, by kernel_rfl, by kernel_rfl⟩
  · exact ⟨Tryd.f9, by kernel_rfl, ok9, by kernel_rfl, by decide, by kernel_rfl, by kernel_rfl, by kernel_rfl⟩
  · exact ⟨Tryd.f11, by kernel_rfl, ok11, by kernel_rfl, by decide, by kernel_rfl, by kernel_rfl, by kernel_rfl⟩
  · exact ⟨Tryd.f19, by kernel_rfl, ok19, by kernel_rfl, by decide, by kernel_rfl, by kernel_rfl, by kernel_rfl⟩
  · exact ⟨Tryd.f21, by kernel_rfl, ok21, by kernel_rfl, by decide, by kernel_rfl, by kernel_rfl, by kernel_rfl⟩
  · exact eItoa_ok hT
  · exact eJoin_ok
  · exact trivial
theorem pcr_awake (hG : Stable G) (hT : ∀ w, G w → Lib.TabIs Tryd.prog w "internal/strconv.uint64pow10" .u64 Lib.pow10Tab) (hM : ∀ w, G w → LibT.gMax w) : PCr Tryd.prog G 7 [] (.bool true) :=
  evF_ok (N := 1000) hG (tbl_ok hG hT hM) 30 _ _ _ (by kernel_rfl)
end Go.Proofs.YticocfhgopppjaaDoorK.LawT8
