/-
  cubitlaw8.DimsKnown answers true: it is run.
-/
import Derived.Test.YticocfhgopppjaaDoorKIrDims
import Derived.Test.YticocfhgopppjaaDoorKIrLDimsKnown
import Derived.Test.YticocfhgopppjaaDoorKIrLaw8
import Derived.Test.YticocfhgopppjaaDoorKIrLib
import Derived.Test.YticocfhgopppjaaDoorKAwakeM8
set_option linter.all false
set_option linter.unusedVariables false
set_option linter.unusedSimpArgs false
set_option maxHeartbeats 4000000
namespace Go.Proofs.YticocfhgopppjaaDoorK.LawT8
open Go.Proofs.YticocfhgopppjaaDoorK.AI Go.Proofs.YticocfhgopppjaaDoorK.NatIr Go.Proofs.YticocfhgopppjaaDoorK.EvT
variable {G : World → Prop}
def tblK : FuncId → FnE := fun | 6 => .ir c6 167 [.tmp 0] | 7 => .ir c7 39 [.tmp 0] | 8 => .inl c8 4 [.tmp 0] | 9 => .inl c9 34 [.tmp 6] | 10 => .ir c10 8 [.tmp 2] | 11 => .inl c11 19 [.tmp 4, .tmp 5] | 12 => .ir c12 34 [.cell 4 true 8, .tmp 5] | 14 => .ir c14 37 [.cell 4 true 8, .tmp 5] | 16 => .ir c16 11 [.cell 2 true 8] | 18 => .ir c18 8 [.tmp 4] | 19 => .ir c19 15 [.cell 2 true 8, .tmp 3] | 20 => .ir c20 26 [.tmp 4] | 21 => .ir c21 18 [.tmp 2] | 22 => .lib eCloneS | 23 => .ir c23 6 [.tmp 2] | 25 => .ir c25 9 [.tmp 2] | 26 => .lib eItoa | 27 => .lib eJoin | 28 => .ir c28 9 [.tmp 4] | 29 => .ir c29 6 [.tmp 2] | 34 => .ir c34 19 [.tmp 4] | _ => .no
theorem tblK_ok (hG : Stable G) (hT : ∀ w, G w → Lib.TabIs Tryd.prog w "internal/strconv.uint64pow10" .u64 Lib.pow10Tab) (hM : ∀ w, G w → LibT.gMax w) (f : FuncId) : (tblK f).ok Tryd.prog G f := by
  unfold tblK
  split
  · exact ⟨Tryd.f6, by kernel_rfl, ok6, by kernel_rfl, by decide, by kernel_rfl, by kernel_rfl, by kernel_rfl⟩
  · exact ⟨Tryd.f7, by kernel_rfl, ok7, by kernel_rfl, by decide, by kernel_rfl, by kernel_rfl, by kernel_rfl⟩
  · exact ⟨Tryd.f8, by kernel_rfl, ok8, by kernel_rfl, by decide, by kernel_rfl, by kernel_rfl, by kernel_rfl⟩
  · exact ⟨Tryd.f9, by kernel_rfl, ok9, by kernel_rfl, by decide, by kernel_rfl, by kernel_rfl, by kernel_rfl⟩
  · exact ⟨Tryd.f10, by kernel_rfl, ok10, by kernel_rfl, by decide, by kernel_rfl, by kernel_rfl, by kernel_rfl⟩
  · exact ⟨Tryd.f11, by kernel_rfl, ok11, by kernel_rfl, by decide, by kernel_rfl, by kernel_rfl, by kernel_rfl⟩
  · exact ⟨Tryd.f12, by kernel_rfl, ok12, by kernel_rfl, by decide, by kernel_rfl, by kernel_rfl, by kernel_rfl⟩
  · exact ⟨Tryd.f14, by kernel_rfl, ok14, by kernel_rfl, by decide, by kernel_rfl, by kernel_rfl, by kernel_rfl⟩
  · exact ⟨Tryd.f16, by kernel_rfl, ok16, by kernel_rfl, by decide, by kernel_rfl, by kernel_rfl, by kernel_rfl⟩
  · exact ⟨Tryd.f18, by kernel_rfl, ok18, by kernel_rfl, by decide, by kernel_rfl, by kernel_rfl, by kernel_rfl⟩
  · exact ⟨Tryd.f19, by kernel_rfl, ok19, by kernel_rfl, by decide, by kernel_rfl, by kernel_rfl, by kernel_rfl⟩
  · exact ⟨Tryd.f20, by kernel_rfl, ok20, by kernel_rfl, by decide, by kernel_rfl, by kernel_rfl, by kernel_rfl⟩
  · exact ⟨Tryd.f21, by kernel_rfl, ok21, by kernel_rfl, by decide, by kernel_rfl, by kernel_rfl, by kernel_rfl⟩
  · exact eCloneS_ok
  · exact ⟨Tryd.f23, by kernel_rfl, ok23, by kernel_rfl, by decide, by kernel_rfl, by kernel_rfl, by kernel_rfl⟩
  · exact ⟨Tryd.f25, by kernel_rfl, ok25, by kernel_rfl, by decide, by kernel_rfl, by kernel_rfl, by kernel_rfl⟩
  · exact eItoa_ok hT
  · exact eJoin_ok
  · exact ⟨Tryd.f28, by kernel_rfl, ok28, by kernel_rfl, by decide, by kernel_rfl, by kernel_rfl, by kernel_rfl⟩
  · exact ⟨Tryd.f29, by kernel_rfl, ok29, by kernel_rfl, by decide, by kernel_rfl, by kernel_rfl, by kernel_rfl⟩
  · exact ⟨Tryd.f34, by kernel_rfl, ok34, by kernel_rfl, by decide, by kernel_rfl, by kernel_rfl, by kernel_rfl⟩
  · exact trivial
theorem pcr_known (hG : Stable G) (hT : ∀ w, G w → Lib.TabIs Tryd.prog w "internal/strconv.uint64pow10" .u64 Lib.pow10Tab) (hM : ∀ w, G w → LibT.gMax w) : PCr Tryd.prog G 6 [] (.bool true) :=
  evF_ok (N := 1000) hG (tblK_ok hG hT hM) 30 _ _ _ (by kernel_rfl)
end Go.Proofs.YticocfhgopppjaaDoorK.LawT8
