/-
  The law's helper awake: it answers true: run.
-/
import Derived.Test.YtapgmfahdpopnaaDoorKIrDims
import Derived.Test.YtapgmfahdpopnaaDoorKIrLaw8
import Derived.Test.YtapgmfahdpopnaaDoorKEvM
set_option linter.all false
set_option linter.unusedVariables false
set_option linter.unusedSimpArgs false
set_option maxHeartbeats 4000000
namespace Go.Proofs.YtapgmfahdpopnaaDoorK.LawT8
open Go.Proofs.YtapgmfahdpopnaaDoorK.AI Go.Proofs.YtapgmfahdpopnaaDoorK.NatIr Go.Proofs.YtapgmfahdpopnaaDoorK.EvT
variable {G : World → Prop}
def tbl : FuncId → FnE := BT.get (.n (.n (.n (.n .e 4 (.ir c4 39 [.tmp 0]) .e) 5 (.inl c5 4 [.tmp 0]) .e) 6 (.inl c6 34 [.tmp 6]) (.n .e 8 (.inl c8 19 [.tmp 4, .tmp 5]) .e)) 9 (.ir c9 15 [.cell 2 true 8, .tmp 3]) (.n (.n .e 10 (.ir c10 18 [.tmp 2]) .e) 12 (.lib eItoa) (.n .e 13 (.lib eJoin) .e)))
theorem tbl_ok (hG : Stable G) (hT : ∀ w, G w → Lib.TabIs Tryd.prog w "internal/strconv.uint64pow10" .u64 Lib.pow10Tab) (hM : ∀ w, G w → LibT.gMax w) (f : FuncId) : (tbl f).ok Tryd.prog G f :=
  BT.get_ok (BT.ok_n (BT.ok_n (BT.ok_n (BT.ok_n BT.ok_e (by exact ⟨Tryd.f4, by kernel_rfl, ok4, by kernel_rfl, by decide, by kernel_rfl, by kernel_rfl, by kernel_rfl⟩) BT.ok_e) (by exact ⟨Tryd.f5, by kernel_rfl, ok5, by kernel_rfl, by decide, by kernel_rfl, by kernel_rfl, by kernel_rfl⟩) BT.ok_e) (by exact ⟨Tryd.f6, by kernel_rfl, ok6, by kernel_rfl, by decide, by kernel_rfl, by kernel_rfl, by kernel_rfl⟩) (BT.ok_n BT.ok_e (by exact ⟨Tryd.f8, by kernel_rfl, ok8, by kernel_rfl, by decide, by kernel_rfl, by kernel_rfl, by kernel_rfl⟩) BT.ok_e)) (by exact ⟨Tryd.f9, by kernel_rfl, ok9, by kernel_rfl, by decide, by kernel_rfl, by kernel_rfl, by kernel_rfl⟩) (BT.ok_n (BT.ok_n BT.ok_e (by exact ⟨Tryd.f10, by kernel_rfl, ok10, by kernel_rfl, by decide, by kernel_rfl, by kernel_rfl, by kernel_rfl⟩) BT.ok_e) (FnE.ok_lib (eItoa_ok hT)) (BT.ok_n BT.ok_e (FnE.ok_lib (eJoin_ok)) BT.ok_e))) f
theorem pcr_awake (hG : Stable G) (hT : ∀ w, G w → Lib.TabIs Tryd.prog w "internal/strconv.uint64pow10" .u64 Lib.pow10Tab) (hM : ∀ w, G w → LibT.gMax w) : PCr Tryd.prog G 4 [] (.bool true) :=
  evF_ok (N := 1000) hG (tbl_ok hG hT hM) 30 _ _ _ (by kernel_rfl)
end Go.Proofs.YtapgmfahdpopnaaDoorK.LawT8
