/-
 The laws' table, loaded: the helpers metric and load.
-/
import Derived.Test.YtgdbkigaaooifaaGreatDoorKAwakeT12
import Derived.Test.YtgdbkigaaooifaaGreatDoorKRedM
set_option linter.all false
set_option maxHeartbeats 4000000
namespace Go.Proofs.YtgdbkigaaooifaaGreatDoorK.LawT12
open AI NatIr EvT
variable {G : World → Prop}
theorem pcr_metric (hG : Stable G) (hT : ∀ w, G w → Lib.TabIs Tryz.prog w "internal/strconv.uint64pow10" .u64 Lib.pow10Tab) (hM : ∀ w, G w → LibT.gMax w) : PCr Tryz.prog G 9 [] metT :=
 evFR_ok (N := 1000) hG (tbl_ok hG hT hM) 30 _ _ _ (by kernel_rfl)
theorem pcr_load (hG : Stable G) (hT : ∀ w, G w → Lib.TabIs Tryz.prog w "internal/strconv.uint64pow10" .u64 Lib.pow10Tab) (hM : ∀ w, G w → LibT.gMax w) : PCr Tryz.prog G 8 [metT] (.tup [metP, metU]) :=
 evFR_ok (N := 1000) hG (tbl_ok hG hT hM) 30 _ _ _ (by kernel_rfl)
theorem metU_rp : ∃ us, metU = .rp us := ⟨_, rfl⟩
theorem metT_str : ∃ s, metT = .str s := ⟨_, rfl⟩
end Go.Proofs.YtgdbkigaaooifaaGreatDoorK.LawT12
