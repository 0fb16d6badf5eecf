/-
 The laws' table: cubitref6.Rows, run.
-/
import Derived.Test.YtgdbkigaaooifaaGreatDoorKMm
set_option linter.all false
set_option maxHeartbeats 4000000
namespace Go.Proofs.YtgdbkigaaooifaaGreatDoorK.EvT
open AI NatIr
variable {G : World → Prop}
theorem pcr_MetB (hG : Stable G) (hT : ∀ w, G w → Lib.TabIs Tryz.prog w "internal/strconv.uint64pow10" .u64 Lib.pow10Tab) (hM : ∀ w, G w → LibT.gMax w) : PCr Tryz.prog G 23 [metT] (.tup [metR, .int .i64 0, .int .i64 0]) :=
 evFR_ok (N := 1000) hG (tblM_ok hG hT hM) 30 _ _ _ (by kernel_rfl)
end Go.Proofs.YtgdbkigaaooifaaGreatDoorK.EvT
