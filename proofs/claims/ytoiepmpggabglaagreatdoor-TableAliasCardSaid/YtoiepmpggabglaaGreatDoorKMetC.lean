/-
 The laws' table: table.Load, run.
-/
import Derived.Test.YtoiepmpggabglaaGreatDoorKMm
set_option linter.all false
set_option maxHeartbeats 4000000
namespace Go.Proofs.YtoiepmpggabglaaGreatDoorK.EvT
open AI NatIr
variable {G : World → Prop}
theorem pcr_MetC (hG : Stable G) (hT : ∀ w, G w → Lib.TabIs Tryz.prog w "internal/strconv.uint64pow10" .u64 Lib.pow10Tab) (hM : ∀ w, G w → LibT.gMax w) : PCr Tryz.prog G 12 [metR] (.tup [metP, .int .i64 0, .int .i64 0]) :=
 evFR_ok (N := 1000) hG (tblM_ok hG hT hM) 30 _ _ _ (by kernel_rfl)
end Go.Proofs.YtoiepmpggabglaaGreatDoorK.EvT
