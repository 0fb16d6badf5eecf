/-
 The laws' table, remembered.
-/
import Derived.Test.YtgdbkigaaooifaaGreatDoorKMm
import Derived.Test.YtgdbkigaaooifaaGreatDoorKMetB
import Derived.Test.YtgdbkigaaooifaaGreatDoorKMetC
import Derived.Test.YtgdbkigaaooifaaGreatDoorKMetD
set_option linter.all false
set_option maxHeartbeats 4000000
namespace Go.Proofs.YtgdbkigaaooifaaGreatDoorK.EvT
open AI NatIr
variable {G : World → Prop}
def eMA : List D → Option D := memo [metT] (.tup [metR, .int .i64 0, .int .i64 0])
theorem eMA_ok (hG : Stable G) (hT : ∀ w, G w → Lib.TabIs Tryz.prog w "internal/strconv.uint64pow10" .u64 Lib.pow10Tab) (hM : ∀ w, G w → LibT.gMax w) : ∀ xs r, eMA xs = some r → PCr Tryz.prog G 22 xs r := memo_ok (pcr_MetA hG hT hM)
def eMB : List D → Option D := memo [metT] (.tup [metR, .int .i64 0, .int .i64 0])
theorem eMB_ok (hG : Stable G) (hT : ∀ w, G w → Lib.TabIs Tryz.prog w "internal/strconv.uint64pow10" .u64 Lib.pow10Tab) (hM : ∀ w, G w → LibT.gMax w) : ∀ xs r, eMB xs = some r → PCr Tryz.prog G 23 xs r := memo_ok (pcr_MetB hG hT hM)
def eMC : List D → Option D := memo [metR] (.tup [metP, .int .i64 0, .int .i64 0])
theorem eMC_ok (hG : Stable G) (hT : ∀ w, G w → Lib.TabIs Tryz.prog w "internal/strconv.uint64pow10" .u64 Lib.pow10Tab) (hM : ∀ w, G w → LibT.gMax w) : ∀ xs r, eMC xs = some r → PCr Tryz.prog G 24 xs r := memo_ok (pcr_MetC hG hT hM)
def eMD : List D → Option D := memo [metR] (.tup [metU, .int .i64 0, .int .i64 0])
theorem eMD_ok (hG : Stable G) (hT : ∀ w, G w → Lib.TabIs Tryz.prog w "internal/strconv.uint64pow10" .u64 Lib.pow10Tab) (hM : ∀ w, G w → LibT.gMax w) : ∀ xs r, eMD xs = some r → PCr Tryz.prog G 25 xs r := memo_ok (pcr_MetD hG hT hM)
end Go.Proofs.YtgdbkigaaooifaaGreatDoorK.EvT
