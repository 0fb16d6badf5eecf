/-
 Joined: AwakeT12, LoadT12.
-/
import Derived.Test.YtgdbkigaaooifaaGreatDoorKIrLaw12
import Derived.Test.YtgdbkigaaooifaaGreatDoorKIrNum
import Derived.Test.YtgdbkigaaooifaaGreatDoorKIrRat
import Derived.Test.YtgdbkigaaooifaaGreatDoorKIrTable
import Derived.Test.YtgdbkigaaooifaaGreatDoorKIrX
import Derived.Test.YtgdbkigaaooifaaGreatDoorKMetE
import Derived.Test.YtgdbkigaaooifaaGreatDoorKRm
set_option linter.all false
set_option maxHeartbeats 4000000
/-
 The law's helper awake: it answers true: run; the table's loading is remembered.
-/
namespace Go.Proofs.YtgdbkigaaooifaaGreatDoorK.LawT12
open AI NatIr EvT
variable {G : World → Prop}
def tbl : FuncId → FnE := BT.get (.n (.n (.n (.n (.n .e 7 (.ir c7 37 [.tmp 0]) .e) 8 (.ir c8 54 [.tmp 2, .tmp 3]) (.n .e 9 (.ir c9 1 [.tmp 0]) .e)) 10 (.ir c10 98 [.cell 4 true 15, .tmp 5]) (.n (.n .e 11 (.inl c11 21 [.cell 4 true 3, .tmp 5]) .e) 12 (.lib eQPow) .e)) 14 (.lib eQMul) (.n (.n (.n .e 15 (.lib eOf) .e) 18 (.ir c18 21 [.tmp 2]) (.n .e 22 (.lib eMA) .e)) 23 (.lib eMB) (.n (.n .e 24 (.lib eMC) .e) 25 (.lib eMD) .e))) 26 (.inl c26 19 [.cell 4 true 10, .tmp 5]) (.n (.n (.n (.n .e 27 (.inl c27 23 [.cell 4 true 8, .cell 5 true 3, .tmp 6]) .e) 28 (.ir c28 37 [.cell 4 true 8, .tmp 5]) (.n .e 29 (.lib eQInt) .e)) 30 (.ir c30 14 [.cell 2 true 3]) (.n (.n .e 39 (.lib eCmp) .e) 42 (.lib eQOf) .e)) 44 (.ir c44 2 [.cell 0 true 1]) (.n (.n (.n .e 45 (.ir c45 13 [.tmp 2]) .e) 46 (.lib eText) (.n .e 59 (.lib eGood) .e)) 60 (.ir c60 9 [.tmp 2]) (.n (.n .e 61 (.ir c61 10 [.tmp 2]) .e) 100 (.ir c100 7 [.tmp 2]) .e))))
theorem tbl_ok (hG : Stable G) (hT : ∀ w, G w → Lib.TabIs Tryz.prog w "internal/strconv.uint64pow10" .u64 Lib.pow10Tab) (hM : ∀ w, G w → LibT.gMax w) (f : FuncId) : (tbl f).ok Tryz.prog G f :=
 BT.get_ok (BT.ok_n (BT.ok_n (BT.ok_n (BT.ok_n (BT.ok_n BT.ok_e (irk ok7) BT.ok_e) (irk ok8) (BT.ok_n BT.ok_e (irk ok9) BT.ok_e)) (irk ok10) (BT.ok_n (BT.ok_n BT.ok_e (irl ok11) BT.ok_e) (FnE.ok_lib (eQPow_ok hG)) BT.ok_e)) (FnE.ok_lib (eQMul_ok hG)) (BT.ok_n (BT.ok_n (BT.ok_n BT.ok_e (FnE.ok_lib (eOf_ok hG)) BT.ok_e) (irk ok18) (BT.ok_n BT.ok_e (FnE.ok_lib (eMA_ok hG hT hM)) BT.ok_e)) (FnE.ok_lib (eMB_ok hG hT hM)) (BT.ok_n (BT.ok_n BT.ok_e (FnE.ok_lib (eMC_ok hG hT hM)) BT.ok_e) (FnE.ok_lib (eMD_ok hG hT hM)) BT.ok_e))) (irl ok26) (BT.ok_n (BT.ok_n (BT.ok_n (BT.ok_n BT.ok_e (irl ok27) BT.ok_e) (irk ok28) (BT.ok_n BT.ok_e (FnE.ok_lib (eQInt_ok hG)) BT.ok_e)) (irk ok30) (BT.ok_n (BT.ok_n BT.ok_e (FnE.ok_lib (eCmp_ok hG)) BT.ok_e) (FnE.ok_lib (eQOf_ok hG)) BT.ok_e)) (irk ok44) (BT.ok_n (BT.ok_n (BT.ok_n BT.ok_e (irk ok45) BT.ok_e) (FnE.ok_lib (eText_ok hG hT)) (BT.ok_n BT.ok_e (FnE.ok_lib (eGood_ok hG)) BT.ok_e)) (irk ok60) (BT.ok_n (BT.ok_n BT.ok_e (irk ok61) BT.ok_e) (irk ok100) BT.ok_e)))) f
theorem pcr_awake (hG : Stable G) (hT : ∀ w, G w → Lib.TabIs Tryz.prog w "internal/strconv.uint64pow10" .u64 Lib.pow10Tab) (hM : ∀ w, G w → LibT.gMax w) : PCr Tryz.prog G 7 [] (.bool true) :=
 evFR_ok (N := 1000) hG (tbl_ok hG hT hM) 30 _ _ _ (by kernel_rfl)
end Go.Proofs.YtgdbkigaaooifaaGreatDoorK.LawT12
/-
 The laws' table, loaded: the helpers metric and load.
-/
namespace Go.Proofs.YtgdbkigaaooifaaGreatDoorK.LawT12
open AI NatIr EvT
variable {G : World → Prop}
theorem pcr_metric (hG : Stable G) (hT : ∀ w, G w → Lib.TabIs Tryz.prog w "internal/strconv.uint64pow10" .u64 Lib.pow10Tab) (hM : ∀ w, G w → LibT.gMax w) : PCr Tryz.prog G 9 [] metT :=
 evFR_ok (N := 1000) hG (tbl_ok hG hT hM) 30 _ _ _ (by kernel_rfl)
theorem pcr_load (hG : Stable G) (hT : ∀ w, G w → Lib.TabIs Tryz.prog w "internal/strconv.uint64pow10" .u64 Lib.pow10Tab) (hM : ∀ w, G w → LibT.gMax w) : PCr Tryz.prog G 8 [metT] (.tup [metP, metU]) :=
 evFR_ok (N := 1000) hG (tbl_ok hG hT hM) 30 _ _ _ (by kernel_rfl)
theorem metU_rp : ∃ us, metU = .rp us := ⟨_, rfl⟩
theorem metT_str : ∃ s, metT = .str s := ⟨_, rfl⟩
end Go.Proofs.YtgdbkigaaooifaaGreatDoorK.LawT12
