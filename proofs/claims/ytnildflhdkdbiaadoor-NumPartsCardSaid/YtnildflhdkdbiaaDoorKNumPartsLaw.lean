/-
  cubitlaw2.NumParts answers true.
-/
import Derived.Test.YtnildflhdkdbiaaDoorKIrLNumParts
import Derived.Test.YtnildflhdkdbiaaDoorKAwakeE2
import Derived.Test.YtnildflhdkdbiaaDoorKLongZ2
set_option linter.all false
set_option linter.unusedVariables false
set_option linter.unusedSimpArgs false
set_option maxHeartbeats 4000000
namespace Go.Proofs.YtnildflhdkdbiaaDoorK.LawT2
open Go.Proofs.YtnildflhdkdbiaaDoorK.AI Go.Proofs.YtnildflhdkdbiaaDoorK.NatIr Go.Proofs.YtnildflhdkdbiaaDoorK.Dig Go.Proofs.YtnildflhdkdbiaaDoorK.NatT Go.Proofs.YtnildflhdkdbiaaDoorK.NumT
set_option linter.unusedSimpArgs false
attribute [local irreducible] awp awpOps
attribute [local go_sem] getO putE_same putE_ne putE_none un0_at ini_zero ini_one ini_two ini_three ne_eq not_false_eq_true Nat.zero_ne_one Nat.one_ne_zero zero_ne_succ succ_ne_zero sym_nil sym_cons symG_call symG_op symG_skip IOp.isCall gd st_mv st_pick st_new st_box st_build st_lit st_load st_store st_faddr st_fld st_iaddrS st_iaddrA st_idxs st_bin st_beq st_neg st_not st_conv st_slcS st_slcL st_make st_app st_lenS st_lenL st_mx st_mn st_ext st_nilck pureC loadC setH hv boundO D.cells D.one D.boxable fillD putD rowD binC intBinC decT decF dec_true dec_false bne_self_eq_false beq_self_eq_true beq_true_false beq_false_true bne_iff_ne List.length_nil List.length_cons List.getD_cons_zero List.getD_cons_succ List.set_cons_zero List.set_cons_succ List.all_cons List.all_nil Bool.and_true Bool.true_and Nat.lt_irrefl Nat.sub_self Nat.zero_add Nat.add_zero Nat.mul_one Nat.lt_add_one if_true if_false List.replicate_zero List.nil_append List.cons_append List.append_nil List.map_cons List.map_nil Bool.false_eq_true or_self or_true true_or or_false false_or true_and and_true and_self Int.ofNat_zero wrap_i64 wrap_u32 wrap_u64 wrap_u8 wrap_u32_mod wrap_u64_mod Nat.zero_lt_one Int.toNat_natCast Int.sub_zero toNat_pred List.take_succ_cons List.take_zero List.drop_succ_cons List.drop_zero List.take_nil List.drop_nil Nat.le_refl List.length_singleton rvDs rvD ldD one? Option.bind_some Option.map_some resD_int resD_bool resD_str resD_sl resD_rp resD_nils resD_null resD_agg resD_tup resD_own rdOwn resD_ptr rdPtr rd_ite resL_eq go_nil go_cons D.imm resArgs shr32 shl32 Nat.zero_mul Bool.and_self Bool.and_false Bool.false_and strBin_eql strBin_neq Bool.not_true Bool.not_false i64max List.length_reverse List.length_set SS_length SS_getD SS_set SS_take SS_drop SS_imm SS_one SS_app1 W_get1 W_len1 W_getD W_set W_take W_drop W_app W_length W_imm W_one W_repl N mx_nat toNat_succ toNat_add toNat_pred2 tdiv_nn tmod_nn List.take_of_length_le cast_succ and_one or_shl32 min64 shr32b shl32b IntKind.bits
attribute [local go_sem] nl ZD
attribute [local go_sem] not_true_eq_false not_false_eq_true
variable {G : World → Prop}
set_option maxHeartbeats 8000000 in
theorem pcr_parts_law (hG : Stable G) (hT : ∀ w, G w → Lib.TabIs Tryd.prog w "internal/strconv.uint64pow10" .u64 Lib.pow10Tab) (hM : ∀ w, G w → LibT.gMax w)
    (b1 : Bool) (a1 : List Int) (n1 : Nat) (hn1 : n1 = a1.length) (ha1 : ok 4294967296 a1) (hla1 : a1.length ≤ 9223372036854775807)
    (b2 : Bool) (a2 : List Int) (n2 : Nat) (hn2 : n2 = a2.length) (ha2 : ok 4294967296 a2) (hla2 : a2.length ≤ 9223372036854775807)
    : PCr Tryd.prog G 5 [.agg [.bool b1, .sl n1 (W a1)], .agg [.bool b2, .sl n2 (W a2)]] (.bool true) := by
  obtain ⟨l1, hl1, hb1⟩ := pcr_longz hG b1 n1 (W a1)
  obtain ⟨l2, hl2, hb2⟩ := pcr_longz hG b2 n2 (W a2)
  refine pcr_by hG (fn := Tryd.f5) (n := 54) (rv := [.tmp 4]) (by kernel_rfl) ok5 (by kernel_rfl) (by decide) (by kernel_rfl) (by simp) (by kernel_rfl) (fun r hr => ?_); unfold c5 st0
  (refine xctl ?_); refine xrg ?_; (refine xctl ?_); refine xrg ?_; (refine xca1 ?_; refine xca (pcr_awake hG hT hM) ?_); refine xrg ?_; (refine xctl ?_); refine xcF ?_; (refine xctl ?_)
  cases l1
  case true => (refine xrg ?_; (refine xca1 ?_; refine xca (hl1) ?_); refine xrg ?_; (refine xctl ?_); refine xct ?_; (refine xctl ?_); refine xrg ?_; (refine xctl ?_); refine xrt ?_; exact hr.symm)
  cases l2
  case true => (refine xrg ?_; (refine xca1 ?_; refine xca (hl1) ?_); refine xrg ?_; (refine xcga1 ?_; refine xca (hl2) ?_); refine xrg ?_; (refine xctl ?_); refine xct ?_; (refine xctl ?_); refine xrg ?_; (refine xctl ?_); refine xrt ?_; exact hr.symm)
  refine xrg ?_; (refine xca1 ?_; refine xca (hl1) ?_); refine xrg ?_; (refine xcga1 ?_; refine xca (hl2) ?_)
  have hx := zm_arg (b := b1) hn1 ha1 (hb1 rfl)
  have hy := zm_arg (b := b2) hn2 ha2 (hb2 rfl)
  generalize sg b1 (vl 4294967296 a1) = x at *
  generalize sg b2 (vl 4294967296 a2) = y at *
  refine xrg ?_
  refine xctl ?_
  refine xcF ?_
  refine xctl ?_
  by_cases hy0 : y = 0
  · have hd := NumT.pcr_div0 hG hx (by rw [← hy0]; exact hy) (by omega) (by omega)
    have hs := NumT.pcr_sign hG hy (by omega)
    rw [hy0] at hs
    refine xrg ?_; (refine xca1 ?_; refine xca (hd) ?_)
    refine xrg ?_
    refine xctl ?_
    refine xrg ?_
    refine xctl ?_
    refine xct ?_
    refine xctl ?_
    refine xrg ?_; (refine xca1 ?_; refine xca (hs) ?_)
    refine xrg ?_
    refine xctl ?_
    refine xrt ?_
    exact hr.symm
  · have hd := NumT.pcr_div hG hx hy (by omega) (by omega) hy0
    have hq : Zm 24 (x / y) (ZD (x / y)) := zm_le hx (Int.natAbs_ediv_le_natAbs x y)
    have hrn := Int.emod_nonneg x hy0
    have hrl := Int.emod_lt x hy0
    have hrm : Zm 24 (x % y) (ZD (x % y)) := zm_le hy (by omega)
    have hyd : Zm 24 (-y) (ZD (-y)) := zm_neg hy
    have hyy : Zm 24 y (ZD y) := zm_le hy (Nat.le_refl _)
    have e1 : (0 : Int) ≤ (x % y).sign := Int.sign_nonneg_iff.2 hrn
    have e3 : (x / y * y + x % y - x).sign = 0 := by rw [Int.mul_comm, Int.mul_ediv_add_emod]; exact sign_self x
    have hs := NumT.pcr_sign hG hy (by omega)
    refine xrg ?_; (refine xca1 ?_; refine xca (hd) ?_)
    refine xrg ?_
    refine xctl ?_
    refine xrg ?_
    refine xctl ?_
    refine xcF ?_
    refine xctl ?_
    refine xrg ?_
    refine xctl ?_
    by_cases hneg : y < 0
    · have e2 : (x % y - -y).sign = -1 := Int.sign_eq_neg_one_of_neg (by omega)
      have e4 : y.sign = -1 := Int.sign_eq_neg_one_of_neg hneg
      rw [e4] at hs
      refine xrg ?_; (refine xca1 ?_; refine xca (hs) ?_)
      refine xrg ?_
      refine xctl ?_
      refine xct ?_
      refine xctl ?_
      repeat ((refine ops_sym (by simp (disch := omega) only [go_sem, Nat.reduceEqDiff, Nat.reduceAdd, Nat.reduceLT, Nat.reduceMul, Nat.reduceLeDiff, reduceCtorEq, Int.reduceNeg, Int.reduceToNat, e2, e3]; rfl) (by first | with_reducible exact True.intro | omega) ?_); (first | refine xcga1 ?_ | refine xca1 ?_); (first | refine xca (NumT.pcr_neg hG (by repeat first | assumption | apply zm_neg | apply zm_add | apply zm_mul) (by omega)) ?_ | refine xca (NumT.pcr_add hG (by repeat first | assumption | apply zm_neg | apply zm_add | apply zm_mul) (by repeat first | assumption | apply zm_neg | apply zm_add | apply zm_mul) (by omega) (by omega)) ?_ | refine xca (NumT.pcr_mul hG (by repeat first | assumption | apply zm_neg | apply zm_add | apply zm_mul) (by repeat first | assumption | apply zm_neg | apply zm_add | apply zm_mul) (by omega) (by omega)) ?_ | refine xca (NumT.pcr_cmp hG (by repeat first | assumption | apply zm_neg | apply zm_add | apply zm_mul) (by repeat first | assumption | apply zm_neg | apply zm_add | apply zm_mul) (by omega) (by omega)) ?_ | refine xca (NumT.pcr_sign hG (by repeat first | assumption | apply zm_neg | apply zm_add | apply zm_mul) (by omega)) ?_))
      refine ops_sym (by simp (disch := omega) only [go_sem, Nat.reduceEqDiff, Nat.reduceAdd, Nat.reduceLT, Nat.reduceMul, Nat.reduceLeDiff, reduceCtorEq, Int.reduceNeg, Int.reduceToNat, e2, e3]; rfl) (by first | with_reducible exact True.intro | omega) ?_
      refine xctl ?_
      repeat ((refine ops_sym (by simp (disch := omega) only [go_sem, Nat.reduceEqDiff, Nat.reduceAdd, Nat.reduceLT, Nat.reduceMul, Nat.reduceLeDiff, reduceCtorEq, Int.reduceNeg, Int.reduceToNat, e2, e3]; rfl) (by first | with_reducible exact True.intro | omega) ?_); (first | refine xcga1 ?_ | refine xca1 ?_); (first | refine xca (NumT.pcr_neg hG (by repeat first | assumption | apply zm_neg | apply zm_add | apply zm_mul) (by omega)) ?_ | refine xca (NumT.pcr_add hG (by repeat first | assumption | apply zm_neg | apply zm_add | apply zm_mul) (by repeat first | assumption | apply zm_neg | apply zm_add | apply zm_mul) (by omega) (by omega)) ?_ | refine xca (NumT.pcr_mul hG (by repeat first | assumption | apply zm_neg | apply zm_add | apply zm_mul) (by repeat first | assumption | apply zm_neg | apply zm_add | apply zm_mul) (by omega) (by omega)) ?_ | refine xca (NumT.pcr_cmp hG (by repeat first | assumption | apply zm_neg | apply zm_add | apply zm_mul) (by repeat first | assumption | apply zm_neg | apply zm_add | apply zm_mul) (by omega) (by omega)) ?_ | refine xca (NumT.pcr_sign hG (by repeat first | assumption | apply zm_neg | apply zm_add | apply zm_mul) (by omega)) ?_))
      refine ops_sym (by simp (disch := omega) only [go_sem, Nat.reduceEqDiff, Nat.reduceAdd, Nat.reduceLT, Nat.reduceMul, Nat.reduceLeDiff, reduceCtorEq, Int.reduceNeg, Int.reduceToNat, e2, e3]; rfl) (by first | with_reducible exact True.intro | omega) ?_
      refine xctl ?_
      refine xdr ?_
      refine xctl ?_
      refine xrt ?_
      exact hr.symm
    · have e2 : (x % y - y).sign = -1 := Int.sign_eq_neg_one_of_neg (by omega)
      have e4 : y.sign = 1 := Int.sign_eq_one_of_pos (by omega)
      rw [e4] at hs
      refine xrg ?_; (refine xca1 ?_; refine xca (hs) ?_)
      refine xrg ?_
      refine xctl ?_
      refine xcF ?_
      refine xctl ?_
      repeat ((refine ops_sym (by simp (disch := omega) only [go_sem, Nat.reduceEqDiff, Nat.reduceAdd, Nat.reduceLT, Nat.reduceMul, Nat.reduceLeDiff, reduceCtorEq, Int.reduceNeg, Int.reduceToNat, e2, e3]; rfl) (by first | with_reducible exact True.intro | omega) ?_); (first | refine xcga1 ?_ | refine xca1 ?_); (first | refine xca (NumT.pcr_neg hG (by repeat first | assumption | apply zm_neg | apply zm_add | apply zm_mul) (by omega)) ?_ | refine xca (NumT.pcr_add hG (by repeat first | assumption | apply zm_neg | apply zm_add | apply zm_mul) (by repeat first | assumption | apply zm_neg | apply zm_add | apply zm_mul) (by omega) (by omega)) ?_ | refine xca (NumT.pcr_mul hG (by repeat first | assumption | apply zm_neg | apply zm_add | apply zm_mul) (by repeat first | assumption | apply zm_neg | apply zm_add | apply zm_mul) (by omega) (by omega)) ?_ | refine xca (NumT.pcr_cmp hG (by repeat first | assumption | apply zm_neg | apply zm_add | apply zm_mul) (by repeat first | assumption | apply zm_neg | apply zm_add | apply zm_mul) (by omega) (by omega)) ?_ | refine xca (NumT.pcr_sign hG (by repeat first | assumption | apply zm_neg | apply zm_add | apply zm_mul) (by omega)) ?_))
      refine ops_sym (by simp (disch := omega) only [go_sem, Nat.reduceEqDiff, Nat.reduceAdd, Nat.reduceLT, Nat.reduceMul, Nat.reduceLeDiff, reduceCtorEq, Int.reduceNeg, Int.reduceToNat, e2, e3]; rfl) (by first | with_reducible exact True.intro | omega) ?_
      refine xctl ?_
      refine xdr ?_
      refine xctl ?_
      refine xrt ?_
      exact hr.symm
end Go.Proofs.YtnildflhdkdbiaaDoorK.LawT2
