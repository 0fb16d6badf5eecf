/-
  cubitlaw3.RatField answers true.
-/
import Derived.Test.YtnildflhdkdbiaaGreatDoorKIrLRatField
import Derived.Test.YtnildflhdkdbiaaGreatDoorKAwakeE3
import Derived.Test.YtnildflhdkdbiaaGreatDoorKLongQ3
set_option linter.all false
set_option linter.unusedVariables false
set_option linter.unusedSimpArgs false
set_option maxHeartbeats 4000000
namespace Go.Proofs.YtnildflhdkdbiaaGreatDoorK.LawT3
open Go.Proofs.YtnildflhdkdbiaaGreatDoorK.AI Go.Proofs.YtnildflhdkdbiaaGreatDoorK.NatIr Go.Proofs.YtnildflhdkdbiaaGreatDoorK.Dig Go.Proofs.YtnildflhdkdbiaaGreatDoorK.NatT Go.Proofs.YtnildflhdkdbiaaGreatDoorK.NumT Go.Proofs.YtnildflhdkdbiaaGreatDoorK.RatT
set_option linter.unusedSimpArgs false
attribute [local irreducible] awp awpOps
attribute [local go_sem] getO putE_same putE_ne putE_none un0_at ini_zero ini_one ini_two ini_three ne_eq not_false_eq_true Nat.zero_ne_one Nat.one_ne_zero zero_ne_succ succ_ne_zero sym_nil sym_cons symG_call symG_op symG_skip IOp.isCall gd st_mv st_pick st_new st_box st_build st_lit st_load st_store st_faddr st_fld st_iaddrS st_iaddrA st_idxs st_bin st_beq st_neg st_not st_conv st_slcS st_slcL st_make st_app st_lenS st_lenL st_mx st_mn st_ext st_nilck pureC loadC setH hv boundO D.cells D.one D.boxable fillD putD rowD binC intBinC decT decF dec_true dec_false bne_self_eq_false beq_self_eq_true beq_true_false beq_false_true bne_iff_ne List.length_nil List.length_cons List.getD_cons_zero List.getD_cons_succ List.set_cons_zero List.set_cons_succ List.all_cons List.all_nil Bool.and_true Bool.true_and Nat.lt_irrefl Nat.sub_self Nat.zero_add Nat.add_zero Nat.mul_one Nat.lt_add_one if_true if_false List.replicate_zero List.nil_append List.cons_append List.append_nil List.map_cons List.map_nil Bool.false_eq_true or_self or_true true_or or_false false_or true_and and_true and_self Int.ofNat_zero wrap_i64 wrap_u32 wrap_u64 wrap_u8 wrap_u32_mod wrap_u64_mod Nat.zero_lt_one Int.toNat_natCast Int.sub_zero toNat_pred List.take_succ_cons List.take_zero List.drop_succ_cons List.drop_zero List.take_nil List.drop_nil Nat.le_refl List.length_singleton rvDs rvD ldD one? Option.bind_some Option.map_some resD_int resD_bool resD_str resD_sl resD_rp resD_nils resD_null resD_agg resD_tup resD_own rdOwn resD_ptr rdPtr rd_ite resL_eq go_nil go_cons D.imm resArgs shr32 shl32 Nat.zero_mul Bool.and_self Bool.and_false Bool.false_and strBin_eql strBin_neq Bool.not_true Bool.not_false i64max List.length_reverse List.length_set SS_length SS_getD SS_set SS_take SS_drop SS_imm SS_one SS_app1 W_get1 W_len1 W_getD W_set W_take W_drop W_app W_length W_imm W_one W_repl N mx_nat toNat_succ toNat_add toNat_pred2 tdiv_nn tmod_nn List.take_of_length_le cast_succ and_one or_shl32 min64 shr32b shl32b IntKind.bits
attribute [local go_sem] nl ZD
attribute [local go_sem] QD
attribute [local go_sem] not_true_eq_false not_false_eq_true
variable {G : World → Prop}
set_option maxHeartbeats 8000000 in
theorem pcr_field_law (hG : Stable G) (hT : ∀ w, G w → Lib.TabIs Tryz.prog w "internal/strconv.uint64pow10" .u64 Lib.pow10Tab) (hM : ∀ w, G w → LibT.gMax w)
    (b1 : Bool) (a1 : List Int) (n1 : Nat) (hn1 : n1 = a1.length) (ha1 : ok 4294967296 a1) (hla1 : a1.length ≤ 9223372036854775807) (c1 : List Int) (m1 : Nat) (hm1 : m1 = c1.length) (hc1 : ok 4294967296 c1) (hlc1 : c1.length ≤ 9223372036854775807)
    (b2 : Bool) (a2 : List Int) (n2 : Nat) (hn2 : n2 = a2.length) (ha2 : ok 4294967296 a2) (hla2 : a2.length ≤ 9223372036854775807) (c2 : List Int) (m2 : Nat) (hm2 : m2 = c2.length) (hc2 : ok 4294967296 c2) (hlc2 : c2.length ≤ 9223372036854775807)
    (b3 : Bool) (a3 : List Int) (n3 : Nat) (hn3 : n3 = a3.length) (ha3 : ok 4294967296 a3) (hla3 : a3.length ≤ 9223372036854775807) (c3 : List Int) (m3 : Nat) (hm3 : m3 = c3.length) (hc3 : ok 4294967296 c3) (hlc3 : c3.length ≤ 9223372036854775807)
    : PCr Tryz.prog G 10 [.agg [.bool b1, .sl n1 (W a1), .sl m1 (W c1)], .agg [.bool b2, .sl n2 (W a2), .sl m2 (W c2)], .agg [.bool b3, .sl n3 (W a3), .sl m3 (W c3)]] (.bool true) := by
  obtain ⟨l1, hl1, hb1⟩ := pcr_longq hG b1 n1 m1 (W a1) (W c1)
  obtain ⟨l2, hl2, hb2⟩ := pcr_longq hG b2 n2 m2 (W a2) (W c2)
  obtain ⟨l3, hl3, hb3⟩ := pcr_longq hG b3 n3 m3 (W a3) (W c3)
  refine pcr_by hG (fn := Tryz.f10) (n := 115) (rv := [.tmp 6]) (by kernel_rfl) ok10 (by kernel_rfl) (by decide) (by kernel_rfl) (by simp) (by kernel_rfl) (fun r hr => ?_); unfold c10 st0
  (refine xctl ?_); refine xrg ?_; (refine xctl ?_); refine xrg ?_; (refine xca1 ?_; refine xca (pcr_awake hG hT hM) ?_); refine xrg ?_; (refine xctl ?_); refine xcF ?_; (refine xctl ?_)
  cases l1
  case true => (refine xrg ?_; (refine xca1 ?_; refine xca (hl1) ?_); refine xrg ?_; (refine xctl ?_); refine xct ?_; (refine xctl ?_); refine xrg ?_; (refine xctl ?_); refine xrt ?_; exact hr.symm)
  cases l2
  case true => (refine xrg ?_; (refine xca1 ?_; refine xca (hl1) ?_); refine xrg ?_; (refine xcga1 ?_; refine xca (hl2) ?_); refine xrg ?_; (refine xctl ?_); refine xct ?_; (refine xctl ?_); refine xrg ?_; (refine xctl ?_); refine xrt ?_; exact hr.symm)
  cases l3
  case true => (refine xrg ?_; (refine xca1 ?_; refine xca (hl1) ?_); refine xrg ?_; (refine xcga1 ?_; refine xca (hl2) ?_); refine xrg ?_; (refine xcga1 ?_; refine xca (hl3) ?_); refine xrg ?_; (refine xctl ?_); refine xct ?_; (refine xctl ?_); refine xrg ?_; (refine xctl ?_); refine xrt ?_; exact hr.symm)
  obtain ⟨hb11, hb12⟩ := hb1 rfl
  obtain ⟨hb21, hb22⟩ := hb2 rfl
  obtain ⟨hb31, hb32⟩ := hb3 rfl
  obtain ⟨g1, hg1⟩ := pcr_goodX hG b1 a1 n1 hn1 ha1 (by omega) c1 m1 hm1 hc1 (by omega)
  obtain ⟨g2, hg2⟩ := pcr_goodX hG b2 a2 n2 hn2 ha2 (by omega) c2 m2 hm2 hc2 (by omega)
  obtain ⟨g3, hg3⟩ := pcr_goodX hG b3 a3 n3 hn3 ha3 (by omega) c3 m3 hm3 hc3 (by omega)
  cases g1
  case false => (refine xrg ?_; (refine xca1 ?_; refine xca (hl1) ?_); refine xrg ?_; (refine xcga1 ?_; refine xca (hl2) ?_); refine xrg ?_; (refine xcga1 ?_; refine xca (hl3) ?_); refine xrg ?_; (refine xcga1 ?_; refine xca (hg1) ?_); refine xrg ?_; (refine xctl ?_); refine xct ?_; (refine xctl ?_); refine xrg ?_; (refine xctl ?_); refine xrt ?_; exact hr.symm)
  cases g2
  case false => (refine xrg ?_; (refine xca1 ?_; refine xca (hl1) ?_); refine xrg ?_; (refine xcga1 ?_; refine xca (hl2) ?_); refine xrg ?_; (refine xcga1 ?_; refine xca (hl3) ?_); refine xrg ?_; (refine xcga1 ?_; refine xca (hg1) ?_); refine xrg ?_; (refine xcga1 ?_; refine xca (hg2) ?_); refine xrg ?_; (refine xctl ?_); refine xct ?_; (refine xctl ?_); refine xrg ?_; (refine xctl ?_); refine xrt ?_; exact hr.symm)
  cases g3
  case false => (refine xrg ?_; (refine xca1 ?_; refine xca (hl1) ?_); refine xrg ?_; (refine xcga1 ?_; refine xca (hl2) ?_); refine xrg ?_; (refine xcga1 ?_; refine xca (hl3) ?_); refine xrg ?_; (refine xcga1 ?_; refine xca (hg1) ?_); refine xrg ?_; (refine xcga1 ?_; refine xca (hg2) ?_); refine xrg ?_; (refine xcga1 ?_; refine xca (hg3) ?_); refine xrg ?_; (refine xctl ?_); refine xct ?_; (refine xctl ?_); refine xrg ?_; (refine xctl ?_); refine xrt ?_; exact hr.symm)
  refine xrg ?_; (refine xca1 ?_; refine xca (hl1) ?_); refine xrg ?_; (refine xcga1 ?_; refine xca (hl2) ?_); refine xrg ?_; (refine xcga1 ?_; refine xca (hl3) ?_); refine xrg ?_; (refine xcga1 ?_; refine xca (hg1) ?_); refine xrg ?_; (refine xcga1 ?_; refine xca (hg2) ?_); refine xrg ?_; (refine xcga1 ?_; refine xca (hg3) ?_)
  have hx := qm_in (b := b1) hn1 ha1 hm1 hc1 (by omega) hb11 hb12
  have hy := qm_in (b := b2) hn2 ha2 hm2 hc2 (by omega) hb21 hb22
  have hz := qm_in (b := b3) hn3 ha3 hm3 hc3 (by omega) hb31 hb32
  generalize vq b1 a1 c1 = x at *
  generalize vq b2 a2 c2 = y at *
  generalize vq b3 a3 c3 = z at *
  refine xrg ?_
  refine xctl ?_
  refine xcF ?_
  refine xctl ?_
  have e1 : (x * (y + z) - (x * y + x * z)).num.sign = 0 := cmp_eq (Rat.mul_add x y z)
  have e2 : (x + y + z - (x + (y + z))).num.sign = 0 := cmp_eq (Rat.add_assoc x y z)
  have e3 : (x + -x).num.sign = 0 := sg_zero (Rat.add_neg_cancel x)
  have e4 : (x - x).num.sign = 0 := cmp_eq rfl
  have hpt := pcr_parse_qT hG hM hx (by omega)
  repeat ((refine ops_sym (by simp (disch := omega) only [go_sem, Nat.reduceEqDiff, Nat.reduceAdd, Nat.reduceLT, Nat.reduceMul, Nat.reduceLeDiff, reduceCtorEq, Int.reduceNeg, Int.reduceToNat, e1, e2, e3]; rfl) (by first | with_reducible exact True.intro | omega) ?_); (first | refine xcga1 ?_ | refine xca1 ?_); (first | refine xca (RatT.pcr_neg hG (by repeat first | assumption | apply qm_neg | apply qm_add | apply qm_mul | apply qm_inv | apply Qm.self) (by omega)) ?_ | refine xca (RatT.pcr_add hG (by repeat first | assumption | apply qm_neg | apply qm_add | apply qm_mul | apply qm_inv | apply Qm.self) (by repeat first | assumption | apply qm_neg | apply qm_add | apply qm_mul | apply qm_inv | apply Qm.self) (by omega) (by omega)) ?_ | refine xca (RatT.pcr_mul hG (by repeat first | assumption | apply qm_neg | apply qm_add | apply qm_mul | apply qm_inv | apply Qm.self) (by repeat first | assumption | apply qm_neg | apply qm_add | apply qm_mul | apply qm_inv | apply Qm.self) (by omega) (by omega)) ?_ | refine xca (RatT.pcr_cmp hG (by repeat first | assumption | apply qm_neg | apply qm_add | apply qm_mul | apply qm_inv | apply Qm.self) (by repeat first | assumption | apply qm_neg | apply qm_add | apply qm_mul | apply qm_inv | apply Qm.self) (by omega) (by omega)) ?_ | refine xca (RatT.pcr_sign hG (by repeat first | assumption | apply qm_neg | apply qm_add | apply qm_mul | apply qm_inv | apply Qm.self) (by omega)) ?_ | refine xca (RatT.pcr_floor hG (by repeat first | assumption | apply qm_neg | apply qm_add | apply qm_mul | apply qm_inv | apply Qm.self) (by omega)) ?_ | refine xca (RatT.pcr_int hG _ (by omega) (by omega)) ?_ | refine xca (RatT.pcr_good hG (by repeat first | assumption | apply qm_neg | apply qm_add | apply qm_mul | apply qm_inv | apply Qm.self) (by omega)) ?_ | refine xca (RatT.pcr_text hG hT (by repeat first | assumption | apply qm_neg | apply qm_add | apply qm_mul | apply qm_inv | apply Qm.self) (by omega)) ?_))
  refine ops_sym (by simp (disch := omega) only [go_sem, Nat.reduceEqDiff, Nat.reduceAdd, Nat.reduceLT, Nat.reduceMul, Nat.reduceLeDiff, reduceCtorEq, Int.reduceNeg, Int.reduceToNat, e1, e2, e3]; rfl) (by first | with_reducible exact True.intro | omega) ?_
  refine xctl ?_
  refine xdr ?_
  refine xctl ?_
  refine xcF ?_
  refine xctl ?_
  by_cases h0 : x = 0
  · have e5 : x.num.sign = 0 := sg_zero h0
    have hi : PCr Tryz.prog G 66 [.agg [.bool b1, .sl n1 (W a1), .sl m1 (W c1)]] (.tup [QD 0, .bool false]) := RatT.pcr_inv0 hG (by rw [← h0]; exact hx) (by omega)
    refine xrg ?_; (refine xca1 ?_; refine xca (hi) ?_)
    refine xrg ?_
    refine xctl ?_
    refine xrg ?_; (refine xca1 ?_; refine xca (RatT.pcr_text hG hT hx (by omega)) ?_)
    refine xrg ?_; (refine xca1 ?_; refine xca (hpt) ?_)
    refine xrg ?_
    refine xctl ?_
    repeat ((refine ops_sym (by simp (disch := omega) only [go_sem, Nat.reduceEqDiff, Nat.reduceAdd, Nat.reduceLT, Nat.reduceMul, Nat.reduceLeDiff, reduceCtorEq, Int.reduceNeg, Int.reduceToNat, e4, e5]; rfl) (by first | with_reducible exact True.intro | omega) ?_); (first | refine xcga1 ?_ | refine xca1 ?_); (first | refine xca (RatT.pcr_neg hG (by repeat first | assumption | apply qm_neg | apply qm_add | apply qm_mul | apply qm_inv | apply Qm.self) (by omega)) ?_ | refine xca (RatT.pcr_add hG (by repeat first | assumption | apply qm_neg | apply qm_add | apply qm_mul | apply qm_inv | apply Qm.self) (by repeat first | assumption | apply qm_neg | apply qm_add | apply qm_mul | apply qm_inv | apply Qm.self) (by omega) (by omega)) ?_ | refine xca (RatT.pcr_mul hG (by repeat first | assumption | apply qm_neg | apply qm_add | apply qm_mul | apply qm_inv | apply Qm.self) (by repeat first | assumption | apply qm_neg | apply qm_add | apply qm_mul | apply qm_inv | apply Qm.self) (by omega) (by omega)) ?_ | refine xca (RatT.pcr_cmp hG (by repeat first | assumption | apply qm_neg | apply qm_add | apply qm_mul | apply qm_inv | apply Qm.self) (by repeat first | assumption | apply qm_neg | apply qm_add | apply qm_mul | apply qm_inv | apply Qm.self) (by omega) (by omega)) ?_ | refine xca (RatT.pcr_sign hG (by repeat first | assumption | apply qm_neg | apply qm_add | apply qm_mul | apply qm_inv | apply Qm.self) (by omega)) ?_ | refine xca (RatT.pcr_floor hG (by repeat first | assumption | apply qm_neg | apply qm_add | apply qm_mul | apply qm_inv | apply Qm.self) (by omega)) ?_ | refine xca (RatT.pcr_int hG _ (by omega) (by omega)) ?_ | refine xca (RatT.pcr_good hG (by repeat first | assumption | apply qm_neg | apply qm_add | apply qm_mul | apply qm_inv | apply Qm.self) (by omega)) ?_ | refine xca (RatT.pcr_text hG hT (by repeat first | assumption | apply qm_neg | apply qm_add | apply qm_mul | apply qm_inv | apply Qm.self) (by omega)) ?_))
    refine ops_sym (by simp (disch := omega) only [go_sem, Nat.reduceEqDiff, Nat.reduceAdd, Nat.reduceLT, Nat.reduceMul, Nat.reduceLeDiff, reduceCtorEq, Int.reduceNeg, Int.reduceToNat, e4, e5]; rfl) (by first | with_reducible exact True.intro | omega) ?_
    refine xctl ?_
    refine xrt ?_
    exact hr.symm
  · have e5 : x.num.sign ≠ 0 := fun e => h0 (Rat.num_eq_zero.1 (Int.sign_eq_zero_iff_zero.1 e))
    have e6 : (x * x⁻¹ - ((1 : Int) : Rat)).num.sign = 0 := cmp_eq (Rat.mul_inv_cancel x h0)
    have hv := qm_inv hx
    have h1 : Qm 2 ((1 : Int) : Rat) (QD ((1 : Int) : Rat)) := qm_int 1 (by decide)
    refine xrg ?_; (refine xca1 ?_; refine xca (RatT.pcr_inv hG hx (by omega) h0) ?_)
    refine xrg ?_
    refine xctl ?_
    refine xrg ?_; (refine xca1 ?_; refine xca (RatT.pcr_text hG hT hx (by omega)) ?_)
    refine xrg ?_; (refine xca1 ?_; refine xca (hpt) ?_)
    refine xrg ?_
    refine xctl ?_
    repeat ((refine ops_sym (by simp (disch := omega) only [go_sem, Nat.reduceEqDiff, Nat.reduceAdd, Nat.reduceLT, Nat.reduceMul, Nat.reduceLeDiff, reduceCtorEq, Int.reduceNeg, Int.reduceToNat, e4, e6]; rfl) (by first | with_reducible exact True.intro | omega) ?_); (first | refine xcga1 ?_ | refine xca1 ?_); (first | refine xca (RatT.pcr_neg hG (by repeat first | assumption | apply qm_neg | apply qm_add | apply qm_mul | apply qm_inv | apply Qm.self) (by omega)) ?_ | refine xca (RatT.pcr_add hG (by repeat first | assumption | apply qm_neg | apply qm_add | apply qm_mul | apply qm_inv | apply Qm.self) (by repeat first | assumption | apply qm_neg | apply qm_add | apply qm_mul | apply qm_inv | apply Qm.self) (by omega) (by omega)) ?_ | refine xca (RatT.pcr_mul hG (by repeat first | assumption | apply qm_neg | apply qm_add | apply qm_mul | apply qm_inv | apply Qm.self) (by repeat first | assumption | apply qm_neg | apply qm_add | apply qm_mul | apply qm_inv | apply Qm.self) (by omega) (by omega)) ?_ | refine xca (RatT.pcr_cmp hG (by repeat first | assumption | apply qm_neg | apply qm_add | apply qm_mul | apply qm_inv | apply Qm.self) (by repeat first | assumption | apply qm_neg | apply qm_add | apply qm_mul | apply qm_inv | apply Qm.self) (by omega) (by omega)) ?_ | refine xca (RatT.pcr_sign hG (by repeat first | assumption | apply qm_neg | apply qm_add | apply qm_mul | apply qm_inv | apply Qm.self) (by omega)) ?_ | refine xca (RatT.pcr_floor hG (by repeat first | assumption | apply qm_neg | apply qm_add | apply qm_mul | apply qm_inv | apply Qm.self) (by omega)) ?_ | refine xca (RatT.pcr_int hG _ (by omega) (by omega)) ?_ | refine xca (RatT.pcr_good hG (by repeat first | assumption | apply qm_neg | apply qm_add | apply qm_mul | apply qm_inv | apply Qm.self) (by omega)) ?_ | refine xca (RatT.pcr_text hG hT (by repeat first | assumption | apply qm_neg | apply qm_add | apply qm_mul | apply qm_inv | apply Qm.self) (by omega)) ?_))
    refine ops_sym (by simp (disch := omega) only [go_sem, Nat.reduceEqDiff, Nat.reduceAdd, Nat.reduceLT, Nat.reduceMul, Nat.reduceLeDiff, reduceCtorEq, Int.reduceNeg, Int.reduceToNat, e4, e6]; rfl) (by first | with_reducible exact True.intro | omega) ?_
    refine xctl ?_
    refine xrt ?_
    exact hr.symm
end Go.Proofs.YtnildflhdkdbiaaGreatDoorK.LawT3
