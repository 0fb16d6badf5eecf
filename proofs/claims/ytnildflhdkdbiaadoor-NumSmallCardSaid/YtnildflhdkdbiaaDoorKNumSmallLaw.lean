/-
  cubitlaw2.NumSmall answers true.
-/
import Derived.Test.YtnildflhdkdbiaaDoorKIrLNumSmall
import Derived.Test.YtnildflhdkdbiaaDoorKIrLaw2
import Derived.Test.YtnildflhdkdbiaaDoorKAwakeE2
import Derived.Test.YtnildflhdkdbiaaDoorKLongZ2
set_option linter.all false
set_option linter.unusedVariables false
set_option linter.unusedSimpArgs false
set_option maxHeartbeats 4000000
namespace Go.Proofs.YtnildflhdkdbiaaDoorK.LawT2
open Go.Proofs.YtnildflhdkdbiaaDoorK.AI Go.Proofs.YtnildflhdkdbiaaDoorK.NatIr Go.Proofs.YtnildflhdkdbiaaDoorK.Dig Go.Proofs.YtnildflhdkdbiaaDoorK.NatT Go.Proofs.YtnildflhdkdbiaaDoorK.NumT
set_option linter.unusedSimpArgs false
attribute [local irreducible] awp awpOps
attribute [local go_sem] getO putE_same putE_ne putE_none un0_at ini_zero ini_one ini_two ini_three ne_eq not_false_eq_true Nat.zero_ne_one Nat.one_ne_zero zero_ne_succ succ_ne_zero sym_nil sym_cons symG_call symG_op symG_skip IOp.isCall gd st_mv st_pick st_new st_box st_build st_lit st_load st_store st_faddr st_fld st_iaddrS st_iaddrA st_idxs st_bin st_beq st_neg st_not st_conv st_slcS st_slcL st_make st_app st_lenS st_lenL st_mx st_mn st_ext st_nilck pureC loadC setH hv boundO D.cells D.one D.boxable fillD putD rowD binC intBinC decT decF dec_true dec_false bne_self_eq_false beq_self_eq_true beq_true_false beq_false_true bne_iff_ne List.length_nil List.length_cons List.getD_cons_zero List.getD_cons_succ List.set_cons_zero List.set_cons_succ List.all_cons List.all_nil Bool.and_true Bool.true_and Nat.lt_irrefl Nat.sub_self Nat.zero_add Nat.add_zero Nat.mul_one Nat.lt_add_one if_true if_false List.replicate_zero List.nil_append List.cons_append List.append_nil List.map_cons List.map_nil Bool.false_eq_true or_self or_true true_or or_false false_or true_and and_true and_self Int.ofNat_zero wrap_i64 wrap_u32 wrap_u64 wrap_u8 wrap_u32_mod wrap_u64_mod Nat.zero_lt_one Int.toNat_natCast Int.sub_zero toNat_pred List.take_succ_cons List.take_zero List.drop_succ_cons List.drop_zero List.take_nil List.drop_nil Nat.le_refl List.length_singleton rvDs rvD ldD one? Option.bind_some Option.map_some resD_int resD_bool resD_str resD_sl resD_rp resD_nils resD_null resD_agg resD_tup resD_own rdOwn resD_ptr rdPtr rd_ite resL_eq go_nil go_cons D.imm resArgs shr32 shl32 Nat.zero_mul Bool.and_self Bool.and_false Bool.false_and strBin_eql strBin_neq Bool.not_true Bool.not_false i64max List.length_reverse List.length_set SS_length SS_getD SS_set SS_take SS_drop SS_imm SS_one SS_app1 W_get1 W_len1 W_getD W_set W_take W_drop W_app W_length W_imm W_one W_repl N mx_nat toNat_succ toNat_add toNat_pred2 tdiv_nn tmod_nn List.take_of_length_le cast_succ and_one or_shl32 min64 shr32b shl32b IntKind.bits
attribute [local go_sem] nl ZD
attribute [local go_sem] not_true_eq_false not_false_eq_true
variable {G : World → Prop}
theorem pcr_cmp32 (hG : Stable G) (a b : Int) : PCr Tryd.prog G 33 [.int .i32 a, .int .i32 b] (.int .i64 (a - b).sign) := by
  rcases Int.lt_trichotomy a b with h | h | h
  · have e : (a - b).sign = -1 := Int.sign_eq_neg_one_of_neg (by omega)
    rw [e]
    refine pcr_by hG (fn := Tryd.f33) (n := 13) (rv := [.tmp 4]) (by kernel_rfl) ok33 (by kernel_rfl) (by decide) (by kernel_rfl) (by simp) (by kernel_rfl) (fun r hr => ?_); unfold c33 st0
    refine xctl ?_
    refine xrg ?_
    refine xctl ?_
    refine xrg ?_
    refine xctl ?_
    refine xct ?_
    refine xctl ?_
    refine xrg ?_
    refine xctl ?_
    refine xrt ?_
    exact hr.symm
  · have e : (a - b).sign = 0 := by rw [h]; exact sign_self b
    rw [e]
    refine pcr_by hG (fn := Tryd.f33) (n := 13) (rv := [.tmp 4]) (by kernel_rfl) ok33 (by kernel_rfl) (by decide) (by kernel_rfl) (by simp) (by kernel_rfl) (fun r hr => ?_); unfold c33 st0
    refine xctl ?_
    refine xrg ?_
    refine xctl ?_
    refine xrg ?_
    refine xctl ?_
    refine xcF ?_
    refine xctl ?_
    refine xrg ?_
    refine xctl ?_
    refine xcF ?_
    refine xctl ?_
    refine xrg ?_
    refine xctl ?_
    refine xrt ?_
    exact hr.symm
  · have e : (a - b).sign = 1 := Int.sign_eq_one_of_pos (by omega)
    rw [e]
    refine pcr_by hG (fn := Tryd.f33) (n := 13) (rv := [.tmp 4]) (by kernel_rfl) ok33 (by kernel_rfl) (by decide) (by kernel_rfl) (by simp) (by kernel_rfl) (fun r hr => ?_); unfold c33 st0
    refine xctl ?_
    refine xrg ?_
    refine xctl ?_
    refine xrg ?_
    refine xctl ?_
    refine xcF ?_
    refine xctl ?_
    refine xrg ?_
    refine xctl ?_
    refine xct ?_
    refine xctl ?_
    refine xrg ?_
    refine xctl ?_
    refine xrt ?_
    exact hr.symm
set_option maxHeartbeats 8000000 in
theorem pcr_small_law (hG : Stable G) (hT : ∀ w, G w → Lib.TabIs Tryd.prog w "internal/strconv.uint64pow10" .u64 Lib.pow10Tab) (hM : ∀ w, G w → LibT.gMax w)
    (a : Int) (ha : -2147483648 ≤ a ∧ a ≤ 2147483647) (b : Int) (hb : -2147483648 ≤ b ∧ b ≤ 2147483647) : PCr Tryd.prog G 6 [.int .i32 a, .int .i32 b] (.bool true) := by
  have ofa := NumT.pcr_of hG a (by omega) (by omega)
  have ofb := NumT.pcr_of hG b (by omega) (by omega)
  have za : Zm 1 a (ZD a) := zm_ZD (by omega)
  have zb : Zm 1 b (ZD b) := zm_ZD (by omega)
  refine pcr_by hG (fn := Tryd.f6) (n := 112) (rv := [.tmp 4]) (by kernel_rfl) ok6 (by kernel_rfl) (by decide) (by kernel_rfl) (by simp) (by kernel_rfl) (fun r hr => ?_); unfold c6 st0
  (refine xctl ?_); refine xrg ?_; (refine xctl ?_); refine xrg ?_; (refine xca1 ?_; refine xca (pcr_awake hG hT hM) ?_); refine xrg ?_; (refine xctl ?_); refine xcF ?_; (refine xctl ?_)
  refine xrg ?_; (refine xca1 ?_; refine xca (ofa) ?_)
  refine xrg ?_; (refine xca1 ?_; refine xca (ofb) ?_)
  refine xrg ?_
  refine xctl ?_
  by_cases hb0 : b = 0
  · subst hb0
    have hd := NumT.pcr_div0 hG za zb (by omega) (by omega)
    refine xrg ?_; (refine xca1 ?_; refine xca (hd) ?_)
    refine xrg ?_
    refine xctl ?_
    refine xrg ?_
    refine xctl ?_
    refine xct ?_
    refine xctl ?_
    refine xrg ?_
    refine xctl ?_
    refine xrt ?_
    exact hr.symm
  have hd := NumT.pcr_div hG za zb (by omega) (by omega) hb0
  have hb1 : b.natAbs ≠ 0 := by omega
  have hP := Int.natAbs_tdiv_le_natAbs a b
  have hR : (a.tmod b).natAbs < b.natAbs := by rw [Int.natAbs_tmod]; exact Nat.mod_lt _ (by omega)
  have hPR := Int.mul_tdiv_add_tmod a b
  have hab : (a * b).natAbs ≤ 4611686018427387904 := by
    rw [Int.natAbs_mul]
    exact Nat.mul_le_mul (show a.natAbs ≤ 2147483648 by omega) (show b.natAbs ≤ 2147483648 by omega)
  have ofs := NumT.pcr_of hG (a + b) (by omega) (by omega)
  have ofab := NumT.pcr_of hG (a * b) (by omega) (by omega)
  have hadd := NumT.pcr_add hG za zb (by omega) (by omega)
  have hmul := NumT.pcr_mul hG za zb (by omega) (by omega)
  have zq : Zm 2 (a / b) (ZD (a / b)) := zm_ZD (by have := Int.natAbs_ediv_le_natAbs a b; omega)
  have zr : Zm 2 (a % b) (ZD (a % b)) := zm_ZD (by have := Int.emod_nonneg a hb0; have := Int.emod_lt a hb0; omega)
  have zs : Zm 2 (a + b) (ZD (a + b)) := zm_ZD (by omega)
  have zm2 : Zm 2 (a * b) (ZD (a * b)) := zm_ZD (by omega)
  have c3 := NumT.pcr_cmp hG zs zs (by omega) (by omega)
  have c4 := NumT.pcr_cmp hG zm2 zm2 (by omega) (by omega)
  have c5 := NumT.pcr_cmp hG za zb (by omega) (by omega)
  have hcmp := pcr_cmp32 hG a b
  rw [sign_self] at c3 c4
  refine xrg ?_; (refine xca1 ?_; refine xca (hd) ?_)
  refine xrg ?_
  refine xctl ?_
  refine xrg ?_
  refine xctl ?_
  refine xcF ?_
  refine xctl ?_
  refine xrg ?_
  refine xctl ?_
  refine xrg ?_
  refine xctl ?_
  have hmb : b * (a.tdiv b - 1) = b * a.tdiv b - b := by rw [Int.mul_sub, Int.mul_one]
  have hmb2 : b * (a.tdiv b + 1) = b * a.tdiv b + b := by rw [Int.mul_add, Int.mul_one]
  generalize hPe : a.tdiv b = P at *
  generalize hRe : a.tmod b = R at *
  by_cases hneg : R < 0
  · by_cases hbp : 0 < b
    · have hdm : a / b = P - 1 ∧ a % b = R + b := div_uniq hb0 (by omega) (by omega) (by omega)
      obtain ⟨p, hp⟩ : ∃ p, P - 1 = p := ⟨_, rfl⟩
      obtain ⟨m, hm⟩ : ∃ m, R + b = m := ⟨_, rfl⟩
      rw [hp, hm] at hdm
      have ofp := NumT.pcr_of hG p (by omega) (by omega)
      have ofm := NumT.pcr_of hG m (by omega) (by omega)
      have zp : Zm 2 p (ZD p) := zm_ZD (by omega)
      have zm : Zm 2 m (ZD m) := zm_ZD (by omega)
      have c1 := NumT.pcr_cmp hG zq zp (by omega) (by omega)
      have c2 := NumT.pcr_cmp hG zr zm (by omega) (by omega)
      rw [show (a / b - p).sign = 0 from by rw [hdm.1]; exact sign_self p] at c1
      rw [show (a % b - m).sign = 0 from by rw [hdm.2]; exact sign_self m] at c2
      refine xrg ?_
      refine xctl ?_
      refine xct ?_
      refine xctl ?_
      refine ops_sym (by simp (disch := omega) only [go_sem, Nat.reduceEqDiff, Nat.reduceAdd, Nat.reduceLT, Nat.reduceMul, Nat.reduceLeDiff, reduceCtorEq, Int.reduceNeg, Int.reduceToNat, hp, hm]; rfl) (by first | with_reducible exact True.intro | omega) ?_
      refine xctl ?_
      refine xrg ?_
      refine xctl ?_
      refine xcF ?_
      refine xctl ?_
      refine xrg ?_; (refine xca1 ?_; refine xca (ofp) ?_)
      refine xrg ?_; (refine xca1 ?_; refine xca (c1) ?_)
      refine xrg ?_; (refine xcga1 ?_; refine xca (ofm) ?_)
      refine xrg ?_; (refine xcga1 ?_; refine xca (c2) ?_)
      refine xrg ?_; (refine xcga1 ?_; refine xca (hadd) ?_)
      refine xrg ?_; (refine xcga1 ?_; refine xca (ofs) ?_)
      refine xrg ?_; (refine xcga1 ?_; refine xca (c3) ?_)
      refine xrg ?_; (refine xcga1 ?_; refine xca (hmul) ?_)
      refine xrg ?_; (refine xcga1 ?_; refine xca (ofab) ?_)
      refine xrg ?_; (refine xcga1 ?_; refine xca (c4) ?_)
      refine xrg ?_; (refine xcga1 ?_; refine xca (c5) ?_)
      refine xrg ?_; (refine xcga1 ?_; refine xca (hcmp) ?_)
      refine xrg ?_
      refine xctl ?_
      refine xdr ?_
      refine xctl ?_
      refine xrt ?_
      exact hr.symm
    · have hdm : a / b = P + 1 ∧ a % b = R - b := div_uniq hb0 (by omega) (by omega) (by omega)
      obtain ⟨p, hp⟩ : ∃ p, P + 1 = p := ⟨_, rfl⟩
      obtain ⟨m, hm⟩ : ∃ m, R - b = m := ⟨_, rfl⟩
      rw [hp, hm] at hdm
      have ofp := NumT.pcr_of hG p (by omega) (by omega)
      have ofm := NumT.pcr_of hG m (by omega) (by omega)
      have zp : Zm 2 p (ZD p) := zm_ZD (by omega)
      have zm : Zm 2 m (ZD m) := zm_ZD (by omega)
      have c1 := NumT.pcr_cmp hG zq zp (by omega) (by omega)
      have c2 := NumT.pcr_cmp hG zr zm (by omega) (by omega)
      rw [show (a / b - p).sign = 0 from by rw [hdm.1]; exact sign_self p] at c1
      rw [show (a % b - m).sign = 0 from by rw [hdm.2]; exact sign_self m] at c2
      refine xrg ?_
      refine xctl ?_
      refine xcF ?_
      refine xctl ?_
      refine xrg ?_
      refine xctl ?_
      refine xct ?_
      refine xctl ?_
      refine ops_sym (by simp (disch := omega) only [go_sem, Nat.reduceEqDiff, Nat.reduceAdd, Nat.reduceLT, Nat.reduceMul, Nat.reduceLeDiff, reduceCtorEq, Int.reduceNeg, Int.reduceToNat, hp, hm]; rfl) (by first | with_reducible exact True.intro | omega) ?_
      refine xctl ?_
      refine xrg ?_; (refine xca1 ?_; refine xca (ofp) ?_)
      refine xrg ?_; (refine xca1 ?_; refine xca (c1) ?_)
      refine xrg ?_; (refine xcga1 ?_; refine xca (ofm) ?_)
      refine xrg ?_; (refine xcga1 ?_; refine xca (c2) ?_)
      refine xrg ?_; (refine xcga1 ?_; refine xca (hadd) ?_)
      refine xrg ?_; (refine xcga1 ?_; refine xca (ofs) ?_)
      refine xrg ?_; (refine xcga1 ?_; refine xca (c3) ?_)
      refine xrg ?_; (refine xcga1 ?_; refine xca (hmul) ?_)
      refine xrg ?_; (refine xcga1 ?_; refine xca (ofab) ?_)
      refine xrg ?_; (refine xcga1 ?_; refine xca (c4) ?_)
      refine xrg ?_; (refine xcga1 ?_; refine xca (c5) ?_)
      refine xrg ?_; (refine xcga1 ?_; refine xca (hcmp) ?_)
      refine xrg ?_
      refine xctl ?_
      refine xdr ?_
      refine xctl ?_
      refine xrt ?_
      exact hr.symm
  · have hdm : a / b = P ∧ a % b = R := div_uniq hb0 (by omega) (by omega) (by omega)
    obtain ⟨p, hp⟩ : ∃ p, P = p := ⟨_, rfl⟩
    obtain ⟨m, hm⟩ : ∃ m, R = m := ⟨_, rfl⟩
    subst hp hm
    have ofp := NumT.pcr_of hG P (by omega) (by omega)
    have ofm := NumT.pcr_of hG R (by omega) (by omega)
    have zp : Zm 2 P (ZD P) := zm_ZD (by omega)
    have zm : Zm 2 R (ZD R) := zm_ZD (by omega)
    have c1 := NumT.pcr_cmp hG zq zp (by omega) (by omega)
    have c2 := NumT.pcr_cmp hG zr zm (by omega) (by omega)
    rw [show (a / b - P).sign = 0 from by rw [hdm.1]; exact sign_self P] at c1
    rw [show (a % b - R).sign = 0 from by rw [hdm.2]; exact sign_self R] at c2
    refine xrg ?_
    refine xctl ?_
    refine xcF ?_
    refine xctl ?_
    refine xrg ?_
    refine xctl ?_
    refine xcF ?_
    refine xctl ?_
    refine xrg ?_; (refine xca1 ?_; refine xca (ofp) ?_)
    refine xrg ?_; (refine xca1 ?_; refine xca (c1) ?_)
    refine xrg ?_; (refine xcga1 ?_; refine xca (ofm) ?_)
    refine xrg ?_; (refine xcga1 ?_; refine xca (c2) ?_)
    refine xrg ?_; (refine xcga1 ?_; refine xca (hadd) ?_)
    refine xrg ?_; (refine xcga1 ?_; refine xca (ofs) ?_)
    refine xrg ?_; (refine xcga1 ?_; refine xca (c3) ?_)
    refine xrg ?_; (refine xcga1 ?_; refine xca (hmul) ?_)
    refine xrg ?_; (refine xcga1 ?_; refine xca (ofab) ?_)
    refine xrg ?_; (refine xcga1 ?_; refine xca (c4) ?_)
    refine xrg ?_; (refine xcga1 ?_; refine xca (c5) ?_)
    refine xrg ?_; (refine xcga1 ?_; refine xca (hcmp) ?_)
    refine xrg ?_
    refine xctl ?_
    refine xdr ?_
    refine xctl ?_
    refine xrt ?_
    exact hr.symm
end Go.Proofs.YtnildflhdkdbiaaDoorK.LawT2
