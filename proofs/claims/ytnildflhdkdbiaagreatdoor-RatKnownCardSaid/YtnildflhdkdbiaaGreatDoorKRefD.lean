/-
  The document's Words, Pow: what they compute.
-/
import Derived.Test.YtnildflhdkdbiaaGreatDoorKIrRef
import Derived.Test.YtnildflhdkdbiaaGreatDoorKRefC
import Derived.Test.YtnildflhdkdbiaaGreatDoorKAc
set_option linter.all false
set_option linter.unusedVariables false
set_option linter.unusedSimpArgs false
set_option maxHeartbeats 4000000
namespace Go.Proofs.YtnildflhdkdbiaaGreatDoorK.RefT
open Go.Proofs.YtnildflhdkdbiaaGreatDoorK.AI Go.Proofs.YtnildflhdkdbiaaGreatDoorK.NatIr Go.Proofs.YtnildflhdkdbiaaGreatDoorK.Dig Go.Proofs.YtnildflhdkdbiaaGreatDoorK.NatT
set_option linter.unusedSimpArgs false
attribute [local irreducible] awp awpOps
attribute [local go_sem] getO putE_same putE_ne putE_none un0_at ini_zero ini_one ini_two ini_three ne_eq not_false_eq_true Nat.zero_ne_one Nat.one_ne_zero zero_ne_succ succ_ne_zero sym_nil sym_cons symG_call symG_op symG_skip IOp.isCall gd st_mv st_pick st_new st_box st_build st_lit st_load st_store st_faddr st_fld st_iaddrS st_iaddrA st_idxs st_bin st_beq st_neg st_not st_conv st_slcS st_slcL st_make st_app st_lenS st_lenL st_mx st_mn st_ext st_nilck pureC loadC setH hv boundO D.cells D.one D.boxable fillD putD rowD binC intBinC decT decF dec_true dec_false bne_self_eq_false beq_self_eq_true beq_true_false beq_false_true bne_iff_ne List.length_nil List.length_cons List.getD_cons_zero List.getD_cons_succ List.set_cons_zero List.set_cons_succ List.all_cons List.all_nil Bool.and_true Bool.true_and Nat.lt_irrefl Nat.sub_self Nat.zero_add Nat.add_zero Nat.mul_one Nat.lt_add_one if_true if_false List.replicate_zero List.nil_append List.cons_append List.append_nil List.map_cons List.map_nil Bool.false_eq_true or_self or_true true_or or_false false_or true_and and_true and_self Int.ofNat_zero wrap_i64 wrap_u32 wrap_u64 wrap_u8 wrap_u32_mod wrap_u64_mod Nat.zero_lt_one Int.toNat_natCast Int.sub_zero toNat_pred List.take_succ_cons List.take_zero List.drop_succ_cons List.drop_zero List.take_nil List.drop_nil Nat.le_refl List.length_singleton rvDs rvD ldD one? Option.bind_some Option.map_some resD_int resD_bool resD_str resD_sl resD_rp resD_nils resD_null resD_agg resD_tup resD_own rdOwn resD_ptr rdPtr rd_ite resL_eq go_nil go_cons D.imm resArgs shr32 shl32 Nat.zero_mul Bool.and_self Bool.and_false Bool.false_and strBin_eql strBin_neq Bool.not_true Bool.not_false i64max List.length_reverse List.length_set SS_length SS_getD SS_set SS_take SS_drop SS_imm SS_one SS_app1 W_get1 W_len1 W_getD W_set W_take W_drop W_app W_length W_imm W_one W_repl N mx_nat toNat_succ toNat_add toNat_pred2 tdiv_nn tmod_nn List.take_of_length_le cast_succ and_one or_shl32 min64 shr32b shl32b IntKind.bits
attribute [local go_sem] V_getD V_set V_take V_drop V_imm V_one V_app V_app1 V_repl V_get1 V_length M List.length_append
variable {G : World → Prop}
/-- A number of n words has at most 3 n fours of digits. -/
theorem wd4_len {X n : Nat} (h : X < 4294967296 ^ n) : (wd 10000 X).length ≤ 3 * n := by
  refine wd_length_le (by omega) (Nat.lt_of_lt_of_le h ?_)
  rw [Nat.pow_mul]
  exact Nat.pow_le_pow_left (by decide) n
theorem wd4_pow {X : Nat} (i : Nat) : (wd 10000 (X ^ i)).length ≤ (wd 10000 X).length * i + 1 := by
  have h1 := vl_lt (ok_wd (B := 10000) (by omega) X)
  rw [vl_wd (by omega)] at h1
  refine wd_length_le (by omega) ?_
  have h2 : X ^ i ≤ (10000 ^ (wd 10000 X).length) ^ i := Nat.pow_le_pow_left (Nat.le_of_lt h1) i
  rw [← Nat.pow_mul] at h2
  exact Nat.lt_of_le_of_lt h2 (Nat.pow_lt_pow_right (by omega) (by omega))
theorem pcr_words (hG : Stable G) (l : List Int) (n : Nat) (hn : n = l.length) (hok : ok 4294967296 l) (hl : l.length < 20000) : PCr Tryz.prog G 14 [.sl n (W l)] (M (vl 4294967296 l)) := by
  subst hn
  have hb := pcr_rsmall hG 4294967296 (by omega)
  rw [show ((4294967296 : Nat) : Int) = 4294967296 from rfl] at hb
  have hbl : (wd 10000 4294967296).length ≤ 3 := wd4_len (n := 1) (X := 4294967295) (by decide) |> fun _ => wd_length_le (by omega) (by decide)
  refine pcr_by hG (fn := Tryz.f14) (n := 25) (rv := [.tmp 2]) (by kernel_rfl) ok14 (by kernel_rfl) (by decide) (by kernel_rfl) (by simp) (by kernel_rfl) (fun r hr => ?_); unfold c14 st0
  refine xctl ?_
  refine xrg ?_
  refine xctl ?_
  refine xrg ?_
  refine xctl ?_
  refine xrg ?_; (refine xca1 ?_; refine xca (hb) ?_)
  refine xrg ?_
  refine xctl ?_
  refine xrg ?_
  refine xctl ?_
  refine awp_loop (fun k σ => k ≤ l.length ∧ σ = ⟨(putE (putE (putE (putE un0 (some 0) (.sl l.length (W l))) (some 3) (M (vl 4294967296 (l.drop k)))) (some 4) (M 4294967296)) (some 5) (.int .i64 ((k : Int) - 1))), []⟩) l.length
    ((Ent.nilsl (s := 3) (by simp only [go_sem, Nat.reduceEqDiff, Nat.reduceAdd, Nat.reduceLT, Nat.reduceMul, Nat.reduceLeDiff, reduceCtorEq, Int.reduceNeg, Int.reduceToNat])).trans (by simp) (Ent.env (less_put (less_put (less_put (less_put (less_un0 _) ?_) ?_) ?_) ?_))) ⟨Nat.le_refl _, rfl⟩ ?_
  iterate 1 (· exact xlq)
  · simp only [go_sem, Nat.reduceEqDiff, Nat.reduceAdd, Nat.reduceLT, Nat.reduceMul, Nat.reduceLeDiff, reduceCtorEq, Int.reduceNeg, Int.reduceToNat]
    rw [List.drop_length, vl_nil, wd_zero]; rfl
  iterate 2 (· exact xlq)
  rintro k σ1 ⟨hk, rfl⟩
  have hd1 := vl_lt (ok_drop hok k)
  have hdl := wd4_len hd1
  rw [List.length_drop] at hdl
  refine xctl ?_
  refine xrg ?_
  refine xctl ?_
  refine xcs (fun hb => ?_) (fun hb => ?_)
  · have hb' := of_decide_eq_true hb
    have hk1 : k - 1 + 1 = k := by omega
    have gl := ok_get hok (by omega) (k - 1)
    have hvd := vl_drop 4294967296 l (k - 1) (by omega)
    have hd2 := vl_lt (ok_drop hok (k - 1))
    have hdl2 := wd4_len hd2
    rw [List.length_drop] at hdl2
    rw [hk1] at hvd
    have hx : l.getD (k - 1) 0 = ((l.getD (k - 1) 0).toNat : Int) := by omega
    have hsm := pcr_rsmall hG (l.getD (k - 1) 0).toNat (by omega)
    rw [← hx] at hsm
    have hsl : (wd 10000 (l.getD (k - 1) 0).toNat).length ≤ 3 := wd4_len (n := 1) (by omega)
    have hml : (wd 10000 (vl 4294967296 (l.drop k) * 4294967296)).length ≤ 3 * (l.length - k + 1) := by
      refine wd4_len ?_
      rw [Nat.pow_succ]
      rw [List.length_drop] at hd1
      exact Nat.mul_lt_mul_of_pos_right hd1 (by omega)
    have hadd := pcr_radd hG (vl 4294967296 (l.drop k) * 4294967296) (l.getD (k - 1) 0).toNat (by omega) (by omega)
    rw [show vl 4294967296 (l.drop k) * 4294967296 + (l.getD (k - 1) 0).toNat = vl 4294967296 (l.drop (k - 1)) by omega] at hadd
    refine xctl ?_
    refine xrg ?_; (refine xca1 ?_; refine xca (pcr_rmul hG _ _ (by omega) (by omega)) ?_)
    refine xrg ?_; (refine xca1 ?_; refine xca (hsm) ?_)
    refine xrg ?_; (refine xca1 ?_; refine xca (hadd) ?_)
    refine xrg ?_
    refine xctl ?_
    refine xdr ?_
    refine xctl ?_
    refine xrg ?_
    refine xctl ?_
    refine ⟨k - 1, _, by omega, Ent.env (less_put (less_put (less_put (less_put (less_un0 _) ?_) ?_) ?_) ?_), by omega, rfl⟩
    iterate 3 (· exact xlq)
    · simp only [go_sem, Nat.reduceEqDiff, Nat.reduceAdd, Nat.reduceLT, Nat.reduceMul, Nat.reduceLeDiff, reduceCtorEq, Int.reduceNeg, Int.reduceToNat]
      rw [show ((k - 1 : Nat) : Int) = (k : Int) - 1 by omega]
  · have hb' := of_decide_eq_false hb
    have hk0 : k = 0 := by omega
    subst hk0
    refine xctl ?_
    refine xrg ?_
    refine xctl ?_
    refine xrt ?_
    rw [hr, M]
end Go.Proofs.YtnildflhdkdbiaaGreatDoorK.RefT
