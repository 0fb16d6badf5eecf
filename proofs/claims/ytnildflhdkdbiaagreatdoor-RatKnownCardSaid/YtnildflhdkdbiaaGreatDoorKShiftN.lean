/-
  nat.shift, back: what they compute.
-/
import Derived.Test.YtnildflhdkdbiaaGreatDoorKIrNat
import Derived.Test.YtnildflhdkdbiaaGreatDoorKSmallN
import Derived.Test.YtnildflhdkdbiaaGreatDoorKAc
set_option linter.all false
set_option linter.unusedVariables false
set_option linter.unusedSimpArgs false
set_option maxHeartbeats 4000000
namespace Go.Proofs.YtnildflhdkdbiaaGreatDoorK.NatT
open Go.Proofs.YtnildflhdkdbiaaGreatDoorK.AI Go.Proofs.YtnildflhdkdbiaaGreatDoorK.NatIr Go.Proofs.YtnildflhdkdbiaaGreatDoorK.Dig
set_option linter.unusedSimpArgs false
attribute [local irreducible] awp awpOps
attribute [local go_sem] getO putE_same putE_ne putE_none un0_at ini_zero ini_one ini_two ini_three ne_eq not_false_eq_true Nat.zero_ne_one Nat.one_ne_zero zero_ne_succ succ_ne_zero sym_nil sym_cons symG_call symG_op symG_skip IOp.isCall gd st_mv st_pick st_new st_box st_build st_lit st_load st_store st_faddr st_fld st_iaddrS st_iaddrA st_idxs st_bin st_beq st_neg st_not st_conv st_slcS st_slcL st_make st_app st_lenS st_lenL st_mx st_mn st_ext st_nilck pureC loadC setH hv boundO D.cells D.one D.boxable fillD putD rowD binC intBinC decT decF dec_true dec_false bne_self_eq_false beq_self_eq_true beq_true_false beq_false_true bne_iff_ne List.length_nil List.length_cons List.getD_cons_zero List.getD_cons_succ List.set_cons_zero List.set_cons_succ List.all_cons List.all_nil Bool.and_true Bool.true_and Nat.lt_irrefl Nat.sub_self Nat.zero_add Nat.add_zero Nat.mul_one Nat.lt_add_one if_true if_false List.replicate_zero List.nil_append List.cons_append List.append_nil List.map_cons List.map_nil Bool.false_eq_true or_self or_true true_or or_false false_or true_and and_true and_self Int.ofNat_zero wrap_i64 wrap_u32 wrap_u64 wrap_u8 wrap_u32_mod wrap_u64_mod Nat.zero_lt_one Int.toNat_natCast Int.sub_zero toNat_pred List.take_succ_cons List.take_zero List.drop_succ_cons List.drop_zero List.take_nil List.drop_nil Nat.le_refl List.length_singleton rvDs rvD ldD one? Option.bind_some Option.map_some resD_int resD_bool resD_str resD_sl resD_rp resD_nils resD_null resD_agg resD_tup resD_own rdOwn resD_ptr rdPtr rd_ite resL_eq go_nil go_cons D.imm resArgs shr32 shl32 Nat.zero_mul Bool.and_self Bool.and_false Bool.false_and strBin_eql strBin_neq Bool.not_true Bool.not_false i64max List.length_reverse List.length_set SS_length SS_getD SS_set SS_take SS_drop SS_imm SS_one SS_app1 W_get1 W_len1 W_getD W_set W_take W_drop W_app W_length W_imm W_one W_repl N mx_nat toNat_succ toNat_add toNat_pred2 tdiv_nn tmod_nn List.take_of_length_le cast_succ and_one or_shl32 min64 shr32b shl32b IntKind.bits
variable {G : World → Prop}
theorem pow2_int (n : Nat) : (2 : Int) ^ n = ((2 ^ n : Nat) : Int) := by simp
theorem pow2_le {n : Nat} (h : n ≤ 31) : 1 ≤ 2 ^ n ∧ 2 ^ n ≤ 2147483648 := ⟨Nat.one_le_two_pow, Nat.pow_le_pow_right (by omega) h⟩
theorem pcg_shift (l : List Int) (n k : Nat) (hn : n = l.length) (hok : ok 4294967296 l) (hl : l.length < 1000000) (hk : k ≤ 31) :
    PCg Tryz.prog G 93 [.sl n (W l), .int .i64 k] [] (.own 0 0 0 (n + 1)) [some (0, 108, 1, W (pd 4294967296 (vl 4294967296 l * 2 ^ k) (n + 1)))] := by
  refine pcg_by (fn := Tryz.f93) (n := 41) (rv := [.tmp 4]) (by kernel_rfl) ok93 (by kernel_rfl) (by decide) (by kernel_rfl) (by simp) (by kernel_rfl) (by simp) (fun r hh hr hhe => ?_); unfold c93
  subst hn hhe
  refine xctl ?_
  refine xrg ?_
  refine xctl ?_
  refine xrg ?_
  refine xctl ?_
  refine xrg ?_
  refine xctl ?_
  refine xrg ?_
  refine xctl ?_
  have hp := pow2_le hk
  have hpe := pow2_int k
  generalize hpk : 2 ^ k = p at *
  refine awp_loop (fun j σ => ∃ (i : Nat) (out : List Int) (c : Int), i ≤ l.length ∧ j = l.length - i ∧ out.length = l.length + 1 ∧ ok 4294967296 out ∧ zt out i ∧ 0 ≤ c ∧ c < p ∧ vl 4294967296 (out.take i) + 4294967296 ^ i * c.toNat = vl 4294967296 (l.take i) * p ∧
      σ = ⟨(putE (putE (putE (putE (putE (putE (putE un0 (some 0) (.sl l.length (W l))) (some 1) (.int .i64 k)) (some 5) (.own 0 0 0 (l.length + 1))) (some 6) (.int .u64 c)) (some 13) (.sl l.length (W l))) (some 14) (.int .i64 l.length)) (some 15) (.int .i64 i)),
        [some (0, 108, 1, W out)]⟩) l.length
    (Ent.env (less_put (less_put (less_put (less_put (less_put (less_put (less_put (less_un0 _) ?_) ?_) ?_) ?_) ?_) ?_) ?_)) ⟨0, List.replicate (l.length + 1) 0, 0, by omega, rfl, by simp, ok_replicate (by omega) _, zt_replicate _ _, by omega, by omega, by simp [vl], rfl⟩ ?_
  iterate 7 (· exact xlq)
  rintro j σ1 ⟨i, out, c, hi, rfl, hlo, hoo, hz, hc0, hc1, heq, rfl⟩
  refine xctl ?_
  refine xrg ?_
  refine xctl ?_
  refine xcs (fun hb => ?_) (fun hb => ?_)
  · have hb' := of_decide_eq_true hb
    have gl := ok_get hok (by omega) i
    have hvp : 0 ≤ l.getD i 0 * 2 ^ k ∧ l.getD i 0 * 2 ^ k ≤ 4294967295 * p := by
      rw [hpe]
      exact ⟨Int.mul_nonneg gl.1 (by omega), Int.mul_le_mul_of_nonneg_right (by omega) (by omega)⟩
    refine xctl ?_
    refine xrg ?_
    refine xctl ?_
    refine xrg ?_
    refine xctl ?_
    have hT : orI .u64 c (l.getD i 0 * 2 ^ k) = c + l.getD i 0 * p := by
      rw [orI_comm (by omega) (by omega), orI_add (n := k) hvp.1 (Int.mul_emod_left _ _) (by rw [hpe]; exact ⟨hc0, hc1⟩) (by omega), Int.add_comm, hpe]
    rw [hpe] at hvp
    generalize orI .u64 c (l.getD i 0 * 2 ^ k) = T at *
    have hT0 : 0 ≤ T ∧ T < 4294967296 * p := by omega
    have hTn : T.toNat = c.toNat + (l.getD i 0).toNat * p := by
      rw [hT, Int.toNat_add (by omega) hvp.1, Int.toNat_mul gl.1 (by omega)]; rfl
    have hst := shl_step (B := 4294967296) (v := (l.getD i 0).toNat) heq
    rw [← hTn] at hst
    have hq : T / 4294967296 < p := by omega
    refine xrg ?_
    refine xctl ?_
    refine xrg ?_
    refine xctl ?_
    refine xrg ?_
    refine xctl ?_
    refine ⟨l.length - (i + 1), _, by omega, Ent.env (less_put (less_put (less_put (less_put (less_put (less_put (less_put (less_un0 _) ?_) ?_) ?_) ?_) ?_) ?_) ?_), i + 1, out.set i (T % 4294967296), T / 4294967296, by omega, rfl, by simp [hlo], ok_set hoo _ (by omega), zt_next hz _, by omega, hq, ?_, rfl⟩
    iterate 7 (· exact xlq)
    rw [vl_set _ _ _ _ (by omega), vl_take_next _ l, show (T % 4294967296).toNat = T.toNat % 4294967296 by omega, show (T / 4294967296).toNat = T.toNat / 4294967296 by omega]
    exact hst
  · have hb' := of_decide_eq_false hb
    have hiN : i = l.length := by omega
    subst hiN
    have hset := vl_setw 4294967296 out l.length c (by omega)
    rw [hz _ (Nat.le_refl _)] at hset
    refine xctl ?_
    refine xrg ?_
    refine xctl ?_
    refine xrg ?_
    refine xctl ?_
    have hfin : out.set l.length c = pd 4294967296 (vl 4294967296 l * p) (l.length + 1) := by
      rw [pd_eq (by omega) (ok_set hoo l.length (v := c) (by omega))]
      congr 1
      · rw [List.take_length] at heq
        rw [← heq, ← zt_vl hz]
        simp at hset
        exact hset
      · simp [hlo]
    rw [← hfin]
    refine resg_ret (by simp (disch := omega) only [go_sem, Nat.reduceEqDiff, Nat.reduceAdd, Nat.reduceLT, Nat.reduceMul, Nat.reduceLeDiff, reduceCtorEq, Int.reduceNeg, Int.reduceToNat]; rfl) ?_ ?_ ?_
    · rw [hr]; rfl
    · rw [hr]; simp [kb]
    · exact kbH_imm (by simp [immH, W_imm])
theorem shrk {a : Int} {k : Nat} : a.fdiv (2 ^ k) = a / 2 ^ k := Int.fdiv_eq_ediv_of_nonneg _ (Int.le_of_lt (Int.pow_pos (by decide)))
attribute [local go_sem] shrk
theorem pcr_back (hG : Stable G) (l : List Int) (n k : Nat) (hn : n = l.length) (hok : ok 4294967296 l) (hl : l.length < 1000000) (hk : k ≤ 31) :
    PCr Tryz.prog G 95 [.sl n (W l), .int .i64 k] (.sl n (W (pd 4294967296 (vl 4294967296 l / 2 ^ k) n))) := by
  subst hn
  refine pcr_by hG (fn := Tryz.f95) (n := 32) (rv := [.tmp 4]) (by kernel_rfl) ok95 (by kernel_rfl) (by decide) (by kernel_rfl) (by simp) (by kernel_rfl) (fun r hr => ?_); unfold c95 st0
  refine xctl ?_
  refine xrg ?_
  refine xctl ?_
  refine xrg ?_
  refine xctl ?_
  refine xrg ?_
  refine xctl ?_
  have hp := pow2_le hk
  have hpe := pow2_int k
  generalize hpk : 2 ^ k = p at *
  refine awp_loop (fun j σ => ∃ (i : Nat) (out : List Int), i ≤ l.length ∧ j = l.length - i ∧ out.length = l.length ∧ ok 4294967296 out ∧ out.take i = (pd 4294967296 (vl 4294967296 l / p) l.length).take i ∧
      σ = ⟨(putE (putE (putE (putE (putE un0 (some 0) (.sl l.length (W l))) (some 1) (.int .i64 k)) (some 5) (.own 0 0 0 l.length)) (some 11) (.int .i64 l.length)) (some 12) (.int .i64 i)),
        [some (0, 108, 1, W out)]⟩) l.length
    (Ent.env (less_put (less_put (less_put (less_put (less_put (less_un0 _) ?_) ?_) ?_) ?_) ?_)) ⟨0, List.replicate l.length 0, by omega, rfl, by simp, ok_replicate (by omega) _, by simp, rfl⟩ ?_
  iterate 5 (· exact xlq)
  rintro j σ1 ⟨i, out, hi, rfl, hlo, hoo, heq, rfl⟩
  refine xctl ?_
  refine xrg ?_
  refine xctl ?_
  refine xcs (fun hb => ?_) (fun hb => ?_)
  · have hb' := of_decide_eq_true hb
    have g0 := ok_get hok (by omega) i
    have g1 := ok_get hok (by omega) (i + 1)
    refine xctl ?_
    refine xrg ?_
    refine xctl ?_
    refine xrg ?_
    refine xcf1 ?_; refine xcf (pcr_at hG l _ _ rfl hok (by omega) (by omega)) rfl ?_
    rw [show ((i : Int) + 1).toNat = i + 1 by omega]
    refine xrg ?_
    refine xcf1 ?_; refine xcf (pcr_at hG l _ _ rfl hok (by omega) (by omega)) rfl ?_
    rw [show ((i : Int)).toNat = i by omega]
    refine xrg ?_
    refine xctl ?_
    refine xrg ?_
    refine xctl ?_
    have hv : ((l.getD (i + 1) 0) * 4294967296 + l.getD i 0) / 2 ^ k % 4294967296 = ((vl 4294967296 l / p / 4294967296 ^ i % 4294967296 : Nat) : Int) := by
      rw [shr_digit (by omega) (by omega) (by rw [← hpk]; exact Nat.pow_dvd_pow 2 (show k ≤ 32 by omega)) hok, hpe]
      have e : (l.getD (i + 1) 0) * 4294967296 + l.getD i 0 = (((l.getD (i + 1) 0).toNat * 4294967296 + (l.getD i 0).toNat : Nat) : Int) := by omega
      rw [e]
      rw [Int.natCast_emod, Int.natCast_ediv]; rfl
    refine ⟨l.length - (i + 1), _, by omega, Ent.env (less_put (less_put (less_put (less_put (less_put (less_un0 _) ?_) ?_) ?_) ?_) ?_), i + 1, out.set i (((l.getD (i + 1) 0) * 4294967296 + l.getD i 0) / 2 ^ k % 4294967296), by omega, rfl, by simp [hlo], ok_set hoo _ (by omega), ?_, rfl⟩
    iterate 5 (· exact xlq)
    rw [take_set_next (by omega), take_next (by rw [pd_length]; omega), heq, pd_getD _ _ _ (by omega), hv]
  · have hb' := of_decide_eq_false hb
    have hiN : i = l.length := by omega
    subst hiN
    rw [List.take_of_length_le (by omega), List.take_of_length_le (by rw [pd_length]; omega)] at heq
    refine xctl ?_
    refine xrg ?_
    refine xctl ?_
    refine xrt ?_
    rw [hr, heq]
end Go.Proofs.YtnildflhdkdbiaaGreatDoorK.NatT
