/-
  nat.Low: what it computes.
-/
import Derived.Test.YtakghhkbaahabaaDoorKBd
set_option linter.all false
set_option linter.unusedVariables false
set_option linter.unusedSimpArgs false
set_option maxHeartbeats 4000000
namespace Go.Proofs.YtakghhkbaahabaaDoorK.NatT
open Go.Proofs.YtakghhkbaahabaaDoorK.AI Go.Proofs.YtakghhkbaahabaaDoorK.NatIr Go.Proofs.YtakghhkbaahabaaDoorK.Dig Go.Proofs.YtakghhkbaahabaaDoorK.LibT
set_option linter.unusedSimpArgs false
attribute [local irreducible] awp awpOps
attribute [local go_sem] getO putE_same putE_ne putE_none un0_at ini_zero ini_one ini_two ini_three ne_eq not_false_eq_true Nat.zero_ne_one Nat.one_ne_zero zero_ne_succ succ_ne_zero sym_nil sym_cons symG_call symG_op symG_skip IOp.isCall gd st_mv st_pick st_new st_box st_build st_lit st_load st_store st_faddr st_fld st_iaddrS st_iaddrA st_idxs st_bin st_beq st_neg st_not st_conv st_slcS st_slcL st_make st_app st_lenS st_lenL st_mx st_mn st_ext st_nilck pureC loadC setH hv boundO D.cells D.one D.boxable fillD putD rowD binC intBinC decT decF dec_true dec_false bne_self_eq_false beq_self_eq_true beq_true_false beq_false_true bne_iff_ne List.length_nil List.length_cons List.getD_cons_zero List.getD_cons_succ List.set_cons_zero List.set_cons_succ List.all_cons List.all_nil Bool.and_true Bool.true_and Nat.lt_irrefl Nat.sub_self Nat.zero_add Nat.add_zero Nat.mul_one Nat.lt_add_one if_true if_false List.replicate_zero List.nil_append List.cons_append List.append_nil List.map_cons List.map_nil Bool.false_eq_true or_self or_true true_or or_false false_or true_and and_true and_self Int.ofNat_zero wrap_i64 wrap_u32 wrap_u64 wrap_u8 wrap_u32_mod wrap_u64_mod Nat.zero_lt_one Int.toNat_natCast Int.sub_zero toNat_pred List.take_succ_cons List.take_zero List.drop_succ_cons List.drop_zero List.take_nil List.drop_nil Nat.le_refl List.length_singleton rvDs rvD ldD one? Option.bind_some Option.map_some resD_int resD_bool resD_str resD_sl resD_rp resD_nils resD_null resD_agg resD_tup resD_own rdOwn resD_ptr rdPtr rd_ite resL_eq go_nil go_cons D.imm resArgs shr32 shl32 Nat.zero_mul Bool.and_self Bool.and_false Bool.false_and strBin_eql strBin_neq Bool.not_true Bool.not_false i64max List.length_reverse List.length_set SS_length SS_getD SS_set SS_take SS_drop SS_imm SS_one SS_app1 W_get1 W_len1 W_getD W_set W_take W_drop W_app W_length W_imm W_one W_repl N mx_nat toNat_succ toNat_add toNat_pred2 tdiv_nn tmod_nn List.take_of_length_le cast_succ and_one or_shl32 min64 shr32b shl32b IntKind.bits
variable {G : World → Prop}
theorem pcr_low (hG : Stable G) {L X : Nat} {d : D} (hx : Nm L X d) (hL : L < 1000000) (hX : X < 18446744073709551616) : PCr Tryd.prog G 27 [d] (.tup [.int .u64 X, .bool true]) := by
  obtain ⟨a, n, hn, ha, hv, hla, rfl⟩ := hx
  subst hn
  have htr := pcr_trim hG a _ rfl ha (by omega)
  rw [hv, N] at htr
  have hl2 := wd_length_le (B := 4294967296) (k := 2) (by omega) hX
  have hok := ok_wd (B := 4294967296) (by omega) X
  have hvl := vl_wd (B := 4294967296) (by omega) X
  generalize wd 4294967296 X = l at *
  refine pcr_by hG (fn := Tryd.f27) (n := 32) (rv := [.tmp 2, .tmp 3]) (by kernel_rfl) ok27 (by kernel_rfl) (by decide) (by kernel_rfl) (by simp) (by kernel_rfl) (fun r hr => ?_)
  unfold c27 st0
  repeat with_reducible first | refine awp_seq_i ?_ | refine awp_reg_i ?_ | refine ops_nil_i ?_ | refine then_normal_i ?_ | refine awp_draw_i ?_ | refine awp_block_i ?_ | refine in_normal_i ?_ | refine awp_exit_i ?_ | refine then_exit_i ?_ | refine in_exit_i ?_ | refine in_exit_ne (by decide) ?_ | refine awp_ret_i ?_ | refine then_ret_i ?_ | refine in_ret_i ?_ | refine awp_skip_i ?_
  refine ops_sym (by simp (disch := omega) only [go_sem, Nat.reduceEqDiff, Nat.reduceAdd, Nat.reduceLT, Nat.reduceMul, Nat.reduceLeDiff, reduceCtorEq, Int.reduceNeg, Int.reduceToNat]; rfl) (by first | with_reducible exact True.intro | omega) ?_
  repeat with_reducible first | refine awp_seq_i ?_ | refine awp_reg_i ?_ | refine ops_nil_i ?_ | refine then_normal_i ?_ | refine awp_draw_i ?_ | refine awp_block_i ?_ | refine in_normal_i ?_ | refine awp_exit_i ?_ | refine then_exit_i ?_ | refine in_exit_i ?_ | refine in_exit_ne (by decide) ?_ | refine awp_ret_i ?_ | refine then_ret_i ?_ | refine in_ret_i ?_ | refine awp_skip_i ?_
  refine ops_sym (by simp (disch := omega) only [go_sem, Nat.reduceEqDiff, Nat.reduceAdd, Nat.reduceLT, Nat.reduceMul, Nat.reduceLeDiff, reduceCtorEq, Int.reduceNeg, Int.reduceToNat]; rfl) (by first | with_reducible exact True.intro | omega) ?_
  repeat with_reducible first | refine awp_seq_i ?_ | refine awp_reg_i ?_ | refine ops_nil_i ?_ | refine then_normal_i ?_ | refine awp_draw_i ?_ | refine awp_block_i ?_ | refine in_normal_i ?_ | refine awp_exit_i ?_ | refine then_exit_i ?_ | refine in_exit_i ?_ | refine in_exit_ne (by decide) ?_ | refine awp_ret_i ?_ | refine then_ret_i ?_ | refine in_ret_i ?_ | refine awp_skip_i ?_
  refine ops_sym (by simp (disch := omega) only [go_sem, Nat.reduceEqDiff, Nat.reduceAdd, Nat.reduceLT, Nat.reduceMul, Nat.reduceLeDiff, reduceCtorEq, Int.reduceNeg, Int.reduceToNat]; rfl) (by first | with_reducible exact True.intro | omega) ?_; (refine ops_call (by simp (disch := omega) only [go_sem, Nat.reduceEqDiff, Nat.reduceAdd, Nat.reduceLT, Nat.reduceMul, Nat.reduceLeDiff, reduceCtorEq, Int.reduceNeg, Int.reduceToNat]; rfl) (htr) ?_)
  refine ops_sym (by simp (disch := omega) only [go_sem, Nat.reduceEqDiff, Nat.reduceAdd, Nat.reduceLT, Nat.reduceMul, Nat.reduceLeDiff, reduceCtorEq, Int.reduceNeg, Int.reduceToNat]; rfl) (by first | with_reducible exact True.intro | omega) ?_
  repeat with_reducible first | refine awp_seq_i ?_ | refine awp_reg_i ?_ | refine ops_nil_i ?_ | refine then_normal_i ?_ | refine awp_draw_i ?_ | refine awp_block_i ?_ | refine in_normal_i ?_ | refine awp_exit_i ?_ | refine then_exit_i ?_ | refine in_exit_i ?_ | refine in_exit_ne (by decide) ?_ | refine awp_ret_i ?_ | refine then_ret_i ?_ | refine in_ret_i ?_ | refine awp_skip_i ?_
  refine ops_sym (by simp (disch := omega) only [go_sem, Nat.reduceEqDiff, Nat.reduceAdd, Nat.reduceLT, Nat.reduceMul, Nat.reduceLeDiff, reduceCtorEq, Int.reduceNeg, Int.reduceToNat]; rfl) (by first | with_reducible exact True.intro | omega) ?_
  repeat with_reducible first | refine awp_seq_i ?_ | refine awp_reg_i ?_ | refine ops_nil_i ?_ | refine then_normal_i ?_ | refine awp_draw_i ?_ | refine awp_block_i ?_ | refine in_normal_i ?_ | refine awp_exit_i ?_ | refine then_exit_i ?_ | refine in_exit_i ?_ | refine in_exit_ne (by decide) ?_ | refine awp_ret_i ?_ | refine then_ret_i ?_ | refine in_ret_i ?_ | refine awp_skip_i ?_
  refine awp_cond_f (by simp only [go_sem, Nat.reduceEqDiff, Nat.reduceAdd, Nat.reduceLT, Nat.reduceMul, Nat.reduceLeDiff, reduceCtorEq, Int.reduceNeg, Int.reduceToNat]) ?_
  repeat with_reducible first | refine awp_seq_i ?_ | refine awp_reg_i ?_ | refine ops_nil_i ?_ | refine then_normal_i ?_ | refine awp_draw_i ?_ | refine awp_block_i ?_ | refine in_normal_i ?_ | refine awp_exit_i ?_ | refine then_exit_i ?_ | refine in_exit_i ?_ | refine in_exit_ne (by decide) ?_ | refine awp_ret_i ?_ | refine then_ret_i ?_ | refine in_ret_i ?_ | refine awp_skip_i ?_
  refine ops_sym (by simp (disch := omega) only [go_sem, Nat.reduceEqDiff, Nat.reduceAdd, Nat.reduceLT, Nat.reduceMul, Nat.reduceLeDiff, reduceCtorEq, Int.reduceNeg, Int.reduceToNat]; rfl) (by first | with_reducible exact True.intro | omega) ?_
  repeat with_reducible first | refine awp_seq_i ?_ | refine awp_reg_i ?_ | refine ops_nil_i ?_ | refine then_normal_i ?_ | refine awp_draw_i ?_ | refine awp_block_i ?_ | refine in_normal_i ?_ | refine awp_exit_i ?_ | refine then_exit_i ?_ | refine in_exit_i ?_ | refine in_exit_ne (by decide) ?_ | refine awp_ret_i ?_ | refine then_ret_i ?_ | refine in_ret_i ?_ | refine awp_skip_i ?_
  refine awp_loop (fun k σ => ∃ i, i ≤ l.length ∧ k = l.length - i ∧ σ = ⟨(putE (putE (putE (putE un0 (some 4) (.int .u64 (vl 4294967296 (l.take i)))) (some 16) (.sl l.length (W l))) (some 17) (.int .i64 l.length)) (some 18) (.int .i64 i)),
        [some (0, 25, 1, [.sl a.length (W a)])]⟩) l.length
    (Ent.env (less_put (less_put (less_put (less_put (less_un0 _) ?_) ?_) ?_) ?_)) ⟨0, Nat.zero_le _, rfl, rfl⟩ ?_
  · simp only [go_sem, Nat.reduceEqDiff, Nat.reduceAdd, Nat.reduceLT, Nat.reduceMul, Nat.reduceLeDiff, reduceCtorEq, Int.reduceNeg, Int.reduceToNat]
    rfl
  (· simp only [go_sem, Nat.reduceEqDiff, Nat.reduceAdd, Nat.reduceLT, Nat.reduceMul, Nat.reduceLeDiff, reduceCtorEq, Int.reduceNeg, Int.reduceToNat]); (· simp only [go_sem, Nat.reduceEqDiff, Nat.reduceAdd, Nat.reduceLT, Nat.reduceMul, Nat.reduceLeDiff, reduceCtorEq, Int.reduceNeg, Int.reduceToNat]); (· simp only [go_sem, Nat.reduceEqDiff, Nat.reduceAdd, Nat.reduceLT, Nat.reduceMul, Nat.reduceLeDiff, reduceCtorEq, Int.reduceNeg, Int.reduceToNat])
  rintro j σ1 ⟨i, hi, rfl, rfl⟩
  repeat with_reducible first | refine awp_seq_i ?_ | refine awp_reg_i ?_ | refine ops_nil_i ?_ | refine then_normal_i ?_ | refine awp_draw_i ?_ | refine awp_block_i ?_ | refine in_normal_i ?_ | refine awp_exit_i ?_ | refine then_exit_i ?_ | refine in_exit_i ?_ | refine in_exit_ne (by decide) ?_ | refine awp_ret_i ?_ | refine then_ret_i ?_ | refine in_ret_i ?_ | refine awp_skip_i ?_
  refine ops_sym (by simp (disch := omega) only [go_sem, Nat.reduceEqDiff, Nat.reduceAdd, Nat.reduceLT, Nat.reduceMul, Nat.reduceLeDiff, reduceCtorEq, Int.reduceNeg, Int.reduceToNat]; rfl) (by first | with_reducible exact True.intro | omega) ?_
  repeat with_reducible first | refine awp_seq_i ?_ | refine awp_reg_i ?_ | refine ops_nil_i ?_ | refine then_normal_i ?_ | refine awp_draw_i ?_ | refine awp_block_i ?_ | refine in_normal_i ?_ | refine awp_exit_i ?_ | refine then_exit_i ?_ | refine in_exit_i ?_ | refine in_exit_ne (by decide) ?_ | refine awp_ret_i ?_ | refine then_ret_i ?_ | refine in_ret_i ?_ | refine awp_skip_i ?_
  refine awp_cond_sym (by simp only [go_sem, Nat.reduceEqDiff, Nat.reduceAdd, Nat.reduceLT, Nat.reduceMul, Nat.reduceLeDiff, reduceCtorEq, Int.reduceNeg, Int.reduceToNat]; rfl) (fun hb => ?_) (fun hb => ?_)
  · have hb' := of_decide_eq_true hb
    have gl := ok_get hok (by omega) i
    have hi1 : i < l.length := by omega
    have hvt := vl_take_succ 4294967296 l i hi1
    have hlt := vl_lt (ok_take hok i)
    have hor : orI .u64 (vl 4294967296 (l.take i)) (l.getD i 0 * 2 ^ (32 * i)) = (vl 4294967296 (l.take (i + 1)) : Nat) := by
      rcases (show i = 0 ∨ i = 1 by omega) with rfl | rfl
      · simp only [List.take_zero, vl_nil] at hvt ⊢
        rw [hvt, orI_comm (by omega) (by omega), orI_add (n := 0) (by omega) (by omega) (by omega) (by omega)]
        omega
      · rw [hvt]
        rw [List.length_take, Nat.min_eq_left (by omega)] at hlt
        rw [orI_comm (by omega) (by omega), orI_add (n := 32) (by omega) (by omega) (by omega) (by omega)]
        omega
    have hsb0 : 0 ≤ l.getD i 0 * 2 ^ (32 * i) := by
      rcases (show i = 0 ∨ i = 1 by omega) with rfl | rfl <;> omega
    have hsb : l.getD i 0 * 2 ^ (32 * i) ≤ 18446744073709551615 := by
      rcases (show i = 0 ∨ i = 1 by omega) with rfl | rfl <;> omega
    have h32 : (32 * (i : Int)).toNat = 32 * i := by omega
    repeat with_reducible first | refine awp_seq_i ?_ | refine awp_reg_i ?_ | refine ops_nil_i ?_ | refine then_normal_i ?_ | refine awp_draw_i ?_ | refine awp_block_i ?_ | refine in_normal_i ?_ | refine awp_exit_i ?_ | refine then_exit_i ?_ | refine in_exit_i ?_ | refine in_exit_ne (by decide) ?_ | refine awp_ret_i ?_ | refine then_ret_i ?_ | refine in_ret_i ?_ | refine awp_skip_i ?_
    refine ops_sym (by simp (disch := omega) only [go_sem, Nat.reduceEqDiff, Nat.reduceAdd, Nat.reduceLT, Nat.reduceMul, Nat.reduceLeDiff, reduceCtorEq, Int.reduceNeg, Int.reduceToNat]; rfl) (by first | with_reducible exact True.intro | omega) ?_
    repeat with_reducible first | refine awp_seq_i ?_ | refine awp_reg_i ?_ | refine ops_nil_i ?_ | refine then_normal_i ?_ | refine awp_draw_i ?_ | refine awp_block_i ?_ | refine in_normal_i ?_ | refine awp_exit_i ?_ | refine then_exit_i ?_ | refine in_exit_i ?_ | refine in_exit_ne (by decide) ?_ | refine awp_ret_i ?_ | refine then_ret_i ?_ | refine in_ret_i ?_ | refine awp_skip_i ?_
    refine ops_sym (by simp (disch := omega) only [go_sem, Nat.reduceEqDiff, Nat.reduceAdd, Nat.reduceLT, Nat.reduceMul, Nat.reduceLeDiff, reduceCtorEq, Int.reduceNeg, Int.reduceToNat, h32, hor]; rfl) (by first | with_reducible exact True.intro | omega) ?_
    repeat with_reducible first | refine awp_seq_i ?_ | refine awp_reg_i ?_ | refine ops_nil_i ?_ | refine then_normal_i ?_ | refine awp_draw_i ?_ | refine awp_block_i ?_ | refine in_normal_i ?_ | refine awp_exit_i ?_ | refine then_exit_i ?_ | refine in_exit_i ?_ | refine in_exit_ne (by decide) ?_ | refine awp_ret_i ?_ | refine then_ret_i ?_ | refine in_ret_i ?_ | refine awp_skip_i ?_
    refine ops_sym (by simp (disch := omega) only [go_sem, Nat.reduceEqDiff, Nat.reduceAdd, Nat.reduceLT, Nat.reduceMul, Nat.reduceLeDiff, reduceCtorEq, Int.reduceNeg, Int.reduceToNat]; rfl) (by first | with_reducible exact True.intro | omega) ?_
    repeat with_reducible first | refine awp_seq_i ?_ | refine awp_reg_i ?_ | refine ops_nil_i ?_ | refine then_normal_i ?_ | refine awp_draw_i ?_ | refine awp_block_i ?_ | refine in_normal_i ?_ | refine awp_exit_i ?_ | refine then_exit_i ?_ | refine in_exit_i ?_ | refine in_exit_ne (by decide) ?_ | refine awp_ret_i ?_ | refine then_ret_i ?_ | refine in_ret_i ?_ | refine awp_skip_i ?_
    refine ⟨l.length - (i + 1), _, by omega, Ent.env (less_put (less_put (less_put (less_put (less_un0 _) ?_) ?_) ?_) ?_), i + 1, by omega, rfl, rfl⟩
    (· simp only [go_sem, Nat.reduceEqDiff, Nat.reduceAdd, Nat.reduceLT, Nat.reduceMul, Nat.reduceLeDiff, reduceCtorEq, Int.reduceNeg, Int.reduceToNat]); (· simp only [go_sem, Nat.reduceEqDiff, Nat.reduceAdd, Nat.reduceLT, Nat.reduceMul, Nat.reduceLeDiff, reduceCtorEq, Int.reduceNeg, Int.reduceToNat]); (· simp only [go_sem, Nat.reduceEqDiff, Nat.reduceAdd, Nat.reduceLT, Nat.reduceMul, Nat.reduceLeDiff, reduceCtorEq, Int.reduceNeg, Int.reduceToNat]); (· simp only [go_sem, Nat.reduceEqDiff, Nat.reduceAdd, Nat.reduceLT, Nat.reduceMul, Nat.reduceLeDiff, reduceCtorEq, Int.reduceNeg, Int.reduceToNat])
  · have hb' := of_decide_eq_false hb
    have hi0 : i = l.length := by omega
    subst hi0
    rw [List.take_length, hvl]
    repeat with_reducible first | refine awp_seq_i ?_ | refine awp_reg_i ?_ | refine ops_nil_i ?_ | refine then_normal_i ?_ | refine awp_draw_i ?_ | refine awp_block_i ?_ | refine in_normal_i ?_ | refine awp_exit_i ?_ | refine then_exit_i ?_ | refine in_exit_i ?_ | refine in_exit_ne (by decide) ?_ | refine awp_ret_i ?_ | refine then_ret_i ?_ | refine in_ret_i ?_ | refine awp_skip_i ?_
    refine ops_sym (by simp (disch := omega) only [go_sem, Nat.reduceEqDiff, Nat.reduceAdd, Nat.reduceLT, Nat.reduceMul, Nat.reduceLeDiff, reduceCtorEq, Int.reduceNeg, Int.reduceToNat]; rfl) (by first | with_reducible exact True.intro | omega) ?_
    repeat with_reducible first | refine awp_seq_i ?_ | refine awp_reg_i ?_ | refine ops_nil_i ?_ | refine then_normal_i ?_ | refine awp_draw_i ?_ | refine awp_block_i ?_ | refine in_normal_i ?_ | refine awp_exit_i ?_ | refine then_exit_i ?_ | refine in_exit_i ?_ | refine in_exit_ne (by decide) ?_ | refine awp_ret_i ?_ | refine then_ret_i ?_ | refine in_ret_i ?_ | refine awp_skip_i ?_
    refine res_ret (by simp (disch := omega) only [go_sem, Nat.reduceEqDiff, Nat.reduceAdd, Nat.reduceLT, Nat.reduceMul, Nat.reduceLeDiff, reduceCtorEq, Int.reduceNeg, Int.reduceToNat]; rfl) ?_
    exact hr.symm
end Go.Proofs.YtakghhkbaahabaaDoorK.NatT
