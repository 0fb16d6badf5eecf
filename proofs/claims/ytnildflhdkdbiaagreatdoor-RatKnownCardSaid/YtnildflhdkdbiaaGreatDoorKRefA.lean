/-
  The document's trim, Small, at, Cmp: what they compute.
-/
import Derived.Test.YtnildflhdkdbiaaGreatDoorKIrRef
import Derived.Test.YtnildflhdkdbiaaGreatDoorKP
import Derived.Test.YtnildflhdkdbiaaGreatDoorKTrim
import Derived.Test.YtnildflhdkdbiaaGreatDoorKCmpN
set_option linter.all false
set_option linter.unusedVariables false
set_option linter.unusedSimpArgs false
set_option maxHeartbeats 4000000
namespace Go.Proofs.YtnildflhdkdbiaaGreatDoorK.RefT
open Go.Proofs.YtnildflhdkdbiaaGreatDoorK.AI Go.Proofs.YtnildflhdkdbiaaGreatDoorK.NatIr Go.Proofs.YtnildflhdkdbiaaGreatDoorK.Dig Go.Proofs.YtnildflhdkdbiaaGreatDoorK.NatT
set_option linter.unusedSimpArgs false
attribute [local irreducible] awp awpOps
attribute [local go_sem] getO putE_same putE_ne putE_none un0_at ini_zero ini_one ini_two ini_three ne_eq not_false_eq_true Nat.zero_ne_one Nat.one_ne_zero zero_ne_succ succ_ne_zero sym_nil sym_cons symG_call symG_op symG_skip IOp.isCall gd st_mv st_pick st_new st_box st_build st_lit st_load st_store st_faddr st_fld st_iaddrS st_iaddrA st_idxs st_bin st_beq st_neg st_not st_conv st_slcS st_slcL st_make st_app st_lenS st_lenL st_mx st_mn st_ext st_nilck pureC loadC setH hv boundO D.cells D.one D.boxable fillD putD rowD binC intBinC decT decF dec_true dec_false bne_self_eq_false beq_self_eq_true beq_true_false beq_false_true bne_iff_ne List.length_nil List.length_cons List.getD_cons_zero List.getD_cons_succ List.set_cons_zero List.set_cons_succ List.all_cons List.all_nil Bool.and_true Bool.true_and Nat.lt_irrefl Nat.sub_self Nat.zero_add Nat.add_zero Nat.mul_one Nat.lt_add_one if_true if_false List.replicate_zero List.nil_append List.cons_append List.append_nil List.map_cons List.map_nil Bool.false_eq_true or_self or_true true_or or_false false_or true_and and_true and_self Int.ofNat_zero wrap_i64 wrap_u32 wrap_u64 wrap_u8 wrap_u32_mod wrap_u64_mod Nat.zero_lt_one Int.toNat_natCast Int.sub_zero toNat_pred List.take_succ_cons List.take_zero List.drop_succ_cons List.drop_zero List.take_nil List.drop_nil Nat.le_refl List.length_singleton rvDs rvD ldD one? Option.bind_some Option.map_some resD_int resD_bool resD_str resD_sl resD_rp resD_nils resD_null resD_agg resD_tup resD_own rdOwn resD_ptr rdPtr rd_ite resL_eq go_nil go_cons D.imm resArgs shr32 shl32 Nat.zero_mul Bool.and_self Bool.and_false Bool.false_and strBin_eql strBin_neq Bool.not_true Bool.not_false i64max List.length_reverse List.length_set SS_length SS_getD SS_set SS_take SS_drop SS_imm SS_one SS_app1 W_get1 W_len1 W_getD W_set W_take W_drop W_app W_length W_imm W_one W_repl N mx_nat toNat_succ toNat_add toNat_pred2 tdiv_nn tmod_nn List.take_of_length_le cast_succ and_one or_shl32 min64 shr32b shl32b IntKind.bits
attribute [local go_sem] V_getD V_set V_take V_drop V_imm V_one V_app V_app1 V_repl V_get1 V_length M List.length_append
variable {G : World → Prop}
theorem M_zero : M 0 = .sl 0 [] := by rw [M, wd_zero]; rfl
theorem pcr_rtrim (hG : Stable G) (ds : List Int) (n : Nat) (hn : n = ds.length) (hok : ok 10000 ds) (hlen : ds.length < 1000000) : PCr Tryz.prog G 89 [.sl n (V ds)] (M (vl 10000 ds)) := by
  subst hn
  refine pcr_by hG (fn := Tryz.f89) (n := 21) (rv := [.tmp 2]) (by kernel_rfl) ok89 (by kernel_rfl) (by decide) (by kernel_rfl) (by simp) (by kernel_rfl) (fun r hr => ?_); unfold c89 st0
  refine xctl ?_
  refine xrg ?_
  refine xctl ?_
  refine awp_loop (fun n σ => ∃ ds' : List Int, ds'.length ≤ ds.length ∧ ok 10000 ds' ∧ vl 10000 ds' = vl 10000 ds ∧ n = ds'.length ∧ σ = ⟨(putE un0 (some 0) (.sl ds'.length (V ds'))), []⟩) ds.length (Ent.env (less_put (less_un0 _) ?_)) ⟨ds, Nat.le_refl _, hok, rfl, rfl, rfl⟩ ?_
  iterate 1 (· exact xlq)
  rintro n σ1 ⟨ds', hle, hok', hvl, rfl, rfl⟩
  by_cases h0 : ds' = []
  · subst h0
    refine xctl ?_
    refine xrg ?_
    refine xctl ?_
    refine xcF ?_
    refine xctl ?_
    refine xrg ?_
    refine xctl ?_
    refine xrt ?_
    rw [hr, ← hvl, M, vl_nil, wd_zero]; rfl
  · have hp := List.length_pos_iff.2 h0
    refine xctl ?_
    refine xrg ?_
    refine xctl ?_
    refine xcs (fun hb => ?_) (fun hb => ?_)
    · have hb := of_decide_eq_true hb
      refine xctl ?_
      refine xrg ?_
      refine xctl ?_
      refine ⟨ds'.length - 1, _, by omega, Ent.env (less_put (less_un0 _) ?_), ds'.take (ds'.length - 1), by simp; omega, ok_take hok' _, by rw [vl_dropLast h0 hb, hvl], by simp, rfl⟩
      · simp (disch := omega) only [go_sem, Nat.reduceEqDiff, Nat.reduceAdd, Nat.reduceLT, Nat.reduceMul, Nat.reduceLeDiff, reduceCtorEq, Int.reduceNeg, Int.reduceToNat]
        simp (disch := omega) only [List.length_take, Nat.min_eq_left]
    · have hb := of_decide_eq_false hb
      refine xctl ?_
      refine xrg ?_
      refine xctl ?_
      refine xrt ?_
      rw [hr, ← hvl, M, ← eq_wd (by omega) hok' (fun x hx => by rw [getD_last h0] at hx; cases hx; exact hb)]
theorem pcr_rat (hG : Stable G) (l : List Int) (n : Nat) (i : Int) (hn : n = l.length) (hok : ok 10000 l) (hi : 0 ≤ i) (hl : l.length < 1000000) : PCr Tryz.prog G 88 [.sl n (V l), .int .i64 i] (.int .i64 (l.getD i.toNat 0)) := by
  subst hn
  obtain ⟨j, rfl⟩ := Int.eq_ofNat_of_zero_le hi
  rw [Int.toNat_natCast]
  refine pcr_by hG (fn := Tryz.f88) (n := 13) (rv := [.tmp 4]) (by kernel_rfl) ok88 (by kernel_rfl) (by decide) (by kernel_rfl) (by simp) (by kernel_rfl) (fun r hr => ?_); unfold c88 st0
  refine xctl ?_
  refine xrg ?_
  refine xctl ?_
  refine xrg ?_
  refine xctl ?_
  refine xcs (fun hb => ?_) (fun hb => ?_)
  · have hb := of_decide_eq_true hb
    refine xctl ?_
    refine xrg ?_
    refine xctl ?_
    refine xrt ?_
    exact hr.symm
  · have hb := of_decide_eq_false hb
    refine xctl ?_
    refine xrg ?_
    refine xctl ?_
    refine xrt ?_
    rw [hr, List.getD_eq_getElem?_getD, List.getElem?_eq_none (by omega)]; rfl
/-- The digits of n, the lowest first, up to the one that is not nought. -/
theorem wd_snoc {l : List Int} {v n : Nat} (hok : ok 10000 l) (hv : v = vl 10000 l + 10000 ^ l.length * n) (hn : n ≠ 0) : vl 10000 (l ++ [((n % 10000 : Nat) : Int)]) + 10000 ^ (l.length + 1) * (n / 10000) = v := by
  rw [vl_append, vl_cons, vl_nil, hv, Int.toNat_natCast, Nat.mul_zero, Nat.add_zero, Nat.pow_succ, Nat.mul_assoc, Nat.add_assoc, ← Nat.mul_add, Nat.mod_add_div]
theorem pcr_rsmall (hG : Stable G) (n : Nat) (hn : n < 18446744073709551616) : PCr Tryz.prog G 85 [.int .u64 n] (M n) := by
  refine pcr_by hG (fn := Tryz.f85) (n := 15) (rv := [.tmp 2]) (by kernel_rfl) ok85 (by kernel_rfl) (by decide) (by kernel_rfl) (by simp) (by kernel_rfl) (fun r hr => ?_); unfold c85 st0
  refine xctl ?_
  refine xrg ?_
  refine xctl ?_
  refine xrg ?_
  refine xctl ?_
  refine awp_loop (fun k σ => ∃ (m ver : Nat) (l : List Int), k = m ∧ m ≤ n ∧ l.length ≤ 30 ∧ (m ≠ 0 → 10000 ^ l.length ≤ n) ∧ ok 10000 l ∧ n = vl 10000 l + 10000 ^ l.length * m ∧ (l ≠ [] → m = 0 → l.getD (l.length - 1) 0 ≠ 0) ∧
      σ = ⟨(putE (putE un0 (some 0) (.int .u64 m)) (some 3) (.own 0 ver 0 l.length)), [some (ver, 3, 1, V l)]⟩) n
    ((Ent.nils (s := 3) 3 1 (by simp only [go_sem, Nat.reduceEqDiff, Nat.reduceAdd, Nat.reduceLT, Nat.reduceMul, Nat.reduceLeDiff, reduceCtorEq, Int.reduceNeg, Int.reduceToNat])).trans (by simp) (Ent.env (less_put (less_put (less_un0 _) ?_) ?_))) ⟨n, 0, [], rfl, Nat.le_refl _, by simp, fun h => by simp; omega, ok_nil _, by simp [vl], fun h => absurd rfl h, rfl⟩ ?_
  iterate 2 (· exact xlq)
  rintro m σ1 ⟨_, ver, l, rfl, hm, hl, hln, hok, hv, hlast, rfl⟩
  refine xctl ?_
  refine xrg ?_
  refine xctl ?_
  refine xcs (fun hb => ?_) (fun hb => ?_)
  · have hb := of_decide_eq_true hb
    have h0 : m ≠ 0 := by omega
    have h1 := hln h0
    have hl' : l.length ≤ 4 := by
      rcases Nat.lt_or_ge 4 l.length with h | h
      · have h2 : 10000 ^ 5 ≤ 10000 ^ l.length := Nat.pow_le_pow_right (by omega) h
        omega
      · exact h
    have hs := wd_snoc hok hv h0
    have hd : m / 10000 ≤ m := Nat.div_le_self _ _
    have hdl : m / 10000 < m := Nat.div_lt_self (by omega) (by omega)
    have hmod := Nat.mod_lt m (show 10000 > 0 by omega)
    have em : (m : Int) % 10000 = ((m % 10000 : Nat) : Int) := by omega
    have ed : (m : Int) / 10000 = ((m / 10000 : Nat) : Int) := by omega
    refine xctl ?_
    refine xrg ?_
    refine xctl ?_
    refine xrg ?_
    refine xctl ?_
    refine ⟨m / 10000, _, hdl, (Ent.cutk 1 (less_put (less_put (less_un0 _) ?_) ?_) (by exact ⟨.inr rfl, trivial⟩) (kb_put (kb_put (kb_un0 _) (by simp [kb])) (by simp [kb])) (by simp [kbH, kb.kbs, kb, kbs_W, kbs_SS, kbs_V])), m / 10000, ver + 1, l ++ [(m : Int) % 10000], rfl, by omega, by simp; omega, ?_, ?_, ?_, ?_, rfl⟩
    · simp only [go_sem, Nat.reduceEqDiff, Nat.reduceAdd, Nat.reduceLT, Nat.reduceMul, Nat.reduceLeDiff, reduceCtorEq, Int.reduceNeg, Int.reduceToNat]
      rw [ed]
    · simp only [go_sem, Nat.reduceEqDiff, Nat.reduceAdd, Nat.reduceLT, Nat.reduceMul, Nat.reduceLeDiff, reduceCtorEq, Int.reduceNeg, Int.reduceToNat]
    · intro h2
      rw [List.length_append, List.length_singleton, Nat.pow_succ]
      have h3 : 10000 ^ l.length * 10000 ≤ 10000 ^ l.length * m := Nat.mul_le_mul_left _ (by omega)
      exact Nat.le_trans h3 (Nat.le_trans (Nat.le_add_left _ _) (Nat.le_of_eq hv.symm))
    · exact ok_append.2 ⟨hok, fun x hx => by simp at hx; omega⟩
    · rw [List.length_append, List.length_singleton, em]
      exact hs.symm
    · intro _ h2
      rw [List.length_append, List.length_singleton, Nat.add_sub_cancel, List.getD_eq_getElem?_getD, List.getElem?_append_right (Nat.le_refl _), Nat.sub_self]
      simp only [List.getElem?_cons_zero, Option.getD_some]
      omega
  · have hb := of_decide_eq_false hb
    have hm0 : m = 0 := by omega
    subst hm0
    refine xctl ?_
    refine xrg ?_
    refine xctl ?_
    refine xrt ?_
    rw [hr, M]
    have h1 : n = vl 10000 l := by simpa using hv
    have h2 : l = wd 10000 n := by
      rw [h1]
      refine eq_wd (by omega) hok (fun x hx => ?_)
      by_cases hl0 : l = []
      · subst hl0; cases hx
      · rw [getD_last hl0] at hx
        cases hx
        exact hlast hl0 rfl
    rw [← h2]
end Go.Proofs.YtnildflhdkdbiaaGreatDoorK.RefT
