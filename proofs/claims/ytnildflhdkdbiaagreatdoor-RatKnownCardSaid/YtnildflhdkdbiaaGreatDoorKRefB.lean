/-
  The document's Cmp, Add: what they compute.
-/
import Derived.Test.YtnildflhdkdbiaaGreatDoorKIrRef
import Derived.Test.YtnildflhdkdbiaaGreatDoorKRefA
set_option linter.all false
set_option linter.unusedVariables false
set_option linter.unusedSimpArgs false
set_option maxHeartbeats 4000000
namespace Go.Proofs.YtnildflhdkdbiaaGreatDoorK.RefT
open Go.Proofs.YtnildflhdkdbiaaGreatDoorK.AI Go.Proofs.YtnildflhdkdbiaaGreatDoorK.NatIr Go.Proofs.YtnildflhdkdbiaaGreatDoorK.Dig Go.Proofs.YtnildflhdkdbiaaGreatDoorK.NatT
set_option linter.unusedSimpArgs false
attribute [local irreducible] awp awpOps
attribute [local go_sem] getO putE_same putE_ne putE_none un0_at ini_zero ini_one ini_two ini_three ne_eq not_false_eq_true Nat.zero_ne_one Nat.one_ne_zero zero_ne_succ succ_ne_zero sym_nil sym_cons symG_call symG_op symG_skip IOp.isCall gd st_mv st_pick st_new st_box st_build st_lit st_load st_store st_faddr st_fld st_iaddrS st_iaddrA st_idxs st_bin st_beq st_neg st_not st_conv st_slcS st_slcL st_make st_app st_lenS st_lenL st_mx st_mn st_ext st_nilck pureC loadC setH hv boundO D.cells D.one D.boxable fillD putD rowD binC intBinC decT decF dec_true dec_false bne_self_eq_false beq_self_eq_true beq_true_false beq_false_true bne_iff_ne List.length_nil List.length_cons List.getD_cons_zero List.getD_cons_succ List.set_cons_zero List.set_cons_succ List.all_cons List.all_nil Bool.and_true Bool.true_and Nat.lt_irrefl Nat.sub_self Nat.zero_add Nat.add_zero Nat.mul_one Nat.lt_add_one if_true if_false List.replicate_zero List.nil_append List.cons_append List.append_nil List.map_cons List.map_nil Bool.false_eq_true or_self or_true true_or or_false false_or true_and and_true and_self Int.ofNat_zero wrap_i64 wrap_u32 wrap_u64 wrap_u8 wrap_u32_mod wrap_u64_mod Nat.zero_lt_one Int.toNat_natCast Int.sub_zero toNat_pred List.take_succ_cons List.take_zero List.drop_succ_cons List.drop_zero List.take_nil List.drop_nil Nat.le_refl List.length_singleton rvDs rvD ldD one? Option.bind_some Option.map_some resD_int resD_bool resD_str resD_sl resD_rp resD_nils resD_null resD_agg resD_tup resD_own rdOwn resD_ptr rdPtr rd_ite resL_eq go_nil go_cons D.imm resArgs shr32 shl32 Nat.zero_mul Bool.and_self Bool.and_false Bool.false_and strBin_eql strBin_neq Bool.not_true Bool.not_false i64max List.length_reverse List.length_set SS_length SS_getD SS_set SS_take SS_drop SS_imm SS_one SS_app1 W_get1 W_len1 W_getD W_set W_take W_drop W_app W_length W_imm W_one W_repl N mx_nat toNat_succ toNat_add toNat_pred2 tdiv_nn tmod_nn List.take_of_length_le cast_succ and_one or_shl32 min64 shr32b shl32b IntKind.bits
attribute [local go_sem] V_getD V_set V_take V_drop V_imm V_one V_app V_app1 V_repl V_get1 V_length M List.length_append
variable {G : World → Prop}
theorem pcr_rcmp (hG : Stable G) (X Y : Nat) (hX : (wd 10000 X).length < 1000000) (hY : (wd 10000 Y).length < 1000000) :
    PCr Tryz.prog G 16 [M X, M Y] (.int .i64 (cmpN X Y)) := by
  have hxa := ok_wd (B := 10000) (by omega) X
  have hxb := ok_wd (B := 10000) (by omega) Y
  have hva := vl_wd (B := 10000) (by omega) X
  have hvb := vl_wd (B := 10000) (by omega) Y
  have hless := @wd_less 10000 (by omega) X Y
  have hless' := @wd_less 10000 (by omega) Y X
  have hinj := @wd_inj 10000 (by omega) X Y
  unfold M
  generalize wd 10000 X = x at *
  generalize wd 10000 Y = y at *
  refine pcr_by hG (fn := Tryz.f16) (n := 41) (rv := [.tmp 4]) (by kernel_rfl) ok16 (by kernel_rfl) (by decide) (by kernel_rfl) (by simp) (by kernel_rfl) (fun r hr => ?_); unfold c16 st0
  refine xctl ?_
  refine xrg ?_
  refine xctl ?_
  refine xrg ?_
  refine xctl ?_
  refine xcs (fun hb => ?_) (fun hb => ?_)
  · have hb := of_decide_eq_true hb
    refine xctl ?_
    refine xrg ?_
    refine xctl ?_
    refine xcs (fun hb => ?_) (fun hb => ?_)
    · have hb := of_decide_eq_true hb
      refine xctl ?_
      refine xrg ?_
      refine xctl ?_
      refine xrt ?_
      rw [hr, cmpN, if_pos (hless (by omega))]
    · have hb := of_decide_eq_false hb
      have := hless' (by omega)
      refine xctl ?_
      refine xrg ?_
      refine xctl ?_
      refine xrt ?_
      rw [hr, cmpN, if_neg (by omega), if_neg (by omega)]
  · have hb := of_decide_eq_false hb
    have hlen : y.length = x.length := by omega
    refine xctl ?_
    refine xrg ?_
    refine xctl ?_
    refine awp_loop (fun n σ => n ≤ x.length ∧ x.drop n = y.drop n ∧ σ = ⟨(putE (putE (putE un0 (some 0) (.sl x.length (V x))) (some 1) (.sl y.length (V y))) (some 5) (.int .i64 ((n : Int) - 1))), []⟩) x.length (Ent.env (less_put (less_put (less_put (less_un0 _) ?_) ?_) ?_)) ⟨Nat.le_refl _, by rw [List.drop_length, ← hlen, List.drop_length], rfl⟩ ?_
    iterate 3 (· exact xlq)
    rintro k σ1 ⟨hk, hdrop, rfl⟩
    refine xctl ?_
    refine xrg ?_
    refine xctl ?_
    refine xcs (fun hb => ?_) (fun hb => ?_)
    · have hb := of_decide_eq_true hb
      have hk1 : k - 1 + 1 = k := by omega
      have gx := ok_get hxa (by omega) (k - 1)
      have gy := ok_get hxb (by omega) (k - 1)
      refine xctl ?_
      refine xrg ?_
      refine xctl ?_
      refine xdr ?_
      refine xctl ?_
      refine xcs (fun hb => ?_) (fun hb => ?_)
      · have hb := of_decide_eq_true hb
        have := vl_less (B := 10000) (i := k - 1) (l := x) (m := y) hxa (by omega) (by omega) (by rw [hk1]; exact hdrop) (by omega)
        refine xctl ?_
        refine xrg ?_
        refine xctl ?_
        refine xrt ?_
        rw [hr, cmpN, if_pos (by omega)]
      · have hb := of_decide_eq_false hb
        refine xctl ?_
        refine xrg ?_
        refine xctl ?_
        refine xdr ?_
        refine xctl ?_
        refine xcs (fun hb => ?_) (fun hb => ?_)
        · have hb := of_decide_eq_true hb
          have := vl_less (B := 10000) (i := k - 1) (l := y) (m := x) hxb (by omega) (by omega) (by rw [hk1]; exact hdrop.symm) (by omega)
          refine xctl ?_
          refine xrg ?_
          refine xctl ?_
          refine xrt ?_
          rw [hr, cmpN, if_neg (by omega), if_neg (by omega)]
        · have hb := of_decide_eq_false hb
          refine xctl ?_
          refine xrg ?_
          refine xctl ?_
          refine ⟨k - 1, _, by omega, Ent.env (less_put (less_put (less_put (less_un0 _) ?_) ?_) ?_), by omega, drop_step (by omega) (by omega) (by omega) (by rw [hk1]; exact hdrop), rfl⟩
          iterate 2 (· exact xlq)
          · simp only [go_sem, Nat.reduceEqDiff, Nat.reduceAdd, Nat.reduceLT, Nat.reduceMul, Nat.reduceLeDiff, reduceCtorEq, Int.reduceNeg, Int.reduceToNat]
            rw [show ((k - 1 : Nat) : Int) = (k : Int) - 1 by omega]
    · have hb := of_decide_eq_false hb
      refine xctl ?_
      refine xrg ?_
      refine xctl ?_
      refine xrt ?_
      have hk0 : k = 0 := by omega
      subst hk0
      have := hinj hdrop
      rw [hr, cmpN, if_neg (by omega), if_pos this]
theorem getD_out {l : List Int} {i : Nat} (h : l.length ≤ i) : l.getD i 0 = 0 := by
  rw [List.getD_eq_getElem?_getD, List.getElem?_eq_none h]; rfl
theorem add_stop {a b out : List Int} {i : Nat} {c : Int} (ha : ok 10000 a) (hb : ok 10000 b) (hl : out.length = i) (h1 : a.length < i) (h2 : b.length < i) (h : vl 10000 out + 10000 ^ i * c.toNat = vl 10000 (a.take i) + vl 10000 (b.take i)) : c.toNat = 0 := by
  have h3 := add_end (B := 10000) (by omega) ha hb h1 h2 (c := c.toNat) (by rw [List.take_of_length_le (by omega)]; exact h) hl
  rw [List.take_of_length_le (by omega), List.take_of_length_le (by omega)] at h
  have h4 : 10000 ^ i * c.toNat = 0 := by omega
  rcases Nat.mul_eq_zero.1 h4 with h5 | h5
  · have : 0 < 10000 ^ i := Nat.pow_pos (by omega)
    omega
  · exact h5
theorem pcr_radd (hG : Stable G) (X Y : Nat) (hX : (wd 10000 X).length < 100000) (hY : (wd 10000 Y).length < 100000) :
    PCr Tryz.prog G 23 [M X, M Y] (M (X + Y)) := by
  have ha := ok_wd (B := 10000) (by omega) X
  have hb := ok_wd (B := 10000) (by omega) Y
  have hva := vl_wd (B := 10000) (by omega) X
  have hvb := vl_wd (B := 10000) (by omega) Y
  rw [M, M]
  generalize wd 10000 X = a at *
  generalize wd 10000 Y = b at *
  refine pcr_by hG (fn := Tryz.f23) (n := 43) (rv := [.tmp 4]) (by kernel_rfl) ok23 (by kernel_rfl) (by decide) (by kernel_rfl) (by simp) (by kernel_rfl) (fun r hr => ?_); unfold c23 st0
  refine xctl ?_
  refine xrg ?_
  refine xctl ?_
  refine xrg ?_
  refine xctl ?_
  refine xrg ?_
  refine xctl ?_
  refine xrg ?_
  refine xctl ?_
  refine awp_loop (fun k σ => ∃ (i ver : Nat) (c : Int) (out : List Int), i ≤ max a.length b.length + 1 ∧ k = max a.length b.length + 1 - i ∧ out.length = i ∧ 0 ≤ c ∧ c ≤ 1 ∧ ok 10000 out ∧ vl 10000 out + 10000 ^ i * c.toNat = vl 10000 (a.take i) + vl 10000 (b.take i) ∧
      σ = ⟨(putE (putE (putE (putE (putE un0 (some 0) (.sl a.length (V a))) (some 1) (.sl b.length (V b))) (some 5) (.own 0 ver 0 i)) (some 6) (.int .i64 c)) (some 7) (.int .i64 i)), [some (ver, 3, 1, V out)]⟩) (max a.length b.length + 1)
    ((Ent.nils (s := 5) 3 1 (by simp only [go_sem, Nat.reduceEqDiff, Nat.reduceAdd, Nat.reduceLT, Nat.reduceMul, Nat.reduceLeDiff, reduceCtorEq, Int.reduceNeg, Int.reduceToNat])).trans (by simp) (Ent.env (less_put (less_put (less_put (less_put (less_put (less_un0 _) ?_) ?_) ?_) ?_) ?_))) ⟨0, 0, 0, [], by omega, by omega, rfl, by omega, by omega, ok_nil _, by simp [vl], rfl⟩ ?_
  iterate 5 (· exact xlq)
  rintro k σ1 ⟨i, ver, c, out, hi, rfl, hlo, hc0, hc1, hoo, heq, rfl⟩
  by_cases hgo : i < a.length ∨ (¬ i < a.length ∧ i < b.length) ∨ (¬ i < a.length ∧ ¬ i < b.length ∧ 0 < c)
  · have hi1 : i ≤ max a.length b.length := by
      rcases Nat.lt_or_ge (max a.length b.length) i with h | h
      · have := add_stop ha hb hlo (by omega) (by omega) heq
        omega
      · exact h
    have ga := ok_get ha (by omega) i
    have gb := ok_get hb (by omega) i
    have hra := pcr_rat hG a a.length (i : Int) rfl ha (by omega) (by omega)
    have hrb := pcr_rat hG b b.length (i : Int) rfl hb (by omega) (by omega)
    rw [Int.toNat_natCast] at hra hrb
    have hst := add_step (B := 10000) (x := (a.getD i 0).toNat) (y := (b.getD i 0).toNat) heq
    rw [← vl_take_next, ← vl_take_next] at hst
    have hm : (a.getD i 0 + b.getD i 0 + c) % 10000 = ((c.toNat + ((a.getD i 0).toNat + (b.getD i 0).toNat)) % 10000 : Nat) := by omega
    have hd : ((a.getD i 0 + b.getD i 0 + c) / 10000).toNat = (c.toNat + ((a.getD i 0).toNat + (b.getD i 0).toNat)) / 10000 := by omega
    rw [← hd] at hst
    rcases hgo with hgo | hgo | hgo <;>
    ( refine xctl ?_
      refine xrg ?_
      refine xctl ?_
      refine xct ?_
      refine xctl ?_
      refine xrg ?_; (refine xcf1 ?_; refine xcf (hra) rfl ?_)
      refine xrg ?_; (refine xcf1 ?_; refine xcf (hrb) rfl ?_)
      refine xrg ?_
      refine xctl ?_
      refine xrg ?_
      refine xctl ?_
      refine xrg ?_
      refine xctl ?_
      refine xrg ?_
      refine xctl ?_
      refine ⟨max a.length b.length + 1 - (i + 1), _, by omega, (Ent.cutk 1 (less_put (less_put (less_put (less_put (less_put (less_un0 _) ?_) ?_) ?_) ?_) ?_) (by exact ⟨.inr rfl, trivial⟩) (kb_put (kb_put (kb_put (kb_put (kb_put (kb_un0 _) (by simp [kb])) (by simp [kb])) (by simp [kb])) (by simp [kb])) (by simp [kb])) (by simp [kbH, kb.kbs, kb, kbs_W, kbs_SS, kbs_V])), i + 1, ver + 1, (a.getD i 0 + b.getD i 0 + c) / 10000, out ++ [(a.getD i 0 + b.getD i 0 + c) % 10000], by omega, rfl, by simp; omega, by omega, by omega, ok_append.2 ⟨hoo, fun x hx => by simp at hx; omega⟩, ?_, rfl⟩
      iterate 5 (· exact xlq)
      rw [vl_append, hlo, vl_cons, vl_nil, hm, Int.toNat_natCast, Nat.mul_zero, Nat.add_zero]
      exact hst )
  · have h1 : ¬ i < a.length := fun h => hgo (.inl h)
    have h2 : ¬ i < b.length := fun h => hgo (.inr (.inl ⟨h1, h⟩))
    have h3 : ¬ 0 < c := fun h => hgo (.inr (.inr ⟨h1, h2, h⟩))
    have hc : c = 0 := by omega
    subst hc
    rw [List.take_of_length_le (by omega), List.take_of_length_le (by omega), hva, hvb] at heq
    have heq' : vl 10000 out = X + Y := by simpa using heq
    have htr := pcr_rtrim hG out i hlo.symm hoo (by omega)
    rw [heq'] at htr
    refine xctl ?_
    refine xrg ?_
    refine xctl ?_
    refine xcF ?_
    refine xctl ?_
    refine xrg ?_; (refine xca1 ?_; refine xca (htr) ?_)
    refine xrg ?_
    refine xctl ?_
    refine xrt ?_
    exact hr.symm
end Go.Proofs.YtnildflhdkdbiaaGreatDoorK.RefT
