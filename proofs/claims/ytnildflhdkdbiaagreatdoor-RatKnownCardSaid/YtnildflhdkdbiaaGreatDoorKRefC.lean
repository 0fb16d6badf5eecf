/-
  The document's Mul, Words, Pow: what they compute.
-/
import Derived.Test.YtnildflhdkdbiaaGreatDoorKIrRef
import Derived.Test.YtnildflhdkdbiaaGreatDoorKRefB
set_option linter.all false
set_option linter.unusedVariables false
set_option linter.unusedSimpArgs false
set_option maxHeartbeats 4000000
namespace Go.Proofs.YtnildflhdkdbiaaGreatDoorK.RefT
open Go.Proofs.YtnildflhdkdbiaaGreatDoorK.AI Go.Proofs.YtnildflhdkdbiaaGreatDoorK.NatIr Go.Proofs.YtnildflhdkdbiaaGreatDoorK.Dig Go.Proofs.YtnildflhdkdbiaaGreatDoorK.NatT
set_option linter.unusedSimpArgs false
attribute [local irreducible] awp awpOps
attribute [local go_sem] getO putE_same putE_ne putE_none un0_at ini_zero ini_one ini_two ini_three ne_eq not_false_eq_true Nat.zero_ne_one Nat.one_ne_zero zero_ne_succ succ_ne_zero sym_nil sym_cons symG_call symG_op symG_skip IOp.isCall gd st_mv st_pick st_new st_box st_build st_lit st_load st_store st_faddr st_fld st_iaddrS st_iaddrA st_idxs st_bin st_beq st_neg st_not st_conv st_slcS st_slcL st_make st_app st_lenS st_lenL st_mx st_mn st_ext st_nilck pureC loadC setH hv boundO D.cells D.one D.boxable fillD putD rowD binC intBinC decT decF dec_true dec_false bne_self_eq_false beq_self_eq_true beq_true_false beq_false_true bne_iff_ne List.length_nil List.length_cons List.getD_cons_zero List.getD_cons_succ List.set_cons_zero List.set_cons_succ List.all_cons List.all_nil Bool.and_true Bool.true_and Nat.lt_irrefl Nat.sub_self Nat.zero_add Nat.add_zero Nat.mul_one Nat.lt_add_one if_true if_false List.replicate_zero List.nil_append List.cons_append List.append_nil List.map_cons List.map_nil Bool.false_eq_true or_self or_true true_or or_false false_or true_and and_true and_self Int.ofNat_zero wrap_i64 wrap_u32 wrap_u64 wrap_u8 wrap_u32_mod wrap_u64_mod Nat.zero_lt_one Int.toNat_natCast Int.sub_zero toNat_pred List.take_succ_cons List.take_zero List.drop_succ_cons List.drop_zero List.take_nil List.drop_nil Nat.le_refl List.length_singleton rvDs rvD ldD one? Option.bind_some Option.map_some resD_int resD_bool resD_str resD_sl resD_rp resD_nils resD_null resD_agg resD_tup resD_own rdOwn resD_ptr rdPtr rd_ite resL_eq go_nil go_cons D.imm resArgs shr32 shl32 Nat.zero_mul Bool.and_self Bool.and_false Bool.false_and strBin_eql strBin_neq Bool.not_true Bool.not_false i64max List.length_reverse List.length_set SS_length SS_getD SS_set SS_take SS_drop SS_imm SS_one SS_app1 W_get1 W_len1 W_getD W_set W_take W_drop W_app W_length W_imm W_one W_repl N mx_nat toNat_succ toNat_add toNat_pred2 tdiv_nn tmod_nn List.take_of_length_le cast_succ and_one or_shl32 min64 shr32b shl32b IntKind.bits
attribute [local go_sem] V_getD V_set V_take V_drop V_imm V_one V_app V_app1 V_repl V_get1 V_length M List.length_append
variable {G : World → Prop}
theorem zt_mono {l : List Int} {n m : Nat} (h : zt l n) (hnm : n ≤ m) : zt l m := fun j hj => h j (by omega)
set_option maxHeartbeats 1000000 in
theorem pcr_rmul (hG : Stable G) (X Y : Nat) (hX : (wd 10000 X).length < 100000) (hY : (wd 10000 Y).length < 100000) :
    PCr Tryz.prog G 25 [M X, M Y] (M (X * Y)) := by
  have ha := ok_wd (B := 10000) (by omega) X
  have hb := ok_wd (B := 10000) (by omega) Y
  have hva := vl_wd (B := 10000) (by omega) X
  have hvb := vl_wd (B := 10000) (by omega) Y
  rw [M, M]
  generalize wd 10000 X = a at *
  generalize wd 10000 Y = b at *
  refine pcr_by hG (fn := Tryz.f25) (n := 61) (rv := [.tmp 4]) (by kernel_rfl) ok25 (by kernel_rfl) (by decide) (by kernel_rfl) (by simp) (by kernel_rfl) (fun r hr => ?_); unfold c25 st0
  refine xctl ?_
  refine xrg ?_
  refine xctl ?_
  refine xrg ?_
  refine xctl ?_
  refine xrg ?_
  refine xctl ?_
  refine awp_loop (fun k σ => ∃ (i : Nat) (out : List Int), i ≤ a.length ∧ k = a.length - i ∧ out.length = a.length + b.length + 1 ∧ ok 10000 out ∧ zt out (i + b.length) ∧ vl 10000 out = vl 10000 (a.take i) * vl 10000 b ∧
      σ = ⟨(putE (putE (putE (putE un0 (some 0) (.sl a.length (V a))) (some 1) (.sl b.length (V b))) (some 5) (.own 0 0 0 (a.length + b.length + 1))) (some 6) (.int .i64 i)), [some (0, 3, 1, V out)]⟩) a.length
    (Ent.env (less_put (less_put (less_put (less_put (less_un0 _) ?_) ?_) ?_) ?_)) ⟨0, List.replicate (a.length + b.length + 1) 0, by omega, rfl, by simp, ok_replicate (by omega) _, zt_replicate _ _, by simp [vl, vl_replicate], rfl⟩ ?_
  iterate 2 (· exact xlq)
  · simp only [go_sem, Nat.reduceEqDiff, Nat.reduceAdd, Nat.reduceLT, Nat.reduceMul, Nat.reduceLeDiff, reduceCtorEq, Int.reduceNeg, Int.reduceToNat]
    rfl
  iterate 1 (· exact xlq)
  rintro k σ1 ⟨i, out, hi, rfl, hlo, hoo, hz, heq, rfl⟩
  refine xctl ?_
  refine xrg ?_
  refine xctl ?_
  refine xcs (fun hb => ?_) (fun hb => ?_)
  · have hb' := of_decide_eq_true hb
    have ga := ok_get ha (by omega) i
    refine xctl ?_
    refine xrg ?_
    refine xctl ?_
    refine xrg ?_
    refine xctl ?_
    refine awp_loop (fun k σ => ∃ (j : Nat) (out' : List Int) (c : Int), j ≤ b.length + 1 ∧ k = b.length + 1 - j ∧ out'.length = a.length + b.length + 1 ∧ ok 10000 out' ∧ zt out' (i + max b.length j) ∧ 0 ≤ c ∧ c < 10000 ∧ (j = b.length + 1 → c = 0) ∧
          vl 10000 out' + 10000 ^ (i + j) * c.toNat = vl 10000 out + 10000 ^ i * ((a.getD i 0).toNat * vl 10000 (b.take j)) ∧
        σ = ⟨(putE (putE (putE (putE (putE (putE un0 (some 0) (.sl a.length (V a))) (some 1) (.sl b.length (V b))) (some 5) (.own 0 0 0 (a.length + b.length + 1))) (some 6) (.int .i64 i)) (some 7) (.int .i64 c)) (some 8) (.int .i64 j)), [some (0, 3, 1, V out')]⟩) (b.length + 1)
      (Ent.env (less_put (less_put (less_put (less_put (less_put (less_put (less_un0 _) ?_) ?_) ?_) ?_) ?_) ?_)) ⟨0, out, 0, by omega, rfl, hlo, hoo, by rw [Nat.max_eq_left (by omega)]; exact hz, by omega, by omega, fun _ => rfl, by simp [vl], rfl⟩ ?_
    iterate 6 (· exact xlq)
    rintro k σ1 ⟨j, out', c, hj, rfl, hlo', hoo', hz', hc0, hc1, hce, heq', rfl⟩
    by_cases hgo : j < b.length ∨ (¬ j < b.length ∧ 0 < c)
    · have hj1 : j ≤ b.length := by omega
      have gb := ok_get (by assumption : ok 10000 b) (by omega) j
      have go := ok_get hoo' (by omega) (i + j)
      have hrb := pcr_rat hG b b.length (j : Int) rfl (by assumption) (by omega) (by omega)
      rw [Int.toNat_natCast] at hrb
      have hxy := mul_bound (x := a.getD i 0) (y := b.getD j 0) (n := 9999) (by omega) (by omega)
      have hset := vl_setw 10000 out' (i + j) ((out'.getD (i + j) 0 + a.getD i 0 * b.getD j 0 + c) % 10000) (by omega)
      have en : (out'.getD (i + j) 0 + a.getD i 0 * b.getD j 0 + c).toNat = c.toNat + ((a.getD i 0).toNat * (b.getD j 0).toNat + (out'.getD (i + j) 0).toNat) := by
        rw [Int.toNat_add (by omega) (by omega), Int.toNat_add (by omega) (by omega), Int.toNat_mul (by omega) (by omega)]
        omega
      have emod : ((out'.getD (i + j) 0 + a.getD i 0 * b.getD j 0 + c) % 10000).toNat = (c.toNat + ((a.getD i 0).toNat * (b.getD j 0).toNat + (out'.getD (i + j) 0).toNat)) % 10000 := by omega
      have ediv : ((out'.getD (i + j) 0 + a.getD i 0 * b.getD j 0 + c) / 10000).toNat = (c.toNat + ((a.getD i 0).toNat * (b.getD j 0).toNat + (out'.getD (i + j) 0).toNat)) / 10000 := by omega
      have hst := mul_step (B := 10000) (O' := vl 10000 (out'.set (i + j) ((out'.getD (i + j) 0 + a.getD i 0 * b.getD j 0 + c) % 10000))) (y := (b.getD j 0).toNat) (o := (out'.getD (i + j) 0).toNat) heq' (by rw [hset, emod])
      have hlast : j = b.length → a.getD i 0 * b.getD j 0 = 0 ∧ out'.getD (i + j) 0 = 0 := fun h => by
        subst h
        rw [getD_out (Nat.le_refl _), Int.mul_zero]
        exact ⟨rfl, hz' _ (by omega)⟩
      have hz2 : zt (out'.set (i + j) ((out'.getD (i + j) 0 + a.getD i 0 * b.getD j 0 + c) % 10000)) (i + max b.length (j + 1)) := by
        rcases Nat.lt_or_ge j b.length with h | h
        · rw [Nat.max_eq_left (by omega)] at hz' ⊢
          exact zt_set hz' (by omega) _
        · have hjb : j = b.length := by omega
          rw [Nat.max_eq_right (by omega)] at hz' ⊢
          exact zt_next hz' _
      generalize hP : a.getD i 0 * b.getD j 0 = P at *
      rcases hgo with hgo | hgo <;>
      ( refine xctl ?_
        refine xrg ?_
        refine xctl ?_
        refine xct ?_
        refine xctl ?_
        refine xrg ?_; (refine xcf1 ?_; refine xcf (hrb) rfl ?_)
        refine ops_sym (by simp (disch := omega) only [go_sem, Nat.reduceEqDiff, Nat.reduceAdd, Nat.reduceLT, Nat.reduceMul, Nat.reduceLeDiff, reduceCtorEq, Int.reduceNeg, Int.reduceToNat, hP]; rfl) (by first | with_reducible exact True.intro | omega) ?_
        refine xctl ?_
        refine xdr ?_
        refine xctl ?_
        refine xrg ?_
        refine xctl ?_
        refine xrg ?_
        refine xctl ?_
        refine xrg ?_
        refine xctl ?_
        refine ⟨b.length + 1 - (j + 1), _, by omega, Ent.env (less_put (less_put (less_put (less_put (less_put (less_put (less_un0 _) ?_) ?_) ?_) ?_) ?_) ?_), j + 1, out'.set (i + j) ((out'.getD (i + j) 0 + P + c) % 10000), (out'.getD (i + j) 0 + P + c) / 10000, by omega, rfl, by simp [hlo'], ok_set hoo' _ (by omega), hz2, by omega, by omega, by intro h; have := hlast (by omega); omega, ?_, rfl⟩
        iterate 6 (· exact xlq)
        rw [ediv, vl_take_next _ b]
        exact hst )
    · have h1 : ¬ j < b.length := fun h => hgo (.inl h)
      have h3 : ¬ 0 < c := fun h => hgo (.inr ⟨h1, h⟩)
      have hc : c = 0 := by omega
      subst hc
      rw [List.take_of_length_le (by omega)] at heq'
      have heq2 : vl 10000 out' = vl 10000 out + 10000 ^ i * ((a.getD i 0).toNat * vl 10000 b) := by simpa using heq'
      refine xctl ?_
      refine xrg ?_
      refine xctl ?_
      refine xcF ?_
      refine xctl ?_
      refine xrg ?_
      refine xctl ?_
      refine ⟨a.length - (i + 1), _, by omega, Ent.env (less_put (less_put (less_put (less_put (less_un0 _) ?_) ?_) ?_) ?_), i + 1, out', by omega, rfl, hlo', hoo', zt_mono hz' (by omega), ?_, rfl⟩
      iterate 4 (· exact xlq)
      rw [heq2, heq, vl_take_next, Nat.add_mul, Nat.mul_assoc]
  · have hb' := of_decide_eq_false hb
    have hi2 : i = a.length := by omega
    subst hi2
    rw [List.take_length, hva, hvb] at heq
    have htr := pcr_rtrim hG out _ hlo.symm hoo (by omega)
    rw [heq] at htr
    refine xctl ?_
    refine xrg ?_
    refine xctl ?_
    refine xrg ?_; (refine xca1 ?_; refine xca (htr) ?_)
    refine xrg ?_
    refine xctl ?_
    refine xrt ?_
    exact hr.symm
end Go.Proofs.YtnildflhdkdbiaaGreatDoorK.RefT
