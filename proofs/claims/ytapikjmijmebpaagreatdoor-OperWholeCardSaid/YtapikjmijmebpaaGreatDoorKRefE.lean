/-
  The document's Parse: what it computes.
-/
import Derived.Test.YtapikjmijmebpaaGreatDoorKIrRef
import Derived.Test.YtapikjmijmebpaaGreatDoorKRa
import Derived.Test.YtapikjmijmebpaaGreatDoorKParseN
set_option linter.all false
set_option linter.unusedVariables false
set_option linter.unusedSimpArgs false
set_option maxHeartbeats 4000000
namespace Go.Proofs.YtapikjmijmebpaaGreatDoorK.RefT
open Go.Proofs.YtapikjmijmebpaaGreatDoorK.AI Go.Proofs.YtapikjmijmebpaaGreatDoorK.NatIr Go.Proofs.YtapikjmijmebpaaGreatDoorK.Dig Go.Proofs.YtapikjmijmebpaaGreatDoorK.NatT
set_option linter.unusedSimpArgs false
attribute [local irreducible] awp awpOps
attribute [local go_sem] getO putE_same putE_ne putE_none un0_at ini_zero ini_one ini_two ini_three ne_eq not_false_eq_true Nat.zero_ne_one Nat.one_ne_zero zero_ne_succ succ_ne_zero sym_nil sym_cons symG_call symG_op symG_skip IOp.isCall gd st_mv st_pick st_new st_box st_build st_lit st_load st_store st_faddr st_fld st_iaddrS st_iaddrA st_idxs st_bin st_beq st_neg st_not st_conv st_slcS st_slcL st_make st_app st_lenS st_lenL st_mx st_mn st_ext st_nilck st_bstr byD pureC loadC setH hv boundO D.cells D.one D.boxable fillD putD rowD binC intBinC decT decF dec_true dec_false bne_self_eq_false beq_self_eq_true beq_true_false beq_false_true bne_iff_ne List.length_nil List.length_cons List.getD_cons_zero List.getD_cons_succ List.set_cons_zero List.set_cons_succ List.all_cons List.all_nil Bool.and_true Bool.true_and Nat.lt_irrefl Nat.sub_self Nat.zero_add Nat.add_zero Nat.mul_one Nat.lt_add_one if_true if_false List.replicate_zero List.nil_append List.cons_append List.append_nil List.map_cons List.map_nil Bool.false_eq_true or_self or_true true_or or_false false_or true_and and_true and_self Int.ofNat_zero wrap_i64 wrap_u32 wrap_u64 wrap_u8 wrap_u32_mod wrap_u64_mod Nat.zero_lt_one Int.toNat_natCast Int.sub_zero toNat_pred List.take_succ_cons List.take_zero List.drop_succ_cons List.drop_zero List.take_nil List.drop_nil Nat.le_refl List.length_singleton rvDs rvD ldD one? Option.bind_some Option.map_some resD_int resD_bool resD_str resD_sl resD_rp resD_nils resD_null resD_agg resD_tup resD_own rdOwn resD_ptr rdPtr rd_ite resL_eq go_nil go_cons D.imm resArgs shr32 shl32 Nat.zero_mul Bool.and_self Bool.and_false Bool.false_and strBin_eql strBin_neq Bool.not_true Bool.not_false i64max List.length_reverse List.length_set SS_length SS_getD SS_set SS_take SS_drop SS_imm SS_one SS_app1 W_get1 W_len1 W_getD W_set W_take W_drop W_app W_length W_imm W_one W_repl N mx_nat toNat_succ toNat_add toNat_pred2 tdiv_nn tmod_nn List.take_of_length_le cast_succ and_one or_shl32 min64 shr32b shl32b IntKind.bits
attribute [local go_sem] V_getD V_set V_take V_drop V_imm V_one V_app V_app1 V_repl V_get1 V_length M List.length_append
variable {G : World → Prop}
theorem bt_get (s : ByteArray) (i : Nat) : bt s i = ((s.data.toList.getD i 0).toNat : Int) := by
  simp [bt]
theorem bt_lt (s : ByteArray) (i : Nat) : 0 ≤ bt s i ∧ bt s i ≤ 255 := by
  rw [bt_get]
  have := (s.data.toList.getD i 0).toNat_lt
  omega
theorem allD_at {s : ByteArray} (h : allD s = true) {i : Nat} (hi : i < s.size) : 48 ≤ bt s i ∧ bt s i ≤ 57 := by
  have h1 : s.data.toList.getD i 0 ∈ s.data.toList := by
    rw [List.getD_eq_getElem?_getD, List.getElem?_eq_getElem (by rw [ba_len]; exact hi)]
    exact List.getElem_mem _
  have h2 := of_decide_eq_true (allD_iff.1 h _ h1)
  rw [bt_get]
  omega
theorem allD_of {s : ByteArray} (h : ∀ i, i < s.size → 48 ≤ bt s i ∧ bt s i ≤ 57) : allD s = true := by
  refine allD_iff.2 fun c hc => ?_
  obtain ⟨i, hi, rfl⟩ := List.getElem_of_mem hc
  have h1 := h i (by rw [ba_len] at hi; exact hi)
  rw [bt_get, List.getD_eq_getElem?_getD, List.getElem?_eq_getElem hi] at h1
  refine decide_eq_true ?_
  simp only [Option.getD_some] at h1
  omega
/-- The digits from a to b, told. -/
def chunk (l : List UInt8) (a b : Nat) : Nat := decV ((l.take b).drop a)
theorem chunk_self (l : List UInt8) (a : Nat) : chunk l a a = 0 := by
  rw [chunk, List.drop_eq_nil_of_le (by simp; omega)]; rfl
theorem chunk_next {l : List UInt8} {a b : Nat} (hab : a ≤ b) (hb : b < l.length) : chunk l a (b + 1) = 10 * chunk l a b + ((l.getD b 0).toNat - 48) := by
  have h1 : l.take (b + 1) = l.take b ++ [l.getD b 0] := by
    rw [List.take_succ, List.getElem?_eq_getElem hb, List.getD_eq_getElem?_getD, List.getElem?_eq_getElem hb]; rfl
  rw [chunk, h1, List.drop_append_of_le_length (by simp; omega), decV_app, List.length_singleton, Nat.pow_one, Nat.mul_comm, ← chunk]
  congr 1
  simp [decV]
theorem chunk_lt {l : List UInt8} (h : ∀ c ∈ l, isD c = true) (a b : Nat) : chunk l a b < 10 ^ (b - a) := by
  have h1 := decV_lt ((l.take b).drop a) (fun c hc => h c (List.mem_of_mem_take (List.mem_of_mem_drop hc)))
  refine Nat.lt_of_lt_of_le h1 (Nat.pow_le_pow_right (by omega) ?_)
  simp only [List.length_drop, List.length_take]
  omega
theorem chunk_drop {l : List UInt8} {a b : Nat} (hab : a ≤ b) (hb : b ≤ l.length) : decV (l.drop a) = chunk l a b * 10 ^ (l.length - b) + decV (l.drop b) := by
  have h1 : l.drop a = (l.take b).drop a ++ l.drop b := by
    rw [← List.drop_append_of_le_length (by simp; omega), List.take_append_drop]
  rw [h1, decV_app, List.length_drop]; rfl
theorem pow4 (c : Nat) : 10 ^ (4 * c) = 10000 ^ c := by rw [Nat.pow_mul]
set_option maxHeartbeats 2000000 in
theorem pcr_rparse (hG : Stable G) (s : ByteArray) (hs : s.size < 300000) (hd : allD s = true) :
    PCr Tryz.prog G 121 [.str s] (.tup [M (decV s.data.toList), .bool (decide (s.size ≠ 0))]) := by
  have hall := allD_iff.1 hd
  have hlen := ba_len s
  have hne : (s = (⟨#[]⟩ : ByteArray)) = (s.size = 0) := propext ⟨fun e => by rw [e]; rfl, ba_nil⟩
  refine pcr_by hG (fn := Tryz.f121) (n := 58) (rv := [.tmp 2, .tmp 3]) (by kernel_rfl) ok121 (by kernel_rfl) (by decide) (by kernel_rfl) (by simp) (by kernel_rfl) (fun r hr => ?_); unfold c121 st0
  refine xctl ?_
  refine xrg ?_
  refine xctl ?_
  refine xrg ?_
  refine xctl1 ?_
  refine awp_seq_mid (fun σ => σ = ⟨(putE (putE un0 (some 0) (.str s)) (some 4) (.nils)), []⟩) ?_ ?_
  · rintro σ rfl
    refine xctl ?_
    refine xrg ?_
    refine xctl ?_
    refine awp_loop (fun k σ => ∃ (c ver : Nat) (a : List Int), k = s.size - 4 * c ∧ 4 * c < s.size + 4 ∧ a.length = c ∧ ok 10000 a ∧ vl 10000 a = decV (s.data.toList.drop (s.size - 4 * c)) ∧
        σ = ⟨(putE (putE (putE un0 (some 0) (.str s)) (some 4) (.own 0 ver 0 c)) (some 6) (.int .i64 ((s.size : Int) - 4 * c))), [some (ver, 3, 1, V a)]⟩) s.size
      ((Ent.nils (s := 4) 3 1 (by simp only [go_sem, Nat.reduceEqDiff, Nat.reduceAdd, Nat.reduceLT, Nat.reduceMul, Nat.reduceLeDiff, reduceCtorEq, Int.reduceNeg, Int.reduceToNat])).trans (by simp) (Ent.env (less_put (less_put (less_put (less_un0 _) ?_) ?_) ?_))) ⟨0, 0, [], by omega, by omega, rfl, ok_nil _, by rw [Nat.mul_zero, Nat.sub_zero, ← hlen, List.drop_length]; rfl, rfl⟩ ?_
    iterate 2 (· exact xlq)
    · simp only [go_sem, Nat.reduceEqDiff, Nat.reduceAdd, Nat.reduceLT, Nat.reduceMul, Nat.reduceLeDiff, reduceCtorEq, Int.reduceNeg, Int.reduceToNat]
      exact congrArg (D.int .i64) (by omega)
    rintro k σ1 ⟨c, ver, a, rfl, hc, hal, hao, hav, rfl⟩
    refine xctl ?_
    refine xrg ?_
    refine xctl ?_
    refine xcs (fun hb => ?_) (fun hb => ?_)
    · have hb' := of_decide_eq_true hb
      obtain ⟨e, he⟩ : ∃ e : Nat, e + 4 * c = s.size := ⟨s.size - 4 * c, by omega⟩
      have he' : (s.size : Int) - 4 * c = e := by omega
      have heN : s.size - 4 * c = e := by omega
      rw [heN] at hav
      rw [he']
      refine xctl ?_
      refine xrg ?_
      refine xctl ?_
      refine xrg ?_
      refine xctl1 ?_
      refine awp_seq_mid (fun σ => σ = ⟨(putE (putE (putE (putE (putE un0 (some 0) (.str s)) (some 4) (.own 0 ver 0 c)) (some 6) (.int .i64 e)) (some 7) (.int .i64 0)) (some 8) (.int .i64 ((e - 4 : Nat) : Int))), [some (ver, 3, 1, V a)]⟩) ?_ ?_
      · rintro σ rfl
        refine awp_seq_mid (fun σ => σ = ⟨(putE (putE (putE (putE un0 (some 0) (.str s)) (some 4) (.own 0 ver 0 c)) (some 6) (.int .i64 e)) (some 7) (.int .i64 (chunk s.data.toList (e - 4) e))), [some (ver, 3, 1, V a)]⟩) ?_ ?_
        · rintro σ rfl
          have hck := chunk_lt hall (e - 4) e
          have hck4 : 10 ^ (e - (e - 4)) ≤ 10 ^ 4 := Nat.pow_le_pow_right (by omega) (by omega)
          have hcd := chunk_drop (l := s.data.toList) (a := e - 4) (b := e) (by omega) (by omega)
          rw [hlen, show s.size - e = 4 * c by omega, pow4, ← hav] at hcd
          refine xctl ?_
          refine xrg ?_
          refine xctl ?_
          refine xrg ?_
          refine xctl ?_
          refine ⟨e - 4, _, by omega, (Ent.cutk 1 (less_put (less_put (less_put (less_un0 _) ?_) ?_) ?_) (by exact ⟨.inr rfl, trivial⟩) (kb_put (kb_put (kb_put (kb_un0 _) (by simp [kb])) (by simp [kb])) (by simp [kb])) (by simp [kbH, kb.kbs, kb, kbs_W, kbs_SS, kbs_V])), c + 1, ver + 1, a ++ [((chunk s.data.toList (e - 4) e : Nat) : Int)], by omega, by omega, by simp; omega, ok_append.2 ⟨hao, fun x hx => by simp at hx; omega⟩, ?_, rfl⟩
          iterate 2 (· exact xlq)
          · simp only [go_sem, Nat.reduceEqDiff, Nat.reduceAdd, Nat.reduceLT, Nat.reduceMul, Nat.reduceLeDiff, reduceCtorEq, Int.reduceNeg, Int.reduceToNat]
            exact congrArg (D.int .i64) (by omega)
          · rw [show s.size - 4 * (c + 1) = e - 4 by omega, hcd, vl_append, hal, vl_cons, vl_nil, Int.toNat_natCast, Nat.mul_zero, Nat.add_zero, Nat.mul_comm, Nat.add_comm]
        · refine xctl ?_
          refine xrg ?_
          refine xctl ?_
          refine awp_loop (fun k σ => ∃ i : Nat, e - 4 ≤ i ∧ i ≤ e ∧ k = e - i ∧ σ = ⟨(putE (putE (putE (putE (putE un0 (some 0) (.str s)) (some 4) (.own 0 ver 0 c)) (some 6) (.int .i64 e)) (some 7) (.int .i64 (chunk s.data.toList (e - 4) i))) (some 9) (.int .i64 i)), [some (ver, 3, 1, V a)]⟩) (e - (e - 4))
            (Ent.env (less_put (less_put (less_put (less_put (less_put (less_un0 _) ?_) ?_) ?_) ?_) ?_)) ⟨e - 4, Nat.le_refl _, by omega, by omega, rfl⟩ ?_
          iterate 3 (· exact xlq)
          · simp only [go_sem, Nat.reduceEqDiff, Nat.reduceAdd, Nat.reduceLT, Nat.reduceMul, Nat.reduceLeDiff, reduceCtorEq, Int.reduceNeg, Int.reduceToNat]
            rw [chunk_self]; rfl
          iterate 1 (· exact xlq)
          rintro k σ1 ⟨i, hi1, hi2, rfl, rfl⟩
          have hck := chunk_lt hall (e - 4) i
          refine xctl ?_
          refine xrg ?_
          refine xctl ?_
          refine xcs (fun hb => ?_) (fun hb => ?_)
          · have hb2 := of_decide_eq_true hb
            have hck4 : 10 ^ (i - (e - 4)) ≤ 10 ^ 3 := Nat.pow_le_pow_right (by omega) (by omega)
            have hbt := allD_at hd (i := i) (by omega)
            have hcn := chunk_next (l := s.data.toList) (a := e - 4) (b := i) hi1 (by omega)
            rw [← Int.natCast_inj] at hcn
            have hbg := bt_get s i
            have hcn' : ((chunk s.data.toList (e - 4) (i + 1) : Nat) : Int) = 10 * (chunk s.data.toList (e - 4) i : Int) + (bt s i - 48) := by omega
            refine xctl ?_
            refine xrg ?_
            refine xctl ?_
            refine xrg ?_
            refine xctl ?_
            refine ⟨e - (i + 1), _, by omega, Ent.env (less_put (less_put (less_put (less_put (less_put (less_un0 _) ?_) ?_) ?_) ?_) ?_), i + 1, by omega, by omega, rfl, rfl⟩
            iterate 3 (· exact xlq)
            · simp only [go_sem, Nat.reduceEqDiff, Nat.reduceAdd, Nat.reduceLT, Nat.reduceMul, Nat.reduceLeDiff, reduceCtorEq, Int.reduceNeg, Int.reduceToNat]
              rw [hcn']
            iterate 1 (· exact xlq)
          · have hb2 := of_decide_eq_false hb
            have hie : i = e := by omega
            subst hie
            refine xctl ?_
            refine ⟨_, Nat.zero_le _, Ent.env (less_put (less_put (less_put (less_put (less_un0 _) ?_) ?_) ?_) ?_), rfl⟩
            iterate 4 (· exact xlq)
      · refine xctl ?_
        refine xrg ?_
        refine xctl ?_
        refine xcs (fun hb => ?_) (fun hb => ?_)
        · have hb2 := of_decide_eq_true hb
          refine xctl ?_
          refine xrg ?_
          refine xctl ?_
          refine ⟨_, Nat.zero_le _, Ent.env (less_put (less_put (less_put (less_put (less_put (less_un0 _) ?_) ?_) ?_) ?_) ?_), rfl⟩
          iterate 4 (· exact xlq)
          · simp only [go_sem, Nat.reduceEqDiff, Nat.reduceAdd, Nat.reduceLT, Nat.reduceMul, Nat.reduceLeDiff, reduceCtorEq, Int.reduceNeg, Int.reduceToNat]
            exact congrArg (D.int .i64) (by omega)
        · have hb2 := of_decide_eq_false hb
          refine xctl ?_
          refine ⟨_, Nat.zero_le _, Ent.env (less_put (less_put (less_put (less_put (less_put (less_un0 _) ?_) ?_) ?_) ?_) ?_), rfl⟩
          iterate 4 (· exact xlq)
          · simp only [go_sem, Nat.reduceEqDiff, Nat.reduceAdd, Nat.reduceLT, Nat.reduceMul, Nat.reduceLeDiff, reduceCtorEq, Int.reduceNeg, Int.reduceToNat]
            exact congrArg (D.int .i64) (by omega)
    · have hb' := of_decide_eq_false hb
      rw [show s.size - 4 * c = 0 by omega, List.drop_zero] at hav
      have htr := pcr_rtrim hG a c hal.symm hao (by omega)
      rw [hav] at htr
      refine xctl ?_
      refine xrg ?_
      refine xctl ?_
      refine xrg ?_; (refine xca1 ?_; refine xca (htr) ?_)
      refine ops_sym (by simp (disch := omega) only [go_sem, Nat.reduceEqDiff, Nat.reduceAdd, Nat.reduceLT, Nat.reduceMul, Nat.reduceLeDiff, reduceCtorEq, Int.reduceNeg, Int.reduceToNat, hne]; rfl) (by first | with_reducible exact True.intro | omega) ?_
      refine xctl ?_
      refine xrt ?_
      rw [hr, M]
      simp
  · refine xctl ?_
    refine xrg ?_
    refine xctl ?_
    refine awp_loop (fun k σ => ∃ i : Nat, i ≤ s.size ∧ k = s.size - i ∧ σ = ⟨(putE (putE (putE un0 (some 0) (.str s)) (some 4) (.nils)) (some 5) (.int .i64 i)), []⟩) s.size
      (Ent.env (less_put (less_put (less_put (less_un0 _) ?_) ?_) ?_)) ⟨0, Nat.zero_le _, rfl, rfl⟩ ?_
    iterate 3 (· exact xlq)
    rintro k σ1 ⟨i, hi, rfl, rfl⟩
    refine xctl ?_
    refine xrg ?_
    refine xctl ?_
    refine xcs (fun hb => ?_) (fun hb => ?_)
    · have hb' := of_decide_eq_true hb
      have hbt := allD_at hd (i := i) (by omega)
      refine xctl ?_
      refine xrg ?_
      refine xctl ?_
      refine xcF ?_
      refine xctl ?_
      refine xrg ?_
      refine xctl ?_
      refine ⟨s.size - (i + 1), _, by omega, Ent.env (less_put (less_put (less_put (less_un0 _) ?_) ?_) ?_), i + 1, by omega, rfl, rfl⟩
      iterate 3 (· exact xlq)
    · have hb' := of_decide_eq_false hb
      refine xctl ?_
      refine ⟨_, Nat.zero_le _, Ent.env (less_put (less_put (less_un0 _) ?_) ?_), rfl⟩
      iterate 2 (· exact xlq)
theorem pcr_rparse_not (hG : Stable G) (s : ByteArray) (hs : s.size < 300000) (hd : allD s = false) :
    PCr Tryz.prog G 121 [.str s] (.tup [M 0, .bool false]) := by
  have hM0 : M 0 = .sl 0 [] := by rw [M, wd_zero]; rfl
  refine pcr_by hG (fn := Tryz.f121) (n := 58) (rv := [.tmp 2, .tmp 3]) (by kernel_rfl) ok121 (by kernel_rfl) (by decide) (by kernel_rfl) (by simp) (by kernel_rfl) (fun r hr => ?_); unfold c121 st0
  refine xctl ?_
  refine xrg ?_
  refine xctl ?_
  refine xrg ?_
  refine xctl ?_
  refine xrg ?_
  refine xctl ?_
  refine awp_loop (fun k σ => ∃ i : Nat, i ≤ s.size ∧ k = s.size - i ∧ (∀ j, j < i → 48 ≤ bt s j ∧ bt s j ≤ 57) ∧ σ = ⟨(putE (putE un0 (some 0) (.str s)) (some 5) (.int .i64 i)), []⟩) s.size
    (Ent.env (less_put (less_put (less_un0 _) ?_) ?_)) ⟨0, Nat.zero_le _, rfl, fun j h => absurd h (Nat.not_lt_zero _), rfl⟩ ?_
  iterate 2 (· exact xlq)
  rintro k σ1 ⟨i, hi, rfl, hdi, rfl⟩
  refine xctl ?_
  refine xrg ?_
  refine xctl ?_
  refine xcs (fun hb => ?_) (fun hb => ?_)
  · have hb' := of_decide_eq_true hb
    have hbl := bt_lt s i
    by_cases h1 : bt s i < 48
    · refine xctl ?_
      refine xrg ?_
      refine xctl ?_
      refine xct ?_
      refine xctl ?_
      refine xrg ?_
      refine xctl ?_
      refine xrt ?_
      rw [hr, hM0]
    · by_cases h2 : 57 < bt s i
      · refine xctl ?_
        refine xrg ?_
        refine xctl ?_
        refine xct ?_
        refine xctl ?_
        refine xrg ?_
        refine xctl ?_
        refine xrt ?_
        rw [hr, hM0]
      · refine xctl ?_
        refine xrg ?_
        refine xctl ?_
        refine xcF ?_
        refine xctl ?_
        refine xrg ?_
        refine xctl ?_
        refine ⟨s.size - (i + 1), _, by omega, Ent.env (less_put (less_put (less_un0 _) ?_) ?_), i + 1, by omega, rfl, fun j hj => ?_, rfl⟩
        iterate 2 (· exact xlq)
        rcases Nat.lt_or_ge j i with h | h
        · exact hdi j h
        · rw [show j = i by omega]; omega
  · have hb' := of_decide_eq_false hb
    rw [allD_of fun j hj => hdi j (by omega)] at hd
    cases hd
end Go.Proofs.YtapikjmijmebpaaGreatDoorK.RefT
