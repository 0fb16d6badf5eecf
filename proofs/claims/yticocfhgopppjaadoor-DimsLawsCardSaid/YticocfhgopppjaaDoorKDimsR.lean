/-
  The document's exponents: GoodV, AddV: what they compute.
-/
import Derived.Test.YticocfhgopppjaaDoorKIrCubitref6
import Derived.Test.YticocfhgopppjaaDoorKDimsB
set_option linter.all false
set_option linter.unusedVariables false
set_option linter.unusedSimpArgs false
set_option maxHeartbeats 4000000
namespace Go.Proofs.YticocfhgopppjaaDoorK.DimsT
open Go.Proofs.YticocfhgopppjaaDoorK.AI Go.Proofs.YticocfhgopppjaaDoorK.NatIr
set_option linter.unusedSimpArgs false
attribute [local irreducible] awp awpOps
attribute [local go_sem] getO putE_same putE_ne putE_none un0_at ini_zero ini_one ini_two ini_three ne_eq not_false_eq_true Nat.zero_ne_one Nat.one_ne_zero zero_ne_succ succ_ne_zero sym_nil sym_cons symG_call symG_op symG_skip IOp.isCall gd st_mv st_pick st_new st_box st_build st_lit st_load st_store st_faddr st_fld st_iaddrS st_iaddrA st_idxs st_bin st_beq st_neg st_not st_conv st_slcS st_slcL st_make st_app st_lenS st_lenL st_capL st_seq eqAt eq1 st_mx st_mn st_ext st_nilck st_bstr st_idxA st_slcA st_aeq st_isnil nilD st_mkmap st_look st_mput st_mkfn foundD byD pureC loadC setH hv boundO D.cells D.one D.boxable fillD putD rowD binC intBinC decT decF dec_true dec_false bne_self_eq_false beq_self_eq_true beq_true_false beq_false_true bne_iff_ne List.length_nil List.length_cons List.getD_cons_zero List.getD_cons_succ List.set_cons_zero List.set_cons_succ List.all_cons List.all_nil Bool.and_true Bool.true_and Nat.lt_irrefl Nat.sub_self Nat.zero_add Nat.add_zero Nat.mul_one Nat.lt_add_one if_true if_false List.replicate_zero List.nil_append List.cons_append List.append_nil List.map_cons List.map_nil Bool.false_eq_true or_self or_true true_or or_false false_or true_and and_true and_self Int.ofNat_zero wrap_i64 wrap_u32 wrap_u64 wrap_u8 wrap_u32_mod wrap_u64_mod Nat.zero_lt_one Int.toNat_natCast Int.sub_zero toNat_pred List.take_succ_cons List.take_zero List.drop_succ_cons List.drop_zero List.take_nil List.drop_nil Nat.le_refl List.length_singleton rvDs rvD ldD one? Option.bind_some Option.map_some resD_int resD_bool resD_str resD_sl resD_rp resD_nils resD_null resD_agg resD_tup resD_own rdOwn resD_nilm resD_mf resD_fn resD_mo rdMo resD_ptr rdPtr rd_ite resL_eq go_nil go_cons D.imm resArgs shr32 shl32 Nat.zero_mul Bool.and_self Bool.and_false Bool.false_and strBin_eql strBin_neq Bool.not_true Bool.not_false i64max List.length_reverse List.length_set SS_length SS_getD SS_set SS_take SS_drop SS_imm SS_one SS_app1 W_get1 W_len1 W_getD W_set W_take W_drop W_app W_length W_imm W_one W_repl N mx_nat toNat_succ toNat_add toNat_pred2 tdiv_nn tmod_nn List.take_of_length_le cast_succ and_one or_shl32 min64 shr32b shl32b IntKind.bits
attribute [local go_sem] not_true_eq_false not_false_eq_true
variable {G : World → Prop} {l : List Int} {n : Int}
set_option maxHeartbeats 4000000 in
theorem pcr_goodv (hG : Stable G) (hl : l.length = 8) : PCr Tryd.prog G 24 [.agg (I l)] (.bool (goodD l)) := by
  have h1 : (I l).length = 8 := by rw [I_len, hl]
  refine pcr_byq ok24 hG (n := 18) (rv := [.tmp 2]) fun r hr => ?_; unfold c24 st0
  (have we1 := h1; refine xwalk1 ?_)
  refine awp_loop (fun m σ => ∃ (i : Nat), i ≤ 8 ∧ m = 8 - i ∧ (∀ j, j < i → inD (l.getD j 0) = true) ∧
      σ = ⟨(putE (putE un0 (some 1) (.ptr 0 0 0)) (some 3) (.int .i64 (i : Int))), [some (0, 37, 8, I l)]⟩) 8
      (σ1 := ⟨(putE (putE un0 (some 1) (.ptr 0 0 0)) (some 3) (.int .i64 ((0 : Nat) : Int))), [some (0, 37, 8, I l)]⟩) (Ent.env (less_put (less_put (less_un0 _) ?_) ?_)) ⟨0, Nat.zero_le _, rfl, fun j hj => absurd hj (Nat.not_lt_zero _), rfl⟩ ?_
  iterate 1 (· exact xlq)
  · show _ = D.int .i64 ((0 : Nat) : Int)
    exact xlq
  rintro m σ1 ⟨i, hi, rfl, hok, rfl⟩
  by_cases hlt : i < 8
  · have e1 := I_getD (l := l) (i := i) (by omega)
    have bad : inD (l.getD i 0) = false → goodD l = false := fun h => all_not (by omega) h
    by_cases c1 : l.getD i 0 < -100
    · rw [bad (by unfold inD; rw [decide_eq_false (by omega : ¬ -100 ≤ l.getD i 0)]; rfl)] at hr
      (have we1 := h1; have we2 := e1; exact xwalkd2)
    by_cases c2 : 100 < l.getD i 0
    · rw [bad (by unfold inD; rw [decide_eq_false (by omega : ¬ l.getD i 0 ≤ 100), Bool.and_false])] at hr
      (have we1 := h1; have we2 := e1; exact xwalkd2)
    (have we1 := h1; have we2 := e1; refine xwalk2 ?_)
    refine ⟨8 - (i + 1), _, by omega, Ent.env (less_put (less_put (less_un0 _) ?_) ?_), i + 1, by omega, rfl, fun j hj => ?_, rfl⟩
    iterate 1 (· exact xlq)
    · simp only [go_sem, Nat.reduceEqDiff, Nat.reduceAdd, Nat.reduceLT, Nat.reduceMul, Nat.reduceLeDiff, reduceCtorEq, Int.reduceNeg, Int.reduceToNat]
    · rcases Nat.lt_succ_iff_lt_or_eq.1 hj with h | rfl
      · exact hok j h
      · exact inD_iff.2 ⟨by omega, by omega⟩
  · obtain rfl : i = 8 := by omega
    have hall : goodD l = true := all_yes (fun j hj => hok j (by omega))
    rw [hall] at hr
    (exact xwalkd)
def upTo (f : Nat → Int) (i : Nat) : List Int := (List.range 8).map fun j => if j < i then f j else 0
theorem upTo_len {f : Nat → Int} {i : Nat} : (upTo f i).length = 8 := by simp [upTo]
theorem upTo_set {f : Nat → Int} {i : Nat} (h : i < 8) : (upTo f i).set i (f i) = upTo f (i + 1) := by
  unfold upTo
  refine List.ext_getElem? fun j => ?_
  rw [List.getElem?_set]
  by_cases hj : j < 8
  · by_cases hij : i = j
    · subst hij
      simp [h]
    · rw [if_neg hij]
      simp only [List.getElem?_map, List.getElem?_range hj, Option.map_some]
      by_cases h1 : j < i
      · rw [if_pos h1, if_pos (by omega)]
      · rw [if_neg h1, if_neg (by omega)]
  · rw [List.getElem?_eq_none (l := (List.range 8).map _) (by simp; omega), List.getElem?_eq_none (by simp; omega)]
    simp
    omega
theorem upTo_add {a b : List Int} (ha : a.length = 8) : upTo (fun j => a.getD j 0 + b.getD j 0) 8 = addD a b := by
  unfold upTo addD
  rw [ha]
  refine List.map_congr_left fun j hj => ?_
  rw [if_pos (List.mem_range.1 hj)]
set_option maxHeartbeats 8000000 in
theorem pcr_addv (hG : Stable G) {a b : List Int} (ha : a.length = 8) (hb : b.length = 8) : PCr Tryd.prog G 13 [.agg (I a), .agg (I b)] (mV (goodD a && goodD b && goodD (addD a b)) (addD a b)) := by
  have h1 : (I a).length = 8 := by rw [I_len, ha]
  have h2 : (I b).length = 8 := by rw [I_len, hb]
  have t1 : (I a).take 8 = I a := List.take_of_length_le (by omega)
  have t2 : (I b).take 8 = I b := List.take_of_length_le (by omega)
  have ga := pcr_goodv hG ha
  have gb := pcr_goodv hG hb
  have hs8 : (addD a b).length = 8 := by simp [addD, ha]
  have gs := pcr_goodv hG hs8
  have h3 : (I (addD a b)).length = 8 := by rw [I_len, hs8]
  have t3 : (I (addD a b)).take 8 = I (addD a b) := List.take_of_length_le (by omega)
  have one3 := I_one (l := addD a b)
  have m1 := I_imm (l := a)
  have m2 := I_imm (l := b)
  have m3 := I_imm (l := addD a b)
  have put3 : putD [.int .i64 0, .int .i64 0, .int .i64 0, .int .i64 0, .int .i64 0, .int .i64 0, .int .i64 0, .int .i64 0] 0 (I (addD a b)) = I (addD a b) := putD_I (by rw [hs8]; rfl)
  cases hga : goodD a with
  | false =>
    rw [hga] at ga
    refine pcr_byq ok13 hG (n := 35) (rv := [.cell 4 true 8, .tmp 5]) fun r hr => ?_; unfold c13 st0
    (have we1 := h1; have we2 := h2; have we3 := t1; have we4 := t2; have we5 := m1; have we6 := m2; exact xwalkd6)
  | true =>
    cases hgb : goodD b with
    | false =>
      rw [hga] at ga
      rw [hgb] at gb
      refine pcr_byq ok13 hG (n := 35) (rv := [.cell 4 true 8, .tmp 5]) fun r hr => ?_; unfold c13 st0
      (have we1 := h1; have we2 := h2; have we3 := t1; have we4 := t2; have we5 := m1; have we6 := m2; exact xwalkd6)
    | true =>
      rw [hga] at ga
      rw [hgb] at gb
      refine pcr_byq ok13 hG (n := 35) (rv := [.cell 4 true 8, .tmp 5]) fun r hr => ?_; unfold c13 st0
      (have we1 := h1; have we2 := h2; have we3 := t1; have we4 := t2; have we5 := m1; have we6 := m2; refine xwalk6 ?_)
      refine awp_loop (fun k σ => ∃ (i : Nat), i ≤ 8 ∧ k = 8 - i ∧
          σ = ⟨(putE (putE (putE (putE (putE (putE un0 (some 2) (.ptr 0 0 0)) (some 3) (.ptr 1 0 0)) (some 4) (.ptr 2 0 0)) (some 5) (.bool false)) (some 6) (.ptr 3 0 0)) (some 7) (.int .i64 (i : Int))), [some (0, 37, 8, I a), some (0, 37, 8, I b), some (0, 37, 8, I z8), some (0, 37, 8, I (upTo (fun j => a.getD j 0 + b.getD j 0) i))]⟩) 8
          (σ1 := ⟨(putE (putE (putE (putE (putE (putE un0 (some 2) (.ptr 0 0 0)) (some 3) (.ptr 1 0 0)) (some 4) (.ptr 2 0 0)) (some 5) (.bool false)) (some 6) (.ptr 3 0 0)) (some 7) (.int .i64 ((0 : Nat) : Int))), [some (0, 37, 8, I a), some (0, 37, 8, I b), some (0, 37, 8, I z8), some (0, 37, 8, I z8)]⟩) (Ent.env (less_put (less_put (less_put (less_put (less_put (less_put (less_un0 _) ?_) ?_) ?_) ?_) ?_) ?_)) ⟨0, Nat.zero_le _, rfl, rfl⟩ ?_
      iterate 5 (· exact xlq)
      · show _ = D.int .i64 ((0 : Nat) : Int)
        exact xlq
      rintro k σ1 ⟨i, hi, rfl, rfl⟩
      have hsl := upTo_len (f := fun j => a.getD j 0 + b.getD j 0) (i := i)
      have hil : (I (upTo (fun j => a.getD j 0 + b.getD j 0) i)).length = 8 := by rw [I_len, hsl]
      by_cases hlt : i < 8
      · have e1 := I_getD (l := b) (i := i) (by omega)
        have e2 := I_getD (l := a) (i := i) (by omega)
        have e3 := I_set (l := upTo (fun j => a.getD j 0 + b.getD j 0) i) (i := i) (n := a.getD i 0 + b.getD i 0)
        rw [upTo_set (f := fun j => a.getD j 0 + b.getD j 0) (by omega)] at e3
        have q1 := goodD_get (l := a) (i := i) hga
        have q2 := goodD_get (l := b) (i := i) hgb
        have e4 : IntKind.i64.wrap (a.getD i 0 + b.getD i 0) = a.getD i 0 + b.getD i 0 := wrap_i64 (by omega)
        (have we1 := h1; have we2 := h2; have we3 := hil; have we4 := e1; have we5 := e2; have we6 := e3; have we7 := e4; refine xwalk7 ?_)
        refine ⟨8 - (i + 1), _, by omega, Ent.env (less_put (less_put (less_put (less_put (less_put (less_put (less_un0 _) ?_) ?_) ?_) ?_) ?_) ?_), i + 1, by omega, rfl, rfl⟩
        iterate 5 (· exact xlq)
        · simp only [go_sem, Nat.reduceEqDiff, Nat.reduceAdd, Nat.reduceLT, Nat.reduceMul, Nat.reduceLeDiff, reduceCtorEq, Int.reduceNeg, Int.reduceToNat]
      · obtain rfl : i = 8 := by omega
        rw [upTo_add ha]
        cases hgs : goodD (addD a b) with
        | false =>
          rw [hgs] at gs hr
          (have we1 := h3; have we2 := t3; have we3 := m3; exact xwalkd3)
        | true =>
          rw [hgs] at gs hr
          (have we1 := h3; have we2 := t3; have we3 := m3; have we4 := one3; have we5 := put3; exact xwalkd5)
theorem upTo_skip {f : Nat → Int} {i : Nat} (h0 : f i = 0) : upTo f i = upTo f (i + 1) := by
  unfold upTo
  refine List.map_congr_left fun j _ => ?_
  by_cases h1 : j < i
  · rw [if_pos h1, if_pos (by omega)]
  · rw [if_neg h1]
    by_cases h2 : j < i + 1
    · rw [if_pos h2, show j = i by omega, h0]
    · rw [if_neg h2]
theorem upTo_mul {a : List Int} {k : Int} (ha : a.length = 8) : upTo (fun j => a.getD j 0 * k) 8 = mulD a k := by
  unfold upTo mulD
  rw [ha]
  refine List.map_congr_left fun j hj => ?_
  rw [if_pos (List.mem_range.1 hj)]
theorem okn_mul {a : List Int} {k : Int} (ha : a.length = 8) (h : ∀ j, j < 8 → a.getD j 0 = 0 ∨ inD k = true) : a.all (okn k) = goodD (mulD a k) := by
  rw [Bool.eq_iff_iff]
  constructor
  · intro h1
    refine all_yes fun j hj => ?_
    have hj8 : j < a.length := by simpa [mulD] using hj
    have h2 : okn k (a.getD j 0) = true := by
      have := List.all_eq_true.1 h1 _ (List.getElem_mem hj8)
      rw [List.getD_eq_getElem?_getD, List.getElem?_eq_getElem hj8]
      exact this
    have h3 : (mulD a k).getD j 0 = a.getD j 0 * k := by simp [mulD, List.getD_eq_getElem?_getD, hj8]
    rw [h3]
    unfold okn at h2
    by_cases h0 : a.getD j 0 = 0
    · rw [h0, Int.zero_mul]; rfl
    · rw [decide_eq_false h0, Bool.false_or, Bool.and_eq_true] at h2
      exact h2.2
  · intro h1
    refine all_yes fun j hj => ?_
    have h3 : (mulD a k).getD j 0 = a.getD j 0 * k := by simp [mulD, List.getD_eq_getElem?_getD, hj]
    have hl : j < (mulD a k).length := by simpa [mulD] using hj
    have h2 : inD (a.getD j 0 * k) = true := by
      have := List.all_eq_true.1 h1 _ (List.getElem_mem hl)
      rw [← h3, List.getD_eq_getElem?_getD, List.getElem?_eq_getElem hl]
      exact this
    unfold okn
    rcases h j (by omega) with h4 | h4
    · rw [h4]; rfl
    · rw [h4, h2, Bool.and_self, Bool.or_true]
set_option maxHeartbeats 8000000 in
theorem pcr_timesv (hG : Stable G) {a : List Int} (k : Int) (ha : a.length = 8) : PCr Tryd.prog G 15 [.agg (I a), .int .i64 k] (mV (goodD a && a.all (okn k)) (mulD a k)) := by
  have h1 : (I a).length = 8 := by rw [I_len, ha]
  have t1 : (I a).take 8 = I a := List.take_of_length_le (by omega)
  have ga := pcr_goodv hG ha
  have hs8 : (mulD a k).length = 8 := by simp [mulD, ha]
  have gs := pcr_goodv hG hs8
  have h3 : (I (mulD a k)).length = 8 := by rw [I_len, hs8]
  have t3 : (I (mulD a k)).take 8 = I (mulD a k) := List.take_of_length_le (by omega)
  have one3 := I_one (l := mulD a k)
  have m1 := I_imm (l := a)
  have m3 := I_imm (l := mulD a k)
  have put3 : putD [.int .i64 0, .int .i64 0, .int .i64 0, .int .i64 0, .int .i64 0, .int .i64 0, .int .i64 0, .int .i64 0] 0 (I (mulD a k)) = I (mulD a k) := putD_I (by rw [hs8]; rfl)
  cases hga : goodD a with
  | false =>
    rw [hga] at ga
    refine pcr_byq ok15 hG (n := 45) (rv := [.cell 4 true 8, .tmp 5]) fun r hr => ?_; unfold c15 st0
    (have we1 := h1; have we2 := t1; have we3 := m1; exact xwalkd3)
  | true =>
    rw [hga] at ga
    refine pcr_byq ok15 hG (n := 45) (rv := [.cell 4 true 8, .tmp 5]) fun r hr => ?_; unfold c15 st0
    (have we1 := h1; have we2 := t1; have we3 := m1; refine xwalk3 ?_)
    refine awp_loop (fun m σ => ∃ (i : Nat), i ≤ 8 ∧ m = 8 - i ∧ (∀ j, j < i → a.getD j 0 = 0 ∨ inD k = true) ∧
        σ = ⟨(putE (putE (putE (putE (putE (putE un0 (some 1) (.int .i64 k)) (some 2) (.ptr 0 0 0)) (some 4) (.ptr 1 0 0)) (some 5) (.bool false)) (some 6) (.ptr 2 0 0)) (some 7) (.int .i64 (i : Int))), [some (0, 37, 8, I a), some (0, 37, 8, I z8), some (0, 37, 8, I (upTo (fun j => a.getD j 0 * k) i))]⟩) 8
        (σ1 := ⟨(putE (putE (putE (putE (putE (putE un0 (some 1) (.int .i64 k)) (some 2) (.ptr 0 0 0)) (some 4) (.ptr 1 0 0)) (some 5) (.bool false)) (some 6) (.ptr 2 0 0)) (some 7) (.int .i64 ((0 : Nat) : Int))), [some (0, 37, 8, I a), some (0, 37, 8, I z8), some (0, 37, 8, I z8)]⟩) (Ent.env (less_put (less_put (less_put (less_put (less_put (less_put (less_un0 _) ?_) ?_) ?_) ?_) ?_) ?_)) ⟨0, Nat.zero_le _, rfl, fun j hj => absurd hj (Nat.not_lt_zero _), rfl⟩ ?_
    iterate 5 (· exact xlq)
    · show _ = D.int .i64 ((0 : Nat) : Int)
      exact xlq
    rintro m σ1 ⟨i, hi, rfl, hok, rfl⟩
    have hsl := upTo_len (f := fun j => a.getD j 0 * k) (i := i)
    have hil : (I (upTo (fun j => a.getD j 0 * k) i)).length = 8 := by rw [I_len, hsl]
    by_cases hlt : i < 8
    · have e1 := I_getD (l := a) (i := i) (by omega)
      have q1 := goodD_get (l := a) (i := i) hga
      by_cases h0 : a.getD i 0 = 0
      · have hskip := upTo_skip (f := fun j => a.getD j 0 * k) (i := i) (by simp only [h0, Int.zero_mul])
        rw [hskip]
        (have we1 := h1; have we2 := e1; refine xwalk2 ?_)
        refine ⟨8 - (i + 1), _, by omega, Ent.env (less_put (less_put (less_put (less_put (less_put (less_put (less_un0 _) ?_) ?_) ?_) ?_) ?_) ?_), i + 1, by omega, rfl, fun j hj => ?_, rfl⟩
        iterate 5 (· exact xlq)
        · simp only [go_sem, Nat.reduceEqDiff, Nat.reduceAdd, Nat.reduceLT, Nat.reduceMul, Nat.reduceLeDiff, reduceCtorEq, Int.reduceNeg, Int.reduceToNat]
        · rcases Nat.lt_succ_iff_lt_or_eq.1 hj with h | rfl
          · exact hok j h
          · exact .inl h0
      · have bad : okn k (a.getD i 0) = false → a.all (okn k) = false := fun h => all_not (by omega) h
        by_cases c1 : 100 < k
        · rw [bad (by unfold okn inD; rw [decide_eq_false h0, decide_eq_false (by omega : ¬ k ≤ 100), Bool.and_false]; rfl)] at hr
          (have we1 := h1; have we2 := e1; exact xwalkd2)
        by_cases c2 : k < -100
        · rw [bad (by unfold okn; rw [decide_eq_false h0]; unfold inD; rw [decide_eq_false (by omega : ¬ -100 ≤ k)]; rfl)] at hr
          (have we1 := h1; have we2 := e1; exact xwalkd2)
        have e4 : IntKind.i64.wrap (a.getD i 0 * k) = a.getD i 0 * k := wrap_i64 (by
          have : (a.getD i 0 * k).natAbs ≤ 100 * 100 := by rw [Int.natAbs_mul]; exact Nat.mul_le_mul (by omega) (by omega)
          omega)
        have e3 := I_set (l := upTo (fun j => a.getD j 0 * k) i) (i := i) (n := a.getD i 0 * k)
        rw [upTo_set (f := fun j => a.getD j 0 * k) (by omega)] at e3
        (have we1 := h1; have we2 := e1; have we3 := e4; have we4 := hil; have we5 := e3; refine xwalk5 ?_)
        refine ⟨8 - (i + 1), _, by omega, Ent.env (less_put (less_put (less_put (less_put (less_put (less_put (less_un0 _) ?_) ?_) ?_) ?_) ?_) ?_), i + 1, by omega, rfl, fun j hj => ?_, rfl⟩
        iterate 5 (· exact xlq)
        · simp only [go_sem, Nat.reduceEqDiff, Nat.reduceAdd, Nat.reduceLT, Nat.reduceMul, Nat.reduceLeDiff, reduceCtorEq, Int.reduceNeg, Int.reduceToNat]
        · exact .inr (inD_iff.2 ⟨by omega, by omega⟩)
    · obtain rfl : i = 8 := by omega
      rw [upTo_mul ha]
      rw [okn_mul ha hok] at hr
      cases hgs : goodD (mulD a k) with
      | false =>
        rw [hgs] at gs hr
        (have we1 := h3; have we2 := t3; have we3 := m3; exact xwalkd3)
      | true =>
        rw [hgs] at gs hr
        (have we1 := h3; have we2 := t3; have we3 := m3; have we4 := one3; have we5 := put3; exact xwalkd5)
theorem pcr_negv (hG : Stable G) {a : List Int} (ha : a.length = 8) : PCr Tryd.prog G 17 [.agg (I a)] (.agg (I (if goodD a && a.all (okn (-1)) then mulD a (-1) else z8))) := by
  have h1 : (I a).length = 8 := by rw [I_len, ha]
  have t1 : (I a).take 8 = I a := List.take_of_length_le (by omega)
  have m1 := I_imm (l := a)
  have ht := pcr_timesv hG (-1) ha
  unfold mV at ht
  have hs8 : (if goodD a && a.all (okn (-1)) then mulD a (-1) else z8).length = 8 := by split <;> simp [mulD, ha]
  generalize (if goodD a && a.all (okn (-1)) then mulD a (-1) else z8) = v at *
  have h3 : (I v).length = 8 := by rw [I_len, hs8]
  have t3 : (I v).take 8 = I v := List.take_of_length_le (by omega)
  have m3 := I_imm (l := v)
  have one3 := I_one (l := v)
  have put3 : putD [.int .i64 0, .int .i64 0, .int .i64 0, .int .i64 0, .int .i64 0, .int .i64 0, .int .i64 0, .int .i64 0] 0 (I v) = I v := putD_I (by rw [hs8]; rfl)
  refine pcr_byq ok17 hG (n := 11) (rv := [.cell 2 true 8]) fun r hr => ?_; unfold c17 st0
  (have we1 := h1; have we2 := t1; have we3 := m1; have we4 := h3; have we5 := t3; have we6 := m3; have we7 := one3; have we8 := put3; exact xwalkd8)
end Go.Proofs.YticocfhgopppjaaDoorK.DimsT
