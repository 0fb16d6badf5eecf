/-
  Package dims: an exponent taken many times; turned; one of one base.
-/
import Derived.Test.YticocfhgopppjaaDoorKIrDims
import Derived.Test.YticocfhgopppjaaDoorKDimsA
set_option linter.all false
set_option linter.unusedVariables false
set_option linter.unusedSimpArgs false
set_option maxHeartbeats 4000000
namespace Go.Proofs.YticocfhgopppjaaDoorK.DimsT
open Go.Proofs.YticocfhgopppjaaDoorK.AI Go.Proofs.YticocfhgopppjaaDoorK.NatIr
set_option linter.unusedSimpArgs false
attribute [local irreducible] awp awpOps
attribute [local go_sem] getO putE_same putE_ne putE_none un0_at ini_zero ini_one ini_two ini_three ne_eq not_false_eq_true Nat.zero_ne_one Nat.one_ne_zero zero_ne_succ succ_ne_zero sym_nil sym_cons symG_call symG_op symG_skip IOp.isCall gd st_mv st_pick st_new st_box st_build st_lit st_load st_store st_faddr st_fld st_iaddrS st_iaddrA st_idxs st_bin st_beq st_neg st_not st_conv st_slcS st_slcL st_make st_app st_lenS st_lenL st_capL st_seq eqAt eq1 st_mx st_mn st_ext st_nilck st_bstr st_idxA st_slcA st_aeq st_isnil nilD st_mkmap st_look st_mput st_mkfn foundD byD pureC loadC setH hv boundO D.cells D.one D.boxable fillD putD rowD binC intBinC decT decF dec_true dec_false bne_self_eq_false beq_self_eq_true beq_true_false beq_false_true bne_iff_ne List.length_nil List.length_cons List.getD_cons_zero List.getD_cons_succ List.set_cons_zero List.set_cons_succ List.all_cons List.all_nil Bool.and_true Bool.true_and Nat.lt_irrefl Nat.sub_self Nat.zero_add Nat.add_zero Nat.mul_one Nat.lt_add_one if_true if_false List.replicate_zero List.nil_append List.cons_append List.append_nil List.map_cons List.map_nil Bool.false_eq_true or_self or_true true_or or_false false_or true_and and_true and_self Int.ofNat_zero wrap_i64 wrap_u32 wrap_u64 wrap_u8 wrap_u32_mod wrap_u64_mod Nat.zero_lt_one Int.toNat_natCast Int.sub_zero toNat_pred List.take_succ_cons List.take_zero List.drop_succ_cons List.drop_zero List.take_nil List.drop_nil Nat.le_refl List.length_singleton rvDs rvD ldD one? Option.bind_some Option.map_some resD_int resD_bool resD_str resD_sl resD_rp resD_nils resD_null resD_agg resD_tup resD_own rdOwn resD_nilm resD_mf resD_fn resD_mo rdMo resD_ptr rdPtr rd_ite resL_eq go_nil go_cons D.imm resArgs shr32 shl32 Nat.zero_mul Bool.and_self Bool.and_false Bool.false_and strBin_eql strBin_neq Bool.not_true Bool.not_false i64max List.length_reverse List.length_set SS_length SS_getD SS_set SS_take SS_drop SS_imm SS_one SS_app1 W_get1 W_len1 W_getD W_set W_take W_drop W_app W_length W_imm W_one W_repl N mx_nat toNat_succ toNat_add toNat_pred2 tdiv_nn tmod_nn List.take_of_length_le cast_succ and_one or_shl32 min64 shr32b shl32b IntKind.bits
attribute [local go_sem] not_true_eq_false not_false_eq_true
variable {G : World → Prop} {l : List Int} {n : Int}
def mulTo (a : List Int) (k : Int) (i : Nat) : List Int := (List.range a.length).map fun j => if j < i then a.getD j 0 * k else a.getD j 0
def mulD (a : List Int) (k : Int) : List Int := (List.range a.length).map fun j => a.getD j 0 * k
def okn (k n : Int) : Bool := decide (n = 0) || (inD k && inD (n * k))
theorem mulTo_len {a : List Int} {k : Int} {i : Nat} : (mulTo a k i).length = a.length := by simp [mulTo]
theorem mulTo_zero {a : List Int} {k : Int} : mulTo a k 0 = a := by
  unfold mulTo
  refine List.ext_getElem? fun j => ?_
  by_cases hj : j < a.length
  · simp [hj, List.getD_eq_getElem?_getD]
  · rw [List.getElem?_eq_none (by simp; omega), List.getElem?_eq_none (by omega)]
theorem mulTo_all {a : List Int} {k : Int} : mulTo a k a.length = mulD a k := by
  unfold mulTo mulD
  refine List.map_congr_left fun j hj => ?_
  rw [if_pos (List.mem_range.1 hj)]
theorem mulTo_set {a : List Int} {k : Int} {i : Nat} (h : i < a.length) : (mulTo a k i).set i (a.getD i 0 * k) = mulTo a k (i + 1) := by
  unfold mulTo
  refine List.ext_getElem? fun j => ?_
  rw [List.getElem?_set]
  by_cases hj : j < a.length
  · by_cases hij : i = j
    · subst hij
      simp [h]
    · rw [if_neg hij]
      simp only [List.getElem?_map, List.getElem?_range hj, Option.map_some]
      by_cases h1 : j < i
      · rw [if_pos h1, if_pos (by omega)]
      · rw [if_neg h1, if_neg (by omega)]
  · rw [List.getElem?_eq_none (l := (List.range a.length).map _) (by simp; omega), List.getElem?_eq_none (by simp; omega)]
    simp
    omega
theorem mulTo_skip {a : List Int} {k : Int} {i : Nat} (h : i < a.length) (h0 : a.getD i 0 = 0) : mulTo a k i = mulTo a k (i + 1) := by
  rw [← mulTo_set h, h0, Int.zero_mul]
  refine List.ext_getElem? fun j => ?_
  rw [List.getElem?_set]
  split
  · rename_i e
    subst e
    rw [if_pos (by rw [mulTo_len]; exact h)]
    simp [mulTo, h]
    rw [List.getD_eq_getElem?_getD] at h0
    simpa [h] using h0
  · rfl
theorem all_not {a : List Int} {p : Int → Bool} {i : Nat} (h : i < a.length) (h0 : p (a.getD i 0) = false) : a.all p = false := by
  rw [List.all_eq_false]
  refine ⟨a[i], List.getElem_mem h, ?_⟩
  rw [List.getD_eq_getElem?_getD] at h0
  simpa [h] using h0
theorem all_yes {a : List Int} {p : Int → Bool} (h : ∀ j, j < a.length → p (a.getD j 0) = true) : a.all p = true := by
  rw [List.all_eq_true]
  intro x hx
  obtain ⟨j, hj, rfl⟩ := List.mem_iff_getElem.1 hx
  have := h j hj
  simpa [List.getD_eq_getElem?_getD, hj] using this
set_option maxHeartbeats 8000000 in
theorem pcr_times (hG : Stable G) {a : List Int} (k : Int) (ha : a.length = 8) : PCr Tryd.prog G 14 [.agg (I a), .int .i64 k] (mV (goodD a && a.all (okn k)) (mulD a k)) := by
  have h1 : (I a).length = 8 := by rw [I_len, ha]
  have t1 : (I a).take 8 = I a := List.take_of_length_le (by omega)
  have ga := pcr_good hG ha
  have hs8 : (mulD a k).length = 8 := by simp [mulD, ha]
  have h3 : (I (mulD a k)).length = 8 := by rw [I_len, hs8]
  have t3 : (I (mulD a k)).take 8 = I (mulD a k) := List.take_of_length_le (by omega)
  have one3 := I_one (l := mulD a k)
  have m1 := I_imm (l := a)
  have m3 := I_imm (l := mulD a k)
  have put3 : putD [.int .i64 0, .int .i64 0, .int .i64 0, .int .i64 0, .int .i64 0, .int .i64 0, .int .i64 0, .int .i64 0] 0 (I (mulD a k)) = I (mulD a k) := putD_I (by rw [hs8]; rfl)
  have hin := pcr_in hG k
  cases hga : goodD a with
  | false =>
    rw [hga] at ga
    refine pcr_byq ok14 hG (n := 37) (rv := [.cell 4 true 8, .tmp 5]) fun r hr => ?_; unfold c14 st0
    (have we1 := h1; have we2 := t1; have we3 := m1; exact xwalkd3)
  | true =>
    rw [hga] at ga
    refine pcr_byq ok14 hG (n := 37) (rv := [.cell 4 true 8, .tmp 5]) fun r hr => ?_; unfold c14 st0
    (have we1 := h1; have we2 := t1; have we3 := m1; refine xwalk3 ?_)
    refine awp_loop (fun m σ => ∃ (i : Nat), i ≤ 8 ∧ m = 8 - i ∧ (∀ j, j < i → okn k (a.getD j 0) = true) ∧
        σ = ⟨(putE (putE (putE (putE (putE (putE un0 (some 1) (.int .i64 k)) (some 2) (.ptr 0 0 0)) (some 4) (.ptr 1 0 0)) (some 5) (.bool false)) (some 12) (.agg (I a))) (some 13) (.int .i64 (i : Int))), [some (0, 34, 8, I (mulTo a k i)), some (0, 34, 8, I z8)]⟩) 8
        (σ1 := ⟨(putE (putE (putE (putE (putE (putE un0 (some 1) (.int .i64 k)) (some 2) (.ptr 0 0 0)) (some 4) (.ptr 1 0 0)) (some 5) (.bool false)) (some 12) (.agg (I a))) (some 13) (.int .i64 ((0 : Nat) : Int))), [some (0, 34, 8, I a), some (0, 34, 8, I z8)]⟩) (Ent.st (less_put (less_put (less_put (less_put (less_put (less_put (less_un0 _) ?_) ?_) ?_) ?_) ?_) ?_) (by exact ⟨.inr rfl, .inr rfl, trivial⟩)) ⟨0, Nat.zero_le _, rfl, fun j hj => absurd hj (Nat.not_lt_zero _), by rw [mulTo_zero]⟩ ?_
    iterate 5 (· exact xlq)
    · show _ = D.int .i64 ((0 : Nat) : Int)
      exact xlq
    rintro m σ1 ⟨i, hi, rfl, hok, rfl⟩
    have hsl : (mulTo a k i).length = 8 := by rw [mulTo_len, ha]
    have hil : (I (mulTo a k i)).length = 8 := by rw [I_len, hsl]
    by_cases hlt : i < 8
    · have e1 := I_getD (l := a) (i := i) (by omega)
      have q1 := goodD_get (l := a) (i := i) hga
      by_cases h0 : a.getD i 0 = 0
      · have hskip := mulTo_skip (k := k) (by omega : i < a.length) h0
        rw [hskip]
        (have we1 := h1; have we2 := e1; refine xwalk2 ?_)
        refine ⟨8 - (i + 1), _, by omega, Ent.st (less_put (less_put (less_put (less_put (less_put (less_put (less_un0 _) ?_) ?_) ?_) ?_) ?_) ?_) (by exact ⟨.inr rfl, .inr rfl, trivial⟩), i + 1, by omega, rfl, fun j hj => ?_, rfl⟩
        iterate 5 (· exact xlq)
        · simp only [go_sem, Nat.reduceEqDiff, Nat.reduceAdd, Nat.reduceLT, Nat.reduceMul, Nat.reduceLeDiff, reduceCtorEq, Int.reduceNeg, Int.reduceToNat]
        · rcases Nat.lt_succ_iff_lt_or_eq.1 hj with h | rfl
          · exact hok j h
          · unfold okn; rw [h0]; rfl
      · have bad : okn k (a.getD i 0) = false → a.all (okn k) = false := fun h => all_not (by omega) h
        cases hk : inD k with
        | false =>
          rw [bad (by unfold okn; rw [decide_eq_false h0, hk]; rfl)] at hr
          rw [hk] at hin
          (have we1 := h1; have we2 := e1; exact xwalkd2)
        | true =>
          rw [hk] at hin
          have hkb := inD_iff.1 hk
          have e4 : IntKind.i64.wrap (a.getD i 0 * k) = a.getD i 0 * k := wrap_i64 (by
            have : (a.getD i 0 * k).natAbs ≤ 100 * 100 := by rw [Int.natAbs_mul]; exact Nat.mul_le_mul (by omega) (by omega)
            omega)
          have hin2 := pcr_in hG (a.getD i 0 * k)
          cases hk2 : inD (a.getD i 0 * k) with
          | false =>
            rw [bad (by unfold okn; rw [decide_eq_false h0, hk, hk2]; rfl)] at hr
            rw [hk2] at hin2
            (have we1 := h1; have we2 := e1; have we3 := e4; exact xwalkd3)
          | true =>
            rw [hk2] at hin2
            have e3 := I_set (l := mulTo a k i) (i := i) (n := a.getD i 0 * k)
            rw [mulTo_set (by omega)] at e3
            (have we1 := h1; have we2 := e1; have we3 := e4; have we4 := hil; have we5 := e3; refine xwalk5 ?_)
            refine ⟨8 - (i + 1), _, by omega, Ent.st (less_put (less_put (less_put (less_put (less_put (less_put (less_un0 _) ?_) ?_) ?_) ?_) ?_) ?_) (by exact ⟨.inr rfl, .inr rfl, trivial⟩), i + 1, by omega, rfl, fun j hj => ?_, rfl⟩
            iterate 5 (· exact xlq)
            · simp only [go_sem, Nat.reduceEqDiff, Nat.reduceAdd, Nat.reduceLT, Nat.reduceMul, Nat.reduceLeDiff, reduceCtorEq, Int.reduceNeg, Int.reduceToNat]
            · rcases Nat.lt_succ_iff_lt_or_eq.1 hj with h | rfl
              · exact hok j h
              · unfold okn; rw [hk, hk2, Bool.and_self, Bool.or_true]
    · obtain rfl : i = 8 := by omega
      have e5 : mulTo a k 8 = mulD a k := by rw [← ha]; exact mulTo_all
      have hall : a.all (okn k) = true := all_yes (fun j hj => hok j (by omega))
      rw [e5]
      rw [hall] at hr
      (have we1 := h3; have we2 := t3; have we3 := m3; have we4 := one3; have we5 := put3; exact xwalkd5)
theorem pcr_neg (hG : Stable G) {a : List Int} (ha : a.length = 8) : PCr Tryd.prog G 16 [.agg (I a)] (.agg (I (if goodD a && a.all (okn (-1)) then mulD a (-1) else z8))) := by
  have h1 : (I a).length = 8 := by rw [I_len, ha]
  have t1 : (I a).take 8 = I a := List.take_of_length_le (by omega)
  have m1 := I_imm (l := a)
  have ht := pcr_times hG (-1) ha
  unfold mV at ht
  have hs8 : (if goodD a && a.all (okn (-1)) then mulD a (-1) else z8).length = 8 := by split <;> simp [mulD, ha]
  generalize (if goodD a && a.all (okn (-1)) then mulD a (-1) else z8) = v at *
  have h3 : (I v).length = 8 := by rw [I_len, hs8]
  have t3 : (I v).take 8 = I v := List.take_of_length_le (by omega)
  have m3 := I_imm (l := v)
  have one3 := I_one (l := v)
  have put3 : putD [.int .i64 0, .int .i64 0, .int .i64 0, .int .i64 0, .int .i64 0, .int .i64 0, .int .i64 0, .int .i64 0] 0 (I v) = I v := putD_I (by rw [hs8]; rfl)
  refine pcr_byq ok16 hG (n := 11) (rv := [.cell 2 true 8]) fun r hr => ?_; unfold c16 st0
  (have we1 := h1; have we2 := t1; have we3 := m1; have we4 := h3; have we5 := t3; have we6 := m3; have we7 := one3; have we8 := put3; exact xwalkd8)
end Go.Proofs.YticocfhgopppjaaDoorK.DimsT
