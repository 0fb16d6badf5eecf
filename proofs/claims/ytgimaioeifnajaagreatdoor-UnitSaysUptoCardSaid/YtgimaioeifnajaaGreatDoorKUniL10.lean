/-
  The laws' helpers: units as the document has them; alike; the laws' names; awake.
-/
import Derived.Test.YtgimaioeifnajaaGreatDoorKIrLaw10
import Derived.Test.YtgimaioeifnajaaGreatDoorKUi
set_option linter.all false
set_option maxHeartbeats 0
namespace Go.Proofs.YtgimaioeifnajaaGreatDoorK.LawT10
open AI NatIr Dig NatT LibT TabT Go.Lib
attribute [local irreducible] awp awpOps
attribute [local go_sem] not_true_eq_false not_false_eq_true eq_self decide_true decide_false beq_self_eq_true Int.reduceAdd nl List.getElem?_cons_zero List.getElem?_cons_succ
variable {G : World → Prop}
theorem kbs_ats (k : Nat) (l : List At) : kb.kbs k (atsC l) := kbs_of_imm (atsC_imm l)
theorem pcr_atomof (hG : Stable G) (a : At) : PCr Tryz.prog G 81 [.agg [.str a.pre, .str a.name, .int .i64 a.pw]] (.agg [.str a.pre, .str a.name, .int .i64 a.pw]) := by
  refine pcr_byq ok81 hG (n := 10) (rv := [.cell 2 true 3]) fun r hr => ?_; unfold c81 st0
  (exact xwalkd)
theorem pcr_atomsof (hG : Stable G) (l : List At) (hl : l.length < 1000000) : PCr Tryz.prog G 54 [.sl l.length (atsC l)] (.sl l.length (atsC l)) := by
  have hal := atsC_len l
  have hao := fun a => pcr_atomof (G := G) hG a
  refine pcr_byq ok54 hG (n := 20) (rv := [.tmp 2]) fun r hr => ?_; unfold c54 st0
  (refine xwalk ?_)
  refine awp_loop (fun j σ => ∃ i v, i ≤ l.length ∧ j = l.length - i ∧ σ = ⟨(putE (putE (putE un0 (some 0) (.sl l.length (atsC l))) (some 3) (.own 0 v 0 i)) (some 4) (.int .i64 (i : Int))), [some (v, 107, 3, atsC (l.take i))]⟩) l.length ?_ ⟨0, 0, Nat.zero_le _, rfl, rfl⟩ ?_
  · refine Ent.trans (Ent.nils (s := 3) 107 3 rfl) (by simp) ?_
    refine Ent.cutk 1 (less_put (less_put (less_put (less_un0 _) ?_) ?_) ?_) ⟨.inr rfl, trivial⟩ (kb_put (kb_put (kb_put (kb_un0 _) (by simp [kb])) (by simp [kb])) (by simp [kb])) ⟨kbs_ats _ _, trivial⟩
    iterate 3 (· exact xlqi)
  rintro j σ1 ⟨i, v, hi, rfl, rfl⟩
  by_cases hlt : i < l.length
  · have hget := atsC_get hlt
    have hac : (atsC (l.take i)).length = i * 3 := by rw [atsC_len, List.length_take]; congr 1; omega
    have hap : atsC (l.take i) ++ [.str l[i].pre, .str l[i].name, .int .i64 l[i].pw] = atsC (l.take (i + 1)) := by rw [List.take_succ_eq_append_getElem hlt, atsC_app]; rfl
    have hai := hao l[i]
    clear hao
    generalize l[i] = a at *
    (have we1 := hget; have we2 := hac; have we3 := hap; refine xwalk3 ?_)
    refine ⟨l.length - (i + 1), _, by omega, ?_, i + 1, v + 1, by omega, rfl, rfl⟩
    refine Ent.cutk 1 (less_put (less_put (less_put (less_un0 _) ?_) ?_) ?_) ⟨.inr rfl, trivial⟩ (kb_put (kb_put (kb_put (kb_un0 _) (by simp [kb])) (by simp [kb])) (by simp [kb])) ⟨kbs_ats _ _, trivial⟩
    iterate 3 (· exact xlqi)
  · obtain rfl : i = l.length := by omega
    rw [List.take_length]
    have htk : (atsC l).take (l.length * 3) = atsC l := List.take_of_length_le (by omega)
    have hai := atsC_imm l
    clear hao
    (have we1 := hal; have we2 := htk; have we3 := hai; exact xwalkd3)
def rpC (p : Pt) : List D := [.sl p.num.length (atsC p.num), .sl p.den.length (atsC p.den), .str (txt p.c)]
def rptsC (u : List Pt) : List D := u.flatMap rpC
theorem rptsC_len (u : List Pt) : (rptsC u).length = u.length * 3 := by
  induction u with
  | nil => rfl
  | cons p u ih =>
    show (rptsC u).length + 1 + 1 + 1 = _
    rw [ih, List.length_cons]; omega
theorem rptsC_app (u v : List Pt) : rptsC (u ++ v) = rptsC u ++ rptsC v := by simp [rptsC]
theorem rptsC_imm (u : List Pt) : (rptsC u).all D.imm = true := by
  induction u with
  | nil => rfl
  | cons p u ih =>
    show (true && (true && (true && (rptsC u).all D.imm))) = true
    rw [ih]; rfl
theorem rptsC_get {u : List Pt} {i : Nat} (h : i < u.length) : ((rptsC u).drop (i * 3)).take 3 = rpC u[i] := by
  induction u generalizing i with
  | nil => cases h
  | cons p u ih =>
    cases i with
    | zero => rfl
    | succ i =>
      rw [show (i + 1) * 3 = i * 3 + 3 by omega]
      exact ih (by simpa using h)
theorem pcr_partof (hG : Stable G) (hT : ∀ w, G w → Lib.TabIs Tryz.prog w "internal/strconv.uint64pow10" .u64 Lib.pow10Tab) (p : Pt) (h : p.ok) : PCr Tryz.prog G 29 [.agg (ptC p)] (.agg (rpC p)) := by
  have h1 := pcr_atomsof (G := G) hG p.num (by have := h.few; omega)
  have h2 := pcr_atomsof (G := G) hG p.den (by have := h.few; omega)
  have h3 := pcr_textN (G := G) hG hT (nm_N (X := p.c) (L := 6) (Nat.lt_of_lt_of_le h.c20 (by decide))) (by omega)
  have hi1 := atsC_imm p.num
  have hi2 := atsC_imm p.den
  rw [N_nl, show (⟨(decDigits p.c).toArray⟩ : ByteArray) = txt p.c from rfl] at h3
  unfold ptC rpC
  refine pcr_byq ok29 hG (n := 13) (rv := [.cell 2 true 3]) fun r hr => ?_; unfold c29 st0
  (exact xwalkd)
theorem pcr_partsof (hG : Stable G) (hT : ∀ w, G w → Lib.TabIs Tryz.prog w "internal/strconv.uint64pow10" .u64 Lib.pow10Tab) (u : List Pt) (hu : ∀ p ∈ u, p.ok) (hl : u.length < 1000000) : PCr Tryz.prog G 13 [.agg [.sl u.length (ptsC u)]] (.sl u.length (rptsC u)) := by
  have hpl := ptsC_len u
  have hao : ∀ p ∈ u, PCr Tryz.prog G 29 [.agg (ptC p)] (.agg (rpC p)) := fun p hp => pcr_partof (G := G) hG hT p (hu p hp)
  clear hu
  refine pcr_byq ok13 hG (n := 22) (rv := [.tmp 2]) fun r hr => ?_; unfold c13 st0
  (refine xwalk ?_)
  refine awp_loop (fun j σ => ∃ i v, i ≤ u.length ∧ j = u.length - i ∧ σ = ⟨(putE (putE (putE un0 (some 1) (.ptr 0 0 0)) (some 3) (.own 1 v 0 i)) (some 4) (.int .i64 (i : Int))), [some (0, 25, 1, [.sl u.length (ptsC u)]), some (v, 71, 3, rptsC (u.take i))]⟩) u.length ?_ ⟨0, 0, Nat.zero_le _, rfl, rfl⟩ ?_
  · refine Ent.trans (Ent.nils (s := 3) 71 3 rfl) (by simp) ?_
    refine Ent.cutk 2 (less_put (less_put (less_put (less_un0 _) ?_) ?_) ?_) ⟨.inr rfl, .inr rfl, trivial⟩ (kb_put (kb_put (kb_put (kb_un0 _) (by simp [kb])) (by simp [kb])) (by simp [kb])) ⟨by simp [kb.kbs, kb], kbs_of_imm (rptsC_imm _), trivial⟩
    iterate 3 (· exact xlqi)
  rintro j σ1 ⟨i, v, hi, rfl, rfl⟩
  by_cases hlt : i < u.length
  · have hget := ptsC_get hlt
    have hac : (rptsC (u.take i)).length = i * 3 := by rw [rptsC_len, List.length_take]; congr 1; omega
    have hap : rptsC (u.take i) ++ rpC u[i] = rptsC (u.take (i + 1)) := by rw [List.take_succ_eq_append_getElem hlt, rptsC_app]; simp [rptsC]
    have hai := hao u[i] (List.getElem_mem hlt)
    clear hao
    generalize u[i] = p at *
    unfold ptC at hget hai
    unfold rpC at hap hai
    (have we1 := hget; have we2 := hac; have we3 := hap; refine xwalk3 ?_)
    refine ⟨u.length - (i + 1), _, by omega, ?_, i + 1, v + 1, by omega, rfl, rfl⟩
    refine Ent.cutk 2 (less_put (less_put (less_put (less_un0 _) ?_) ?_) ?_) ⟨.inr rfl, .inr rfl, trivial⟩ (kb_put (kb_put (kb_put (kb_un0 _) (by simp [kb])) (by simp [kb])) (by simp [kb])) ⟨by simp [kb.kbs, kb], kbs_of_imm (rptsC_imm _), trivial⟩
    iterate 3 (· exact xlqi)
  · obtain rfl : i = u.length := by omega
    rw [List.take_length]
    have hal := rptsC_len u
    have htk : (rptsC u).take (u.length * 3) = rptsC u := List.take_of_length_le (by omega)
    have hai := rptsC_imm u
    clear hao
    (have we1 := hal; have we2 := htk; have we3 := hai; exact xwalkd3)
/-! ### alike -/
def eqAts : List At → List At → Bool
  | [], [] => true
  | a :: l, b :: m => (decide (a.pre = b.pre) && (decide (a.name = b.name) && decide (a.pw = b.pw))) && eqAts l m
  | _, _ => false
theorem eqAts_self : ∀ l, eqAts l l = true
  | [] => rfl
  | a :: l => by rw [eqAts, eqAts_self l, decide_eq_true rfl, decide_eq_true rfl, decide_eq_true rfl]; rfl
theorem eqAts_eq : ∀ {l m : List At}, eqAts l m = true → l = m
  | [], [], _ => rfl
  | a :: l, b :: m, h => by
    rw [eqAts, Bool.and_eq_true, Bool.and_eq_true, Bool.and_eq_true, decide_eq_true_eq, decide_eq_true_eq, decide_eq_true_eq] at h
    obtain ⟨⟨h1, h2, h3⟩, h4⟩ := h
    rw [eqAts_eq h4]
    obtain ⟨p, n, w⟩ := a
    obtain ⟨p', n', w'⟩ := b
    dsimp only at h1 h2 h3
    rw [h1, h2, h3]
  | [], _ :: _, h => by cases h
  | _ :: _, [], h => by cases h
theorem eqAts_len : ∀ {l m : List At}, l.length ≠ m.length → eqAts l m = false
  | [], [], h => absurd rfl h
  | a :: l, b :: m, h => by rw [eqAts, eqAts_len (by simpa using h), Bool.and_false]
  | [], _ :: _, _ => rfl
  | _ :: _, [], _ => rfl
theorem bas_dec (x y : Wd) : (x == y) = decide (x = y) := by rw [bas_toList, ba_beq]
theorem pcr_sameatoms (hG : Stable G) (a b : List At) (ha : a.length < 1000000) (hb : b.length < 1000000) : PCr Tryz.prog G 28 [.sl a.length (atsC a), .sl b.length (atsC b)] (.bool (eqAts a b)) := by
  have hal := atsC_len a
  have hbl := atsC_len b
  by_cases hl : a.length = b.length
  · refine pcr_byq ok28 hG (n := 26) (rv := [.tmp 4]) fun r hr => ?_; unfold c28 st0
    (refine xwalk ?_)
    refine awp_loop (fun j σ => ∃ i, i ≤ a.length ∧ j = a.length - i ∧ eqAts (a.drop i) (b.drop i) = eqAts a b ∧ σ = ⟨(putE (putE (putE un0 (some 0) (.sl a.length (atsC a))) (some 1) (.sl b.length (atsC b))) (some 5) (.int .i64 (i : Int))), []⟩) a.length ?_ ⟨0, Nat.zero_le _, rfl, rfl, rfl⟩ ?_
    · refine Ent.env (less_put (less_put (less_put (less_un0 _) ?_) ?_) ?_)
      iterate 3 (· exact xlqi)
    rintro j σ1 ⟨i, hi, rfl, he, rfl⟩
    by_cases hlt : i < a.length
    · have hga := atsC_get hlt
      have hgb := atsC_get (l := b) (i := i) (by omega)
      rw [List.drop_eq_getElem_cons hlt, List.drop_eq_getElem_cons (l := b) (i := i) (by omega), eqAts] at he
      generalize a[i] = x at *
      generalize b[i]'(by omega) = y at *
      have e1 := bas_dec x.pre y.pre
      have e2 := bas_dec x.name y.name
      have e3 : (x.pw == y.pw) = decide (x.pw = y.pw) := rfl
      cases h1 : decide (x.pre = y.pre) with
      | false =>
        rw [h1] at e1 he
        rw [← he] at hr
        simp only [Bool.false_and] at hr
        clear he e2 e3
        (have we1 := hga; have we2 := hgb; have we3 := e1; exact xwalkd3)
      | true =>
      cases h2 : decide (x.name = y.name) with
      | false =>
        rw [h1] at e1 he
        rw [h2] at e2 he
        rw [← he] at hr
        simp only [Bool.false_and, Bool.and_false, Bool.true_and] at hr
        clear he e3
        (have we1 := hga; have we2 := hgb; have we3 := e1; have we4 := e2; exact xwalkd4)
      | true =>
      cases h3 : decide (x.pw = y.pw) with
      | false =>
        rw [h1] at e1 he
        rw [h2] at e2 he
        rw [h3] at e3 he
        rw [← he] at hr
        simp only [Bool.false_and, Bool.and_false, Bool.true_and] at hr
        clear he
        (have we1 := hga; have we2 := hgb; have we3 := e1; have we4 := e2; have we5 := e3; exact xwalkd5)
      | true =>
        rw [h1] at e1 he
        rw [h2] at e2 he
        rw [h3] at e3 he
        simp only [Bool.true_and] at he
        (have we1 := hga; have we2 := hgb; have we3 := e1; have we4 := e2; have we5 := e3; refine xwalk5 ?_)
        refine ⟨a.length - (i + 1), _, by omega, ?_, i + 1, by omega, rfl, he, rfl⟩
        refine Ent.env (less_put (less_put (less_put (less_un0 _) ?_) ?_) ?_)
        iterate 3 (· exact xlqi)
    · obtain rfl : i = a.length := by omega
      rw [List.drop_length, hl, List.drop_length] at he
      rw [← he] at hr
      unfold eqAts at hr
      (exact xwalkd)
  · rw [eqAts_len hl]
    have hd : decide ((a.length : Int) = (b.length : Int)) = false := decide_eq_false (by omega)
    refine pcr_byq ok28 hG (n := 26) (rv := [.tmp 4]) fun r hr => ?_; unfold c28 st0
    (exact xwalkd)
def eqPts : List Pt → List Pt → Bool
  | [], [] => true
  | p :: u, q :: v => (decide (txt p.c = txt q.c) && (eqAts p.num q.num && eqAts p.den q.den)) && eqPts u v
  | _, _ => false
theorem eqPts_self : ∀ u, eqPts u u = true
  | [] => rfl
  | p :: u => by rw [eqPts, eqPts_self u, decide_eq_true rfl, eqAts_self, eqAts_self]; rfl
theorem txt_inj {c d : Nat} (h : txt c = txt d) : c = d := by
  have := congrArg (fun b : ByteArray => b.data.toList) h
  simp only [txt, List.toList_toArray] at this
  rw [← dec_val c, this, dec_val]
theorem eqPts_eq : ∀ {u v : List Pt}, eqPts u v = true → u = v
  | [], [], _ => rfl
  | p :: u, q :: v, h => by
    rw [eqPts, Bool.and_eq_true, Bool.and_eq_true, Bool.and_eq_true, decide_eq_true_eq] at h
    obtain ⟨⟨h1, h2, h3⟩, h4⟩ := h
    rw [eqPts_eq h4]
    have e1 := eqAts_eq h2
    have e2 := eqAts_eq h3
    have e3 := txt_inj h1
    obtain ⟨a, b, c⟩ := p
    obtain ⟨a', b', c'⟩ := q
    dsimp only at e1 e2 e3
    rw [e1, e2, e3]
  | [], _ :: _, h => by cases h
  | _ :: _, [], h => by cases h
theorem eqPts_len : ∀ {l m : List Pt}, l.length ≠ m.length → eqPts l m = false
  | [], [], h => absurd rfl h
  | a :: l, b :: m, h => by rw [eqPts, eqPts_len (by simpa using h), Bool.and_false]
  | [], _ :: _, _ => rfl
  | _ :: _, [], _ => rfl
theorem pcr_samepartsG (hG : Stable G) (u v : List Pt) (hu : ∀ p ∈ u, p.num.length < 1000000 ∧ p.den.length < 1000000) (hv : ∀ p ∈ v, p.num.length < 1000000 ∧ p.den.length < 1000000) (hul : u.length < 1000000) (hvl : v.length < 1000000) : PCr Tryz.prog G 12 [.sl u.length (rptsC u), .sl v.length (rptsC v)] (.bool (eqPts u v)) := by
  have hal := rptsC_len u
  have hbl := rptsC_len v
  by_cases hl : u.length = v.length
  · have hsa : ∀ p ∈ u, ∀ q ∈ v, PCr Tryz.prog G 28 [.sl p.num.length (atsC p.num), .sl q.num.length (atsC q.num)] (.bool (eqAts p.num q.num)) ∧ PCr Tryz.prog G 28 [.sl p.den.length (atsC p.den), .sl q.den.length (atsC q.den)] (.bool (eqAts p.den q.den)) := fun p hp q hq => by
      have h1 := hu p hp
      have h2 := hv q hq
      exact ⟨pcr_sameatoms hG _ _ (by omega) (by omega), pcr_sameatoms hG _ _ (by omega) (by omega)⟩
    clear hu hv
    refine pcr_byq ok12 hG (n := 56) (rv := [.tmp 4]) fun r hr => ?_; unfold c12 st0
    (refine xwalk ?_)
    refine awp_loop (fun j σ => ∃ i, i ≤ u.length ∧ j = u.length - i ∧ eqPts (u.drop i) (v.drop i) = eqPts u v ∧ σ = ⟨(putE (putE (putE un0 (some 0) (.sl u.length (rptsC u))) (some 1) (.sl v.length (rptsC v))) (some 5) (.int .i64 (i : Int))), []⟩) u.length ?_ ⟨0, Nat.zero_le _, rfl, rfl, rfl⟩ ?_
    · refine Ent.env (less_put (less_put (less_put (less_un0 _) ?_) ?_) ?_)
      iterate 3 (· exact xlqi)
    rintro j σ1 ⟨i, hi, rfl, he, rfl⟩
    by_cases hlt : i < u.length
    · have hlt2 : i < v.length := by omega
      have hga := rptsC_get hlt
      have hgb := rptsC_get hlt2
      have hss := hsa u[i] (List.getElem_mem hlt) v[i] (List.getElem_mem hlt2)
      rw [List.drop_eq_getElem_cons hlt, List.drop_eq_getElem_cons hlt2, eqPts] at he
      clear hsa
      generalize u[i] = p at *
      generalize v[i] = q at *
      obtain ⟨hs1, hs2⟩ := hss
      have hi1 := atsC_imm p.num
      have hi2 := atsC_imm p.den
      have hi3 := atsC_imm q.num
      have hi4 := atsC_imm q.den
      unfold rpC at hga hgb
      cases h1 : decide (txt p.c = txt q.c) with
      | false =>
        rw [h1] at he
        rw [← he] at hr
        simp only [Bool.false_and] at hr
        clear he
        (have we1 := hga; have we2 := hgb; have we3 := h1; exact xwalkd3)
      | true =>
      cases h2 : eqAts p.num q.num with
      | false =>
        rw [h2] at hs1
        rw [h1, h2] at he
        rw [← he] at hr
        simp only [Bool.false_and, Bool.true_and] at hr
        clear he
        (have we1 := hga; have we2 := hgb; have we3 := h1; exact xwalkd3)
      | true =>
      cases h3 : eqAts p.den q.den with
      | false =>
        rw [h2] at hs1
        rw [h3] at hs2
        rw [h1, h2, h3] at he
        rw [← he] at hr
        simp only [Bool.false_and, Bool.true_and] at hr
        clear he
        (have we1 := hga; have we2 := hgb; have we3 := h1; exact xwalkd3)
      | true =>
        rw [h2] at hs1
        rw [h3] at hs2
        rw [h1, h2, h3] at he
        simp only [Bool.true_and] at he
        (have we1 := hga; have we2 := hgb; have we3 := h1; refine xwalk3 ?_)
        refine ⟨u.length - (i + 1), _, by omega, ?_, i + 1, by omega, rfl, he, rfl⟩
        refine Ent.env (less_put (less_put (less_put (less_un0 _) ?_) ?_) ?_)
        iterate 3 (· exact xlqi)
    · obtain rfl : i = u.length := by omega
      rw [List.drop_length, hl, List.drop_length] at he
      rw [← he] at hr
      unfold eqPts at hr
      (exact xwalkd)
  · rw [eqPts_len hl]
    refine pcr_byq ok12 hG (n := 56) (rv := [.tmp 4]) fun r hr => ?_; unfold c12 st0
    (exact xwalkd)
theorem pcr_sameparts (hG : Stable G) (u v : List Pt) (hu : ∀ p ∈ u, p.ok) (hv : ∀ p ∈ v, p.ok) (hul : u.length < 1000000) (hvl : v.length < 1000000) : PCr Tryz.prog G 12 [.sl u.length (rptsC u), .sl v.length (rptsC v)] (.bool (eqPts u v)) :=
  pcr_samepartsG hG u v (fun p hp => by have := (hu p hp).few; omega) (fun p hp => by have := (hv p hp).few; omega) hul hvl
theorem pcr_some (hG : Stable G) : PCr Tryz.prog G 10 [] kS.D := by
  unfold kS Kn.D
  simp only [List.length_cons, List.length_nil, List.map_cons, List.map_nil]
  refine pcr_byq ok10 hG (n := 4) (rv := [.cell 0 true 2]) fun r hr => ?_; unfold c10 st0
  (exact xwalkd)
end Go.Proofs.YtgimaioeifnajaaGreatDoorK.LawT10
