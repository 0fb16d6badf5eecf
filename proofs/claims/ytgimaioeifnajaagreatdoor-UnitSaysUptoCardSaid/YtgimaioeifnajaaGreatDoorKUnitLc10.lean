/-
  Units alike, whatever the units; Good, whatever the unit.
-/
import Derived.Test.YtgimaioeifnajaaGreatDoorKIrLib
import Derived.Test.YtgimaioeifnajaaGreatDoorKIrX
import Derived.Test.YtgimaioeifnajaaGreatDoorKUnitLb10
set_option linter.all false
set_option maxHeartbeats 0
namespace Go.Proofs.YtgimaioeifnajaaGreatDoorK.LawT10
open AI NatIr Dig NatT LibT TabT Go.Lib
attribute [local irreducible] awp awpOps
attribute [local go_sem] not_true_eq_false not_false_eq_true eq_self decide_true decide_false beq_self_eq_true Int.reduceAdd nl List.getElem?_cons_zero List.getElem?_cons_succ
variable {G : World → Prop}
theorem pcr_eqatomsG (hG : Stable G) (a b : List At) (ha : a.length < 1000000) (hb : b.length < 1000000) : PCr Tryz.prog G 55 [.sl a.length (atsC a), .sl b.length (atsC b)] (.bool (eqAts a b)) := by
  have hal := atsC_len a
  have hbl := atsC_len b
  by_cases hl : a.length = b.length
  · refine pcr_byq ok55 hG (n := 26) (rv := [.tmp 4]) fun r hr => ?_; unfold c55 st0
    (refine xwalk ?_)
    refine awp_loop (fun j σ => ∃ i, i ≤ a.length ∧ j = a.length - i ∧ eqAts (a.drop i) (b.drop i) = eqAts a b ∧ σ = ⟨(putE (putE (putE (putE un0 (some 0) (.sl a.length (atsC a))) (some 1) (.sl b.length (atsC b))) (some 12) (.int .i64 (a.length : Int))) (some 13) (.int .i64 (i : Int))), []⟩) a.length ?_ ⟨0, Nat.zero_le _, rfl, rfl, rfl⟩ ?_
    · refine Ent.env (less_put (less_put (less_put (less_put (less_un0 _) ?_) ?_) ?_) ?_)
      iterate 4 (· exact xlqi)
    rintro j σ1 ⟨i, hi, rfl, he, rfl⟩
    by_cases hlt : i < a.length
    · have hga := atsC_get hlt
      have hgb := atsC_get (l := b) (i := i) (by omega)
      rw [List.drop_eq_getElem_cons hlt, List.drop_eq_getElem_cons (l := b) (i := i) (by omega), eqAts] at he
      generalize a[i] = x at *
      generalize b[i]'(by omega) = y at *
      have e1 := bas_dec x.pre y.pre
      have e2 := bas_dec x.name y.name
      have e3 : (x.pw == y.pw) = decide (x.pw = y.pw) := rfl
      cases h1 : decide (x.pre = y.pre) with
      | false =>
        rw [h1] at e1 he
        rw [← he] at hr
        simp only [Bool.false_and] at hr
        clear he e2 e3
        (have we1 := hga; have we2 := hgb; have we3 := e1; exact xwalkd3)
      | true =>
      cases h2 : decide (x.name = y.name) with
      | false =>
        rw [h1] at e1 he
        rw [h2] at e2 he
        rw [← he] at hr
        simp only [Bool.false_and, Bool.and_false, Bool.true_and] at hr
        clear he e3
        (have we1 := hga; have we2 := hgb; have we3 := e1; have we4 := e2; exact xwalkd4)
      | true =>
      cases h3 : decide (x.pw = y.pw) with
      | false =>
        rw [h1] at e1 he
        rw [h2] at e2 he
        rw [h3] at e3 he
        rw [← he] at hr
        simp only [Bool.false_and, Bool.and_false, Bool.true_and] at hr
        clear he
        (have we1 := hga; have we2 := hgb; have we3 := e1; have we4 := e2; have we5 := e3; exact xwalkd5)
      | true =>
        rw [h1] at e1 he
        rw [h2] at e2 he
        rw [h3] at e3 he
        simp only [Bool.true_and] at he
        (have we1 := hga; have we2 := hgb; have we3 := e1; have we4 := e2; have we5 := e3; refine xwalk5 ?_)
        refine ⟨a.length - (i + 1), _, by omega, ?_, i + 1, by omega, rfl, he, rfl⟩
        refine Ent.env (less_put (less_put (less_put (less_put (less_un0 _) ?_) ?_) ?_) ?_)
        iterate 4 (· exact xlqi)
    · obtain rfl : i = a.length := by omega
      rw [List.drop_length, hl, List.drop_length] at he
      rw [← he] at hr
      unfold eqAts at hr
      (exact xwalkd)
  · rw [eqAts_len hl]
    have hd : decide ((a.length : Int) = (b.length : Int)) = false := decide_eq_false (by omega)
    refine pcr_byq ok55 hG (n := 26) (rv := [.tmp 4]) fun r hr => ?_; unfold c55 st0
    (exact xwalkd)
def eqWs : List Int → List Int → Bool
  | [], [] => true
  | a :: l, b :: m => decide (a = b) && eqWs l m
  | _, _ => false
theorem eqWs_eq : ∀ {l m : List Int}, eqWs l m = decide (l = m)
  | [], [] => rfl
  | a :: l, b :: m => by
    rw [eqWs, eqWs_eq (l := l) (m := m)]
    by_cases h : a = b
    · subst h; simp
    · simp [h]
  | [], _ :: _ => rfl
  | _ :: _, [] => rfl
theorem eqWs_len : ∀ {l m : List Int}, l.length ≠ m.length → eqWs l m = false
  | [], [], h => absurd rfl h
  | a :: l, b :: m, h => by rw [eqWs, eqWs_len (by simpa using h), Bool.and_false]
  | [], _ :: _, _ => rfl
  | _ :: _, [], _ => rfl
theorem pcr_eqwordsG (hG : Stable G) (a b : List Int) (ha : a.length < 1000000) (hb : b.length < 1000000) : PCr Tryz.prog G 56 [.sl a.length (W a), .sl b.length (W b)] (.bool (eqWs a b)) := by
  by_cases hl : a.length = b.length
  · refine pcr_byq ok56 hG (n := 26) (rv := [.tmp 4]) fun r hr => ?_; unfold c56 st0
    (refine xwalk ?_)
    refine awp_loop (fun j σ => ∃ i, i ≤ a.length ∧ j = a.length - i ∧ eqWs (a.drop i) (b.drop i) = eqWs a b ∧ σ = ⟨(putE (putE (putE (putE un0 (some 0) (.sl a.length (W a))) (some 1) (.sl b.length (W b))) (some 12) (.int .i64 (a.length : Int))) (some 13) (.int .i64 (i : Int))), []⟩) a.length ?_ ⟨0, Nat.zero_le _, rfl, rfl, rfl⟩ ?_
    · refine Ent.env (less_put (less_put (less_put (less_put (less_un0 _) ?_) ?_) ?_) ?_)
      iterate 4 (· exact xlqi)
    rintro j σ1 ⟨i, hi, rfl, he, rfl⟩
    by_cases hlt : i < a.length
    · have hlt2 : i < b.length := by omega
      rw [List.drop_eq_getElem_cons hlt, List.drop_eq_getElem_cons hlt2, eqWs] at he
      have hga : a.getD i 0 = a[i] := by rw [List.getD_eq_getElem?_getD, List.getElem?_eq_getElem hlt]; rfl
      have hgb : b.getD i 0 = b[i] := by rw [List.getD_eq_getElem?_getD, List.getElem?_eq_getElem hlt2]; rfl
      generalize a[i] = x at *
      generalize b[i] = y at *
      by_cases hxy : x = y
      · have h1 : decide (x = y) = true := decide_eq_true hxy
        have h2 : decide (¬ x = y) = false := decide_eq_false (fun h => h hxy)
        rw [h1, Bool.true_and] at he
        (have we1 := hga; have we2 := hgb; have we3 := h1; have we4 := h2; refine xwalk4 ?_)
        refine ⟨a.length - (i + 1), _, by omega, ?_, i + 1, by omega, rfl, he, rfl⟩
        refine Ent.env (less_put (less_put (less_put (less_put (less_un0 _) ?_) ?_) ?_) ?_)
        iterate 4 (· exact xlqi)
      · have h1 : decide (x = y) = false := decide_eq_false hxy
        have h2 : decide (¬ x = y) = true := decide_eq_true hxy
        rw [h1, Bool.false_and] at he
        rw [← he] at hr
        clear he
        (have we1 := hga; have we2 := hgb; have we3 := h1; have we4 := h2; exact xwalkd4)
    · obtain rfl : i = a.length := by omega
      rw [List.drop_length, hl, List.drop_length] at he
      rw [← he] at hr
      unfold eqWs at hr
      (exact xwalkd)
  · rw [eqWs_len hl]
    refine pcr_byq ok56 hG (n := 26) (rv := [.tmp 4]) fun r hr => ?_; unfold c56 st0
    (exact xwalkd)
def eqGP (g h : GP) : Bool := eqAts g.num h.num && (eqAts g.den h.den && eqWs g.x h.x)
theorem pcr_usameG (hG : Stable G) (g h : GP) (h1 : g.num.length < 1000000 ∧ g.den.length < 1000000 ∧ g.x.length < 1000000) (h2 : h.num.length < 1000000 ∧ h.den.length < 1000000 ∧ h.x.length < 1000000) : PCr Tryz.prog G 31 [.agg g.C, .agg h.C] (.bool (eqGP g h)) := by
  have e1 := pcr_eqatomsG (G := G) hG g.num h.num h1.1 h2.1
  have e2 := pcr_eqatomsG (G := G) hG g.den h.den h1.2.1 h2.2.1
  have e3 := pcr_eqwordsG (G := G) hG g.x h.x h1.2.2 h2.2.2
  unfold GP.C eqGP
  cases q1 : eqAts g.num h.num with
  | false =>
    rw [q1] at e1
    rw [Bool.false_and]
    refine pcr_byq ok31 hG (n := 26) (rv := [.tmp 4]) fun r hr => ?_; unfold c31 st0
    (exact xwalkd)
  | true =>
  cases q2 : eqAts g.den h.den with
  | false =>
    rw [q1] at e1
    rw [q2] at e2
    rw [Bool.true_and, Bool.false_and]
    refine pcr_byq ok31 hG (n := 26) (rv := [.tmp 4]) fun r hr => ?_; unfold c31 st0
    (exact xwalkd)
  | true =>
    rw [q1] at e1
    rw [q2] at e2
    rw [Bool.true_and, Bool.true_and]
    generalize eqWs g.x h.x = q3 at *
    refine pcr_byq ok31 hG (n := 26) (rv := [.tmp 4]) fun r hr => ?_; unfold c31 st0
    (exact xwalkd)
def eqGPs : List GP → List GP → Bool
  | [], [] => true
  | a :: l, b :: m => eqGP a b && eqGPs l m
  | _, _ => false
theorem eqGPs_len : ∀ {l m : List GP}, l.length ≠ m.length → eqGPs l m = false
  | [], [], h => absurd rfl h
  | a :: l, b :: m, h => by rw [eqGPs, eqGPs_len (by simpa using h), Bool.and_false]
  | [], _ :: _, _ => rfl
  | _ :: _, [], _ => rfl
theorem pcr_equnitsG (hG : Stable G) (u v : List GP) (hu : ∀ g ∈ u, g.num.length < 1000000 ∧ g.den.length < 1000000 ∧ g.x.length < 1000000) (hv : ∀ g ∈ v, g.num.length < 1000000 ∧ g.den.length < 1000000 ∧ g.x.length < 1000000) (hul : u.length < 1000000) (hvl : v.length < 1000000) : PCr Tryz.prog G 30 [.sl u.length (gpsC u), .sl v.length (gpsC v), .fn 31 []] (.bool (eqGPs u v)) := by
  have hal := gpsC_len u
  have hbl := gpsC_len v
  have hokf : okF Tryz.prog 31 = true := by kernel_rfl
  by_cases hl : u.length = v.length
  · have hsa : ∀ g ∈ u, ∀ h ∈ v, PCr Tryz.prog G 31 [.agg g.C, .agg h.C] (.bool (eqGP g h)) := fun g hg h hh => pcr_usameG hG g h (hu g hg) (hv h hh)
    clear hu hv
    refine pcr_byq ok30 hG (n := 32) (rv := [.tmp 6]) fun r hr => ?_; unfold c30 st0
    (refine xwalk ?_)
    refine awp_loop (fun j σ => ∃ i, i ≤ u.length ∧ j = u.length - i ∧ eqGPs (u.drop i) (v.drop i) = eqGPs u v ∧ σ = ⟨(putE (putE (putE (putE (putE un0 (some 1) (.sl v.length (gpsC v))) (some 2) (.fn 31 [])) (some 15) (.sl u.length (gpsC u))) (some 16) (.int .i64 (u.length : Int))) (some 17) (.int .i64 (i : Int))), []⟩) u.length ?_ ⟨0, Nat.zero_le _, rfl, rfl, rfl⟩ ?_
    · refine Ent.env (less_put (less_put (less_put (less_put (less_put (less_un0 _) ?_) ?_) ?_) ?_) ?_)
      iterate 5 (· exact xlqi)
    rintro j σ1 ⟨i, hi, rfl, he, rfl⟩
    by_cases hlt : i < u.length
    · have hlt2 : i < v.length := by omega
      have hga := gpsC_get hlt
      have hgb := gpsC_get hlt2
      have hss := hsa u[i] (List.getElem_mem hlt) v[i] (List.getElem_mem hlt2)
      rw [List.drop_eq_getElem_cons hlt, List.drop_eq_getElem_cons hlt2, eqGPs] at he
      clear hsa
      generalize u[i] = g at *
      generalize v[i] = h at *
      unfold GP.C at hga hgb hss
      cases q : eqGP g h with
      | false =>
        rw [q] at hss he
        rw [Bool.false_and] at he
        rw [← he] at hr
        clear he
        (have we1 := hga; have we2 := hgb; exact xwalkd2)
      | true =>
        rw [q] at hss he
        rw [Bool.true_and] at he
        (have we1 := hga; have we2 := hgb; refine xwalk2 ?_)
        refine ⟨u.length - (i + 1), _, by omega, ?_, i + 1, by omega, rfl, he, rfl⟩
        refine Ent.cutk 0 (less_put (less_put (less_put (less_put (less_put (less_un0 _) ?_) ?_) ?_) ?_) ?_) trivial (kb_put (kb_put (kb_put (kb_put (kb_put (kb_un0 _) (by simp [kb])) (by simp [kb, kb.kbs])) (by simp [kb])) (by simp [kb])) (by simp [kb])) trivial
        iterate 5 (· exact xlqi)
    · obtain rfl : i = u.length := by omega
      rw [List.drop_length, hl, List.drop_length] at he
      rw [← he] at hr
      unfold eqGPs at hr
      clear hsa
      (exact xwalkd)
  · rw [eqGPs_len hl]
    clear hu hv
    refine pcr_byq ok30 hG (n := 32) (rv := [.tmp 6]) fun r hr => ?_; unfold c30 st0
    (exact xwalkd)
end Go.Proofs.YtgimaioeifnajaaGreatDoorK.LawT10
