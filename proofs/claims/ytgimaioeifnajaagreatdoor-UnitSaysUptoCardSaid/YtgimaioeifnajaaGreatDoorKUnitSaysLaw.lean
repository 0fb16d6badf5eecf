/-
  cubitlaw10.UnitSays answers true, of what is not too long.
-/
import Derived.Test.YtgimaioeifnajaaGreatDoorKIrLUnitSays
import Derived.Test.YtgimaioeifnajaaGreatDoorKUnitLd10
set_option linter.all false
set_option maxHeartbeats 0
namespace Go.Proofs.YtgimaioeifnajaaGreatDoorK.LawT10
open AI NatIr Dig NatT LibT TabT Go.Lib
attribute [local irreducible] awp awpOps
attribute [local go_sem] not_true_eq_false not_false_eq_true eq_self decide_true decide_false beq_self_eq_true Int.reduceAdd nl List.getElem?_cons_zero List.getElem?_cons_succ
variable {G : World → Prop}
theorem eqGPs_says : ∀ {u : List GP} {v : List Pt}, (∀ g ∈ u, ok 4294967296 g.x) → eqGPs u (v.map ptG) = (eqPts v (u.map GP.pt) && u.all goodX)
  | [], [], _ => rfl
  | [], _ :: _, _ => rfl
  | _ :: _, [], _ => rfl
  | g :: u, p :: v, h => by
    rw [List.map_cons, List.map_cons, eqGPs, eqPts, List.all_cons, eqG_one (h g List.mem_cons_self), eqGPs_says (u := u) (v := v) (fun x hx => h x (List.mem_cons_of_mem _ hx))]
    show ((decide (txt p.c = txt g.pt.c) && (eqAts p.num g.num && eqAts p.den g.den)) && goodX g && (eqPts v (u.map GP.pt) && u.all goodX)) = ((decide (txt p.c = txt g.pt.c) && (eqAts p.num g.num && eqAts p.den g.den)) && eqPts v (u.map GP.pt) && (goodX g && u.all goodX))
    generalize (decide (txt p.c = txt g.pt.c) && (eqAts p.num g.num && eqAts p.den g.den)) = a
    generalize eqPts v (u.map GP.pt) = b
    generalize u.all goodX = c
    generalize goodX g = d
    cases a <;> cases b <;> cases c <;> cases d <;> rfl
structure InG (g : GP) : Prop where
  num : g.num.length ≤ 9223372036854775807
  den : g.den.length ≤ 9223372036854775807
  xl : g.x.length ≤ 9223372036854775807
  xs : ok 4294967296 g.x
  fits : g.pt.fits
theorem kS_fits : kS.fits := ⟨by decide, by decide, by decide⟩
theorem pcr_says_law (hG : Stable G) (hT : ∀ w, G w → Lib.TabIs Tryz.prog w "internal/strconv.uint64pow10" .u64 Lib.pow10Tab) (hM : ∀ w, G w → gMax w) (s : ByteArray) (hs : s.size ≤ 9223372036854775807) (u : List GP) (hu : ∀ g ∈ u, InG g) (hul : u.length ≤ 9223372036854775807) :
    PCr Tryz.prog G 5 [.str s, .agg [.sl u.length (gpsC u)]] (.bool true) := by
  have haw := pcr_awake (G := G) hG hT hM
  have h0 := pcr_some (G := G) hG
  have hko := pcr_knownof (G := G) hG kS
  obtain ⟨ks, hks⟩ : ∃ ks, kS.D = .agg ks := ⟨_, rfl⟩
  have hki : ks.all D.imm = true := by
    have : D.agg ks = kS.D := hks.symm
    unfold kS Kn.D at this
    cases this
    rfl
  have hgi := gpsC_imm u
  have hgl := gpsC_len u
  have hsm := pcr_usmall (G := G) hG u hul (fun g hg => ⟨(hu g hg).num, (hu g hg).den, (hu g hg).xl⟩)
  by_cases h3 : 300 < s.size
  · have hd300 : decide ((s.size : Int) > 300) = true := decide_eq_true (by omega)
    clear h0 hko hsm
    refine pcr_byq ok5 hG (n := 102) (rv := [.tmp 4]) fun r hr => ?_; unfold c5 st0
    (have we1 := hd300; exact xwalkd1)
  have hd300 : decide ((s.size : Int) > 300) = false := decide_eq_false (by omega)
  cases hq : (decide (u.length ≤ 8) && u.all smallP) with
  | false =>
    rw [hq] at hsm
    clear h0 hko
    refine pcr_byq ok5 hG (n := 102) (rv := [.tmp 4]) fun r hr => ?_; unfold c5 st0
    (have we1 := hd300; have we2 := hgi; exact xwalkd2)
  | true =>
  rw [hq] at hsm
  rw [Bool.and_eq_true, decide_eq_true_eq, List.all_eq_true] at hq
  obtain ⟨hu8, hq⟩ := hq
  have hmay : ∀ g ∈ u, g.may := fun g hg => by
    have h1 := hq g hg
    unfold smallP at h1
    simp only [Bool.and_eq_true, decide_eq_true_eq] at h1
    exact ⟨by omega, by omega, (hu g hg).xs, h1.2.2, (hu g hg).fits⟩
  have h1 := pcr_uparse (G := G) hG hT hM kS s kS_len.1 kS_len.2 (by omega)
  have h2 := pcr_rparse (G := G) hG kS s kS_fits (by omega)
  have p1 := pcr_partsofG (G := G) hG hT u hmay (by omega)
  have p2 := pcr_ushowG (G := G) hG hT u hmay (by omega)
  have p3 := pcr_rshowunit (G := G) hG (u.map GP.pt) (mays_pt hmay) (by rw [List.length_map]; omega)
  rw [List.length_map] at p3
  have hsz := shU_size (mays_pt hmay) (by rw [List.length_map]; omega) (u.map GP.pt).length
  rw [List.take_length] at hsz
  have p4 := pcr_rparseG (G := G) hG kS (shU (u.map GP.pt)) kS_fits (by omega)
  have p5 := pcr_ugoodG (G := G) hG hT hM kS u kS_len.1 kS_len.2 hmay (by omega)
  have hgd : ∀ g ∈ u, PCr Tryz.prog G 19 [.agg [.sl g.x.length (W g.x)]] (.bool (goodX g)) := fun g hg => pcr_good (G := G) hG g.x _ rfl (by have := (hmay g hg).x6; omega)
  have hqi : (rptsC (u.map GP.pt)).all D.imm = true := rptsC_imm _
  have hql : (rptsC (u.map GP.pt)).length = u.length * 3 := by rw [rptsC_len, List.length_map]
  change PCr Tryz.prog G _ [.sl u.length (rptsC (u.map GP.pt))] _ at p3
  unfold goodA at p5
  have hsame := fun v => eqGPs_says (u := u) (v := v) (fun g hg => (hu g hg).xs)
  have hlu : ∀ p ∈ u.map GP.pt, p.num.length < 1000000 ∧ p.den.length < 1000000 := fun p hp => by
    have := mays_pt hmay p hp
    have h1 := this.num
    have h2 := this.den
    omega
  have g6 := fun v h1 h2 => pcr_samepartsG (G := G) hG v (u.map GP.pt) h1 hlu h2 (by rw [List.length_map]; omega)
  have key : ∃ (v2 : List Pt) (e2 : Int) (b0 : Bool), PCr Tryz.prog G 16 [kS.D, .str (shU (u.map GP.pt))] (.tup [.sl v2.length (rptsC v2), .int .i64 e2]) ∧ PCr Tryz.prog G 14 [kS.D, .agg [.sl u.length (gpsC u)]] (.bool (b0 && u.all goodX)) ∧ ((e2 ≠ 0 ∧ b0 = false ∧ v2 = []) ∨ (e2 = 0 ∧ PCr Tryz.prog G 12 [.sl v2.length (rptsC v2), .sl u.length (rptsC (u.map GP.pt))] (.bool b0))) := by
    cases h : unitA kS (shU (u.map GP.pt)) with
    | error e =>
      rw [h] at p4 p5
      exact ⟨[], e, false, p4, p5, .inl ⟨unit_err' h, rfl, rfl⟩⟩
    | ok v =>
      obtain ⟨_, h2, _, h4, h5⟩ := unitA_ok h
      rw [h] at p4 p5
      have g7 := g6 v (fun p hp => by have := (h4 p hp).few; omega) (by omega)
      rw [List.length_map] at g7
      dsimp only at p5
      rw [hsame v] at p5
      exact ⟨v, 0, eqPts v (u.map GP.pt), p4, p5, .inr ⟨rfl, g7⟩⟩
  have key1 : ∃ (v : List Pt) (e : Int), PCr Tryz.prog G 9 [kS.D, .str s] (.tup [.agg [.sl v.length (ptsC v)], .int .i64 e]) ∧ PCr Tryz.prog G 16 [kS.D, .str s] (.tup [.sl v.length (rptsC v), .int .i64 e]) ∧ PCr Tryz.prog G 13 [.agg [.sl v.length (ptsC v)]] (.sl v.length (rptsC v)) ∧ PCr Tryz.prog G 12 [.sl v.length (rptsC v), .sl v.length (rptsC v)] (.bool true) ∧ (e = 0 ∨ (e ≠ 0 ∧ v = [])) ∧ v.length < 1000000 := by
    cases h : unitA kS s with
    | error e =>
      rw [h] at h1 h2
      have g3 := pcr_partsof (G := G) hG hT [] (fun p hp => by cases hp) (by decide)
      have g5 := pcr_samepartsG (G := G) hG [] [] (fun p hp => by cases hp) (fun p hp => by cases hp) (by decide) (by decide)
      exact ⟨[], e, h1, h2, g3, g5, .inr ⟨unit_err' h, rfl⟩, by decide⟩
    | ok v =>
      obtain ⟨_, h5, _, h4, h6⟩ := unitA_ok h
      rw [h] at h1 h2
      have g3 := pcr_partsof (G := G) hG hT v h4 (by omega)
      have g5 := pcr_sameparts (G := G) hG v v h4 h4 (by omega) (by omega)
      rw [eqPts_self] at g5
      exact ⟨v, 0, h1, h2, g3, g5, .inl rfl, by omega⟩
  clear h1 h2 p4 p5 g6 hsame hlu
  obtain ⟨v, e, h1, h2, g3, g5, hve, hvl⟩ := key1
  obtain ⟨v2, e2, b0, p4, p5, hv2⟩ := key
  have hvi := ptsC_imm v
  have hvn := ptsC_len v
  have hri := rptsC_imm v
  have hrn := rptsC_len v
  have hei := rptsC_imm v2
  rw [hks] at h0 hko h1 h2 p4 p5
  clear hmay hu hq hsz
  generalize shU (u.map GP.pt) = S at *
  generalize rptsC (u.map GP.pt) = RU at *
  rcases hve with rfl | ⟨he, rfl⟩
  · rcases hv2 with ⟨he2, rfl, rfl⟩ | ⟨rfl, g6⟩
    · refine pcr_byq ok5 hG (n := 102) (rv := [.tmp 4]) fun r hr => ?_; unfold c5 st0
      (have we1 := hki; have we2 := hd300; have we3 := hvi; have we4 := hri; have we5 := hgi; have we6 := hqi; have we7 := hei; refine xwalk7 ?_)
      refine awp_loop (fun j σ => ∃ i : Nat, i ≤ u.length ∧ j = u.length - i ∧ σ = ⟨(putE (putE (putE un0 (some 3) (.ptr 0 0 0)) (some 13) (.bool ((false : Bool) && (u.take i).all goodX))) (some 14) (.int .i64 (i : Int))), [some (0, 25, 1, [.sl u.length (gpsC u)])]⟩) u.length ?_ ⟨0, Nat.zero_le _, rfl, rfl⟩ ?_
      · rw [List.take_zero, List.all_nil, Bool.and_true]
        refine Ent.cutk 1 (less_put (less_put (less_put (less_un0 _) ?_) ?_) ?_) ⟨.inr rfl, trivial⟩ (kb_put (kb_put (kb_put (kb_un0 _) (by simp [kb])) (by simp [kb])) (by simp [kb])) ⟨by simp [kb.kbs, kb], trivial⟩
        iterate 3 (· exact xlqi)
      rintro j σ1 ⟨i, hi, rfl, rfl⟩
      by_cases hlt : i < u.length
      · have hget := gpsC_get hlt
        have hng := hgd u[i] (List.getElem_mem hlt)
        have hst : (u.take (i + 1)).all goodX = ((u.take i).all goodX && goodX u[i]) := by rw [List.take_succ_eq_append_getElem hlt, List.all_append, List.all_cons, List.all_nil, Bool.and_true]
        clear hgd
        generalize u[i] = g at *
        unfold GP.C at hget
        cases hb : ((false : Bool) && (u.take i).all goodX) with
        | false =>
          (have we1 := hget; refine xwalk1 ?_)
          refine ⟨u.length - (i + 1), _, by omega, ?_, i + 1, by omega, rfl, rfl⟩
          rw [hst, ← Bool.and_assoc, hb, Bool.false_and]
          refine Ent.cutk 1 (less_put (less_put (less_put (less_un0 _) ?_) ?_) ?_) ⟨.inr rfl, trivial⟩ (kb_put (kb_put (kb_put (kb_un0 _) (by simp [kb])) (by simp [kb])) (by simp [kb])) ⟨by simp [kb.kbs, kb], trivial⟩
          iterate 3 (· exact xlqi)
        | true =>
          (have we1 := hget; refine xwalk1 ?_)
          refine ⟨u.length - (i + 1), _, by omega, ?_, i + 1, by omega, rfl, rfl⟩
          rw [hst, ← Bool.and_assoc, hb, Bool.true_and]
          refine Ent.cutk 1 (less_put (less_put (less_put (less_un0 _) ?_) ?_) ?_) ⟨.inr rfl, trivial⟩ (kb_put (kb_put (kb_put (kb_un0 _) (by simp [kb])) (by simp [kb])) (by simp [kb])) ⟨by simp [kb.kbs, kb], trivial⟩
          iterate 3 (· exact xlqi)
      · obtain rfl : i = u.length := by omega
        rw [List.take_length]
        generalize ((false : Bool) && u.all goodX) = q at *
        cases q with
        | false => (have we1 := hki; have we2 := hgi; exact xwalkd2)
        | true => (have we1 := hki; have we2 := hgi; exact xwalkd2)
    · refine pcr_byq ok5 hG (n := 102) (rv := [.tmp 4]) fun r hr => ?_; unfold c5 st0
      (have we1 := hki; have we2 := hd300; have we3 := hvi; have we4 := hri; have we5 := hgi; have we6 := hqi; have we7 := hei; refine xwalk7 ?_)
      refine awp_loop (fun j σ => ∃ i : Nat, i ≤ u.length ∧ j = u.length - i ∧ σ = ⟨(putE (putE (putE un0 (some 3) (.ptr 0 0 0)) (some 13) (.bool (b0 && (u.take i).all goodX))) (some 14) (.int .i64 (i : Int))), [some (0, 25, 1, [.sl u.length (gpsC u)])]⟩) u.length ?_ ⟨0, Nat.zero_le _, rfl, rfl⟩ ?_
      · rw [List.take_zero, List.all_nil, Bool.and_true]
        refine Ent.cutk 1 (less_put (less_put (less_put (less_un0 _) ?_) ?_) ?_) ⟨.inr rfl, trivial⟩ (kb_put (kb_put (kb_put (kb_un0 _) (by simp [kb])) (by simp [kb])) (by simp [kb])) ⟨by simp [kb.kbs, kb], trivial⟩
        iterate 3 (· exact xlqi)
      rintro j σ1 ⟨i, hi, rfl, rfl⟩
      by_cases hlt : i < u.length
      · have hget := gpsC_get hlt
        have hng := hgd u[i] (List.getElem_mem hlt)
        have hst : (u.take (i + 1)).all goodX = ((u.take i).all goodX && goodX u[i]) := by rw [List.take_succ_eq_append_getElem hlt, List.all_append, List.all_cons, List.all_nil, Bool.and_true]
        clear hgd
        generalize u[i] = g at *
        unfold GP.C at hget
        cases hb : (b0 && (u.take i).all goodX) with
        | false =>
          (have we1 := hget; refine xwalk1 ?_)
          refine ⟨u.length - (i + 1), _, by omega, ?_, i + 1, by omega, rfl, rfl⟩
          rw [hst, ← Bool.and_assoc, hb, Bool.false_and]
          refine Ent.cutk 1 (less_put (less_put (less_put (less_un0 _) ?_) ?_) ?_) ⟨.inr rfl, trivial⟩ (kb_put (kb_put (kb_put (kb_un0 _) (by simp [kb])) (by simp [kb])) (by simp [kb])) ⟨by simp [kb.kbs, kb], trivial⟩
          iterate 3 (· exact xlqi)
        | true =>
          (have we1 := hget; refine xwalk1 ?_)
          refine ⟨u.length - (i + 1), _, by omega, ?_, i + 1, by omega, rfl, rfl⟩
          rw [hst, ← Bool.and_assoc, hb, Bool.true_and]
          refine Ent.cutk 1 (less_put (less_put (less_put (less_un0 _) ?_) ?_) ?_) ⟨.inr rfl, trivial⟩ (kb_put (kb_put (kb_put (kb_un0 _) (by simp [kb])) (by simp [kb])) (by simp [kb])) ⟨by simp [kb.kbs, kb], trivial⟩
          iterate 3 (· exact xlqi)
      · obtain rfl : i = u.length := by omega
        rw [List.take_length]
        generalize (b0 && u.all goodX) = q at *
        cases q with
        | false => (have we1 := hki; have we2 := hgi; exact xwalkd2)
        | true => (have we1 := hki; have we2 := hgi; exact xwalkd2)
  · rcases hv2 with ⟨he2, rfl, rfl⟩ | ⟨rfl, g6⟩
    · refine pcr_byq ok5 hG (n := 102) (rv := [.tmp 4]) fun r hr => ?_; unfold c5 st0
      (have we1 := hki; have we2 := hd300; have we3 := hvi; have we4 := hri; have we5 := hgi; have we6 := hqi; have we7 := hei; refine xwalk7 ?_)
      refine awp_loop (fun j σ => ∃ i : Nat, i ≤ u.length ∧ j = u.length - i ∧ σ = ⟨(putE (putE (putE un0 (some 3) (.ptr 0 0 0)) (some 13) (.bool ((false : Bool) && (u.take i).all goodX))) (some 14) (.int .i64 (i : Int))), [some (0, 25, 1, [.sl u.length (gpsC u)])]⟩) u.length ?_ ⟨0, Nat.zero_le _, rfl, rfl⟩ ?_
      · rw [List.take_zero, List.all_nil, Bool.and_true]
        refine Ent.cutk 1 (less_put (less_put (less_put (less_un0 _) ?_) ?_) ?_) ⟨.inr rfl, trivial⟩ (kb_put (kb_put (kb_put (kb_un0 _) (by simp [kb])) (by simp [kb])) (by simp [kb])) ⟨by simp [kb.kbs, kb], trivial⟩
        iterate 3 (· exact xlqi)
      rintro j σ1 ⟨i, hi, rfl, rfl⟩
      by_cases hlt : i < u.length
      · have hget := gpsC_get hlt
        have hng := hgd u[i] (List.getElem_mem hlt)
        have hst : (u.take (i + 1)).all goodX = ((u.take i).all goodX && goodX u[i]) := by rw [List.take_succ_eq_append_getElem hlt, List.all_append, List.all_cons, List.all_nil, Bool.and_true]
        clear hgd
        generalize u[i] = g at *
        unfold GP.C at hget
        cases hb : ((false : Bool) && (u.take i).all goodX) with
        | false =>
          (have we1 := hget; refine xwalk1 ?_)
          refine ⟨u.length - (i + 1), _, by omega, ?_, i + 1, by omega, rfl, rfl⟩
          rw [hst, ← Bool.and_assoc, hb, Bool.false_and]
          refine Ent.cutk 1 (less_put (less_put (less_put (less_un0 _) ?_) ?_) ?_) ⟨.inr rfl, trivial⟩ (kb_put (kb_put (kb_put (kb_un0 _) (by simp [kb])) (by simp [kb])) (by simp [kb])) ⟨by simp [kb.kbs, kb], trivial⟩
          iterate 3 (· exact xlqi)
        | true =>
          (have we1 := hget; refine xwalk1 ?_)
          refine ⟨u.length - (i + 1), _, by omega, ?_, i + 1, by omega, rfl, rfl⟩
          rw [hst, ← Bool.and_assoc, hb, Bool.true_and]
          refine Ent.cutk 1 (less_put (less_put (less_put (less_un0 _) ?_) ?_) ?_) ⟨.inr rfl, trivial⟩ (kb_put (kb_put (kb_put (kb_un0 _) (by simp [kb])) (by simp [kb])) (by simp [kb])) ⟨by simp [kb.kbs, kb], trivial⟩
          iterate 3 (· exact xlqi)
      · obtain rfl : i = u.length := by omega
        rw [List.take_length]
        generalize ((false : Bool) && u.all goodX) = q at *
        cases q with
        | false => (have we1 := hki; have we2 := hgi; exact xwalkd2)
        | true => (have we1 := hki; have we2 := hgi; exact xwalkd2)
    · refine pcr_byq ok5 hG (n := 102) (rv := [.tmp 4]) fun r hr => ?_; unfold c5 st0
      (have we1 := hki; have we2 := hd300; have we3 := hvi; have we4 := hri; have we5 := hgi; have we6 := hqi; have we7 := hei; refine xwalk7 ?_)
      refine awp_loop (fun j σ => ∃ i : Nat, i ≤ u.length ∧ j = u.length - i ∧ σ = ⟨(putE (putE (putE un0 (some 3) (.ptr 0 0 0)) (some 13) (.bool (b0 && (u.take i).all goodX))) (some 14) (.int .i64 (i : Int))), [some (0, 25, 1, [.sl u.length (gpsC u)])]⟩) u.length ?_ ⟨0, Nat.zero_le _, rfl, rfl⟩ ?_
      · rw [List.take_zero, List.all_nil, Bool.and_true]
        refine Ent.cutk 1 (less_put (less_put (less_put (less_un0 _) ?_) ?_) ?_) ⟨.inr rfl, trivial⟩ (kb_put (kb_put (kb_put (kb_un0 _) (by simp [kb])) (by simp [kb])) (by simp [kb])) ⟨by simp [kb.kbs, kb], trivial⟩
        iterate 3 (· exact xlqi)
      rintro j σ1 ⟨i, hi, rfl, rfl⟩
      by_cases hlt : i < u.length
      · have hget := gpsC_get hlt
        have hng := hgd u[i] (List.getElem_mem hlt)
        have hst : (u.take (i + 1)).all goodX = ((u.take i).all goodX && goodX u[i]) := by rw [List.take_succ_eq_append_getElem hlt, List.all_append, List.all_cons, List.all_nil, Bool.and_true]
        clear hgd
        generalize u[i] = g at *
        unfold GP.C at hget
        cases hb : (b0 && (u.take i).all goodX) with
        | false =>
          (have we1 := hget; refine xwalk1 ?_)
          refine ⟨u.length - (i + 1), _, by omega, ?_, i + 1, by omega, rfl, rfl⟩
          rw [hst, ← Bool.and_assoc, hb, Bool.false_and]
          refine Ent.cutk 1 (less_put (less_put (less_put (less_un0 _) ?_) ?_) ?_) ⟨.inr rfl, trivial⟩ (kb_put (kb_put (kb_put (kb_un0 _) (by simp [kb])) (by simp [kb])) (by simp [kb])) ⟨by simp [kb.kbs, kb], trivial⟩
          iterate 3 (· exact xlqi)
        | true =>
          (have we1 := hget; refine xwalk1 ?_)
          refine ⟨u.length - (i + 1), _, by omega, ?_, i + 1, by omega, rfl, rfl⟩
          rw [hst, ← Bool.and_assoc, hb, Bool.true_and]
          refine Ent.cutk 1 (less_put (less_put (less_put (less_un0 _) ?_) ?_) ?_) ⟨.inr rfl, trivial⟩ (kb_put (kb_put (kb_put (kb_un0 _) (by simp [kb])) (by simp [kb])) (by simp [kb])) ⟨by simp [kb.kbs, kb], trivial⟩
          iterate 3 (· exact xlqi)
      · obtain rfl : i = u.length := by omega
        rw [List.take_length]
        generalize (b0 && u.all goodX) = q at *
        cases q with
        | false => (have we1 := hki; have we2 := hgi; exact xwalkd2)
        | true => (have we1 := hki; have we2 := hgi; exact xwalkd2)
end Go.Proofs.YtgimaioeifnajaaGreatDoorK.LawT10
