/-
  The laws' helpers, whatever the unit.
-/
import Derived.Test.YtgimaioeifnajaaGreatDoorKIrLaw10
import Derived.Test.YtgimaioeifnajaaGreatDoorKUnitL10
import Derived.Test.YtgimaioeifnajaaGreatDoorKUniZ
set_option linter.all false
set_option maxHeartbeats 0
namespace Go.Proofs.YtgimaioeifnajaaGreatDoorK.LawT10
open AI NatIr Dig NatT LibT TabT Go.Lib
attribute [local irreducible] awp awpOps
attribute [local go_sem] not_true_eq_false not_false_eq_true eq_self decide_true decide_false beq_self_eq_true Int.reduceAdd nl List.getElem?_cons_zero List.getElem?_cons_succ
variable {G : World → Prop}
theorem pcr_partofG (hG : Stable G) (hT : ∀ w, G w → Lib.TabIs Tryz.prog w "internal/strconv.uint64pow10" .u64 Lib.pow10Tab) (g : GP) (h : g.may) : PCr Tryz.prog G 29 [.agg g.C] (.agg (rpC g.pt)) := by
  have h1 := pcr_atomsof (G := G) hG g.num (by have := h.num; omega)
  have h2 := pcr_atomsof (G := G) hG g.den (by have := h.den; omega)
  have hcn : Nm 6 (vl 4294967296 g.x) (.agg [.sl g.x.length (W g.x)]) := ⟨g.x, _, rfl, h.xs, rfl, h.x6, rfl⟩
  have h3 := pcr_textN (G := G) hG hT hcn (by omega)
  have hi1 := atsC_imm g.num
  have hi2 := atsC_imm g.den
  have hi3 := W_imm g.x
  rw [show (⟨(decDigits (vl 4294967296 g.x)).toArray⟩ : ByteArray) = txt (vl 4294967296 g.x) from rfl] at h3
  clear hcn
  obtain ⟨num, den, x⟩ := g
  unfold GP.C rpC GP.pt
  dsimp only at *
  generalize txt (vl 4294967296 x) = t at *
  clear h
  refine pcr_byq ok29 hG (n := 13) (rv := [.cell 2 true 3]) fun r hr => ?_; unfold c29 st0
  (exact xwalkd)
theorem pcr_partsofG (hG : Stable G) (hT : ∀ w, G w → Lib.TabIs Tryz.prog w "internal/strconv.uint64pow10" .u64 Lib.pow10Tab) (u : List GP) (hu : ∀ g ∈ u, g.may) (hl : u.length < 1000000) : PCr Tryz.prog G 13 [.agg [.sl u.length (gpsC u)]] (.sl u.length (rptsC (u.map GP.pt))) := by
  have hpl := gpsC_len u
  have hao : ∀ g ∈ u, PCr Tryz.prog G 29 [.agg g.C] (.agg (rpC g.pt)) := fun g hg => pcr_partofG (G := G) hG hT g (hu g hg)
  clear hu
  refine pcr_byq ok13 hG (n := 22) (rv := [.tmp 2]) fun r hr => ?_; unfold c13 st0
  (refine xwalk ?_)
  refine awp_loop (fun j σ => ∃ i v, i ≤ u.length ∧ j = u.length - i ∧ σ = ⟨(putE (putE (putE un0 (some 1) (.ptr 0 0 0)) (some 3) (.own 1 v 0 i)) (some 4) (.int .i64 (i : Int))), [some (0, 25, 1, [.sl u.length (gpsC u)]), some (v, 71, 3, rptsC ((u.take i).map GP.pt))]⟩) u.length ?_ ⟨0, 0, Nat.zero_le _, rfl, rfl⟩ ?_
  · refine Ent.trans (Ent.nils (s := 3) 71 3 rfl) (by simp) ?_
    refine Ent.cutk 2 (less_put (less_put (less_put (less_un0 _) ?_) ?_) ?_) ⟨.inr rfl, .inr rfl, trivial⟩ (kb_put (kb_put (kb_put (kb_un0 _) (by simp [kb])) (by simp [kb])) (by simp [kb])) ⟨by simp [kb.kbs, kb], kbs_of_imm (rptsC_imm _), trivial⟩
    iterate 3 (· exact xlqi)
  rintro j σ1 ⟨i, v, hi, rfl, rfl⟩
  by_cases hlt : i < u.length
  · have hget := gpsC_get hlt
    have hac : (rptsC ((u.take i).map GP.pt)).length = i * 3 := by rw [rptsC_len, List.length_map, List.length_take]; congr 1; omega
    have hap : rptsC ((u.take i).map GP.pt) ++ rpC (GP.pt u[i]) = rptsC ((u.take (i + 1)).map GP.pt) := by rw [List.take_succ_eq_append_getElem hlt, List.map_append, rptsC_app]; simp [rptsC]
    have hai := hao u[i] (List.getElem_mem hlt)
    clear hao
    generalize u[i] = p at *
    unfold GP.C at hget hai
    unfold rpC at hap hai
    (have we1 := hget; have we2 := hac; have we3 := hap; refine xwalk3 ?_)
    refine ⟨u.length - (i + 1), _, by omega, ?_, i + 1, v + 1, by omega, rfl, rfl⟩
    refine Ent.cutk 2 (less_put (less_put (less_put (less_un0 _) ?_) ?_) ?_) ⟨.inr rfl, .inr rfl, trivial⟩ (kb_put (kb_put (kb_put (kb_un0 _) (by simp [kb])) (by simp [kb])) (by simp [kb])) ⟨by simp [kb.kbs, kb], kbs_of_imm (rptsC_imm _), trivial⟩
    iterate 3 (· exact xlqi)
  · obtain rfl : i = u.length := by omega
    rw [List.take_length]
    have hal : (rptsC (u.map GP.pt)).length = u.length * 3 := by rw [rptsC_len, List.length_map]
    have htk : (rptsC (u.map GP.pt)).take (u.length * 3) = rptsC (u.map GP.pt) := List.take_of_length_le (by omega)
    have hai := rptsC_imm (u.map GP.pt)
    clear hao
    (have we1 := hal; have we2 := htk; have we3 := hai; exact xwalkd3)
theorem pcr_knownof (hG : Stable G) (k : Kn) : PCr Tryz.prog G 17 [k.D] k.D := by
  have h1 := strs_imm k.names
  have h2 := strs_imm k.prefs
  unfold Kn.D
  refine pcr_byq ok17 hG (n := 8) (rv := [.cell 2 true 2]) fun r hr => ?_; unfold c17 st0
  (exact xwalkd)
def smallP (g : GP) : Bool := decide (g.num.length ≤ 12) && (decide (g.den.length ≤ 12) && decide (g.x.length ≤ 6))
theorem pcr_usmall (hG : Stable G) (u : List GP) (hl : u.length ≤ 9223372036854775807) (hls : ∀ g ∈ u, g.num.length ≤ 9223372036854775807 ∧ g.den.length ≤ 9223372036854775807 ∧ g.x.length ≤ 9223372036854775807) : PCr Tryz.prog G 15 [.agg [.sl u.length (gpsC u)]] (.bool (decide (u.length ≤ 8) && u.all smallP)) := by
  have hpl := gpsC_len u
  by_cases h8 : u.length > 8
  · rw [decide_eq_false (show ¬ u.length ≤ 8 by omega), Bool.false_and]
    refine pcr_byq ok15 hG (n := 38) (rv := [.tmp 2]) fun r hr => ?_; unfold c15 st0
    (exact xwalkd)
  rw [decide_eq_true (show u.length ≤ 8 by omega), Bool.true_and]
  refine pcr_byq ok15 hG (n := 38) (rv := [.tmp 2]) fun r hr => ?_; unfold c15 st0
  (refine xwalk ?_)
  refine awp_loop (fun j σ => ∃ i : Nat, i ≤ u.length ∧ j = u.length - i ∧ (u.drop i).all smallP = u.all smallP ∧ σ = ⟨(putE (putE un0 (some 1) (.ptr 0 0 0)) (some 3) (.int .i64 (i : Int))), [some (0, 25, 1, [.sl u.length (gpsC u)])]⟩) u.length ?_ ⟨0, Nat.zero_le _, rfl, rfl, rfl⟩ ?_
  · refine Ent.env (less_put (less_put (less_un0 _) ?_) ?_)
    iterate 2 (· exact xlqi)
  rintro j σ1 ⟨i, hi, rfl, he, rfl⟩
  by_cases hlt : i < u.length
  · have hget := gpsC_get hlt
    have hg := hls u[i] (List.getElem_mem hlt)
    rw [List.drop_eq_getElem_cons hlt, List.all_cons] at he
    clear hls
    generalize u[i] = g at *
    unfold GP.C at hget
    rw [show smallP g = (decide (g.num.length ≤ 12) && (decide (g.den.length ≤ 12) && decide (g.x.length ≤ 6))) from rfl] at he
    by_cases c1 : g.num.length ≤ 12
    · have d1 : decide ((g.num.length : Int) > 12) = false := decide_eq_false (by omega)
      by_cases c2 : g.den.length ≤ 12
      · have d2 : decide ((g.den.length : Int) > 12) = false := decide_eq_false (by omega)
        by_cases c3 : g.x.length ≤ 6
        · have d3 : decide ((g.x.length : Int) > 6) = false := decide_eq_false (by omega)
          rw [decide_eq_true c1, decide_eq_true c2, decide_eq_true c3, Bool.true_and, Bool.true_and, Bool.true_and] at he
          (have we1 := hget; have we2 := d1; have we3 := d2; have we4 := d3; refine xwalk4 ?_)
          refine ⟨u.length - (i + 1), _, by omega, ?_, i + 1, by omega, rfl, he, rfl⟩
          refine Ent.cutk 1 (less_put (less_put (less_un0 _) ?_) ?_) ⟨.inr rfl, trivial⟩ (kb_put (kb_put (kb_un0 _) (by simp [kb])) (by simp [kb])) ⟨by simp [kb.kbs, kb], trivial⟩
          iterate 2 (· exact xlqi)
        · have d3 : decide ((g.x.length : Int) > 6) = true := decide_eq_true (by omega)
          rw [decide_eq_false c3, Bool.and_false, Bool.and_false, Bool.false_and] at he
          rw [← he] at hr
          clear he
          (have we1 := hget; have we2 := d1; have we3 := d2; have we4 := d3; exact xwalkd4)
      · have d2 : decide ((g.den.length : Int) > 12) = true := decide_eq_true (by omega)
        rw [decide_eq_false c2, Bool.false_and, Bool.and_false, Bool.false_and] at he
        rw [← he] at hr
        clear he
        (have we1 := hget; have we2 := d1; have we3 := d2; exact xwalkd3)
    · have d1 : decide ((g.num.length : Int) > 12) = true := decide_eq_true (by omega)
      rw [decide_eq_false c1, Bool.false_and, Bool.false_and] at he
      rw [← he] at hr
      clear he
      (have we1 := hget; have we2 := d1; exact xwalkd2)
  · obtain rfl : i = u.length := by omega
    rw [List.drop_length, List.all_nil] at he
    rw [← he] at hr
    clear hls
    (exact xwalkd)
end Go.Proofs.YtgimaioeifnajaaGreatDoorK.LawT10
