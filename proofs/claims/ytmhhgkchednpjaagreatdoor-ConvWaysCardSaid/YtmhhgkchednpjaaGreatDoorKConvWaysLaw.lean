/-
 cubitlaw13.ConvWays answers true.
-/
import Derived.Test.YtmhhgkchednpjaaGreatDoorKIrLConvWays
import Derived.Test.YtmhhgkchednpjaaGreatDoorKAwakeT13
import Derived.Test.YtmhhgkchednpjaaGreatDoorKCa
set_option linter.all false
set_option maxHeartbeats 0
namespace Go.Proofs.YtmhhgkchednpjaaGreatDoorK.LawT13
open AI NatIr DimsT ConvT
attribute [local irreducible] awp awpOps
attribute [local go_sem] not_true_eq_false not_false_eq_true eq_self decide_true beq_self_eq_true
variable {G : World → Prop}
def upG (a b : List Int) (i : Nat) : Bool := (List.range i).all fun j => inD (a.getD j 0) && inD (b.getD j 0)
theorem upG_succ (a b : List Int) (i : Nat) : upG a b (i + 1) = (upG a b i && (inD (a.getD i 0) && inD (b.getD i 0))) := by
 unfold upG
 rw [List.range_succ, List.all_append]
 simp
theorem upG_good {a b : List Int} (ha : a.length = 8) (hb : b.length = 8) (h : upG a b 8 = true) : goodD a = true ∧ goodD b = true := by
 have h1 := List.all_eq_true.1 h
 refine ⟨goodD_of fun i hi => ?_, goodD_of fun i hi => ?_⟩
 ·have := h1 i (List.mem_range.2 (by omega))
  simp only [Bool.and_eq_true, inD_iff] at this
  exact this.1
 ·have := h1 i (List.mem_range.2 (by omega))
  simp only [Bool.and_eq_true, inD_iff] at this
  exact this.2
theorem pcr_ways_law (hG : Stable G) (hT : ∀ w, G w → Lib.TabIs Tryz.prog w "internal/strconv.uint64pow10" .u64 Lib.pow10Tab) (hM : ∀ w, G w → LibT.gMax w)
  (a : List Int) (ha : a.length = 8) (b : List Int) (hb : b.length = 8) : PCr Tryz.prog G 8 [.agg (I a), .agg (I b)] (.bool true) := by
 have haw := pcr_awake hG hT hM
 have h1 := pcr_ways (G := G) hG ha hb (.bool false) (.sl 0 []) (.sl 0 []) (.bool false) (.sl 0 []) (.sl 0 []) (.bool false) (.bool false) (.sl 0 []) (.sl 0 []) (.bool false) (.sl 0 []) (.sl 0 []) (.bool false)
 have h2 := pcr_ways (G := G) hG hb ha (.bool false) (.sl 0 []) (.sl 0 []) (.bool false) (.sl 0 []) (.sl 0 []) (.bool false) (.bool false) (.sl 0 []) (.sl 0 []) (.bool false) (.sl 0 []) (.sl 0 []) (.bool false)
 have hcm := fun (h : upG a b 8 = true) => way_comm (upG_good ha hb h).1 (upG_good ha hb h).2
 have h3 := way3 a b
 have h4 := way3 b a
 have hIa : I a = I a := rfl
 obtain ⟨u, hu⟩ : ∃ u, wayD a b = u := ⟨_, rfl⟩
 obtain ⟨v, hv⟩ : ∃ v, wayD b a = v := ⟨_, rfl⟩
 rw [hu] at h1 h3 hcm
 rw [hv] at h2 h4 hcm
 clear hu hv
 obtain ⟨A, hA⟩ : ∃ A : Nat → Int, ∀ i, a.getD i 0 = A i := ⟨_, fun _ => rfl⟩
 obtain ⟨B, hB⟩ : ∃ A : Nat → Int, ∀ i, b.getD i 0 = A i := ⟨_, fun _ => rfl⟩
 have hsu := upG_succ a b
 have hga := fun i (hi : i < 8) => I_getD (l := a) (i := i) (by omega)
 have hgb := fun i (hi : i < 8) => I_getD (l := b) (i := i) (by omega)
 have hz : upG a b 0 = true := rfl
 simp only [hA, hB] at hsu hga hgb
 generalize upG a b = up at *
 clear hA hB
 obtain ⟨a0, a1, a2, a3, a4, a5, a6, a7, rfl⟩ := eight ha
 obtain ⟨b0, b1, b2, b3, b4, b5, b6, b7, rfl⟩ := eight hb
 simp only [I, List.map_cons, List.map_nil, List.cons_append, List.nil_append] at *
 refine pcr_byq ok8 hG (n := 78) (rv := [.tmp 4]) fun r hr => ?_; unfold c8 st0
 (refine xwalk ?_)
 refine awp_loop (fun m σ => ∃ i, i ≤ 8 ∧ m = 8 - i ∧ σ = ⟨(putE (putE (putE (putE (putE (putE (putE (putE un0 (some 2) (.ptr 0 0 0)) (some 3) (.ptr 1 0 0)) (some 7) (.int .i64 u)) (some 8) (.bool (decide (u ≠ 0)))) (some 9) (.int .i64 v)) (some 10) (.bool (decide (v ≠ 0)))) (some 11) (.bool (up i))) (some 12) (.int .i64 (i : Int))),
   [some (0, 60, 8, [.int .i64 a0, .int .i64 a1, .int .i64 a2, .int .i64 a3, .int .i64 a4, .int .i64 a5, .int .i64 a6, .int .i64 a7]), some (0, 60, 8, [.int .i64 b0, .int .i64 b1, .int .i64 b2, .int .i64 b3, .int .i64 b4, .int .i64 b5, .int .i64 b6, .int .i64 b7])]⟩) 8
  ((Ent.cutk 2 (less_put (less_put (less_put (less_put (less_put (less_put (less_put (less_put (less_un0 _) ?_) ?_) ?_) ?_) ?_) ?_) ?_) ?_) (by exact ⟨.inr rfl, .inr rfl, trivial⟩) (kb_put (kb_put (kb_put (kb_put (kb_put (kb_put (kb_put (kb_put (kb_un0 _) (by simp [kb])) (by simp [kb])) (by simp [kb])) (by simp [kb])) (by simp [kb])) (by simp [kb])) (by simp [kb])) (by simp [kb])) (by simp [kbH, kb.kbs, kb, kbs_W, kbs_SS]))) ⟨0, Nat.zero_le _, rfl, rfl⟩ ?_
 iterate 6 (· exact xlq)
 ·rw [hz]; exact xlq
 ·show _ = D.int .i64 ((0 : Nat) : Int)
  exact xlq
 rintro m σ1 ⟨i, hi, rfl, rfl⟩
 by_cases hlt : i < 8
 ·have e1 := hga i hlt
  have e2 := hgb i hlt
  have e3 := hsu i
  generalize hAi : A i = x at *
  generalize hBi : B i = y at *
  cases hui : up i with
  | false =>
   rw [hui, Bool.false_and] at e3
   (have we1 := hui; have we2 := e1; have we3 := e2; refine xwalk3 ?_)
   refine ⟨8 - (i + 1), _, by omega, Ent.env (less_put (less_put (less_put (less_put (less_put (less_put (less_put (less_put (less_un0 _) ?_) ?_) ?_) ?_) ?_) ?_) ?_) ?_), i + 1, by omega, rfl, rfl⟩
   iterate 6 (· exact xlq)
   ·rw [e3]; exact xlq
   ·exact xlq
  | true =>
   rw [hui, Bool.true_and] at e3
   by_cases c1 : x < -100
   ·have hf : inD x = false := by rw [Bool.eq_false_iff]; intro h; have := inD_iff.1 h; omega
    rw [hf, Bool.false_and] at e3
    (have we1 := hui; have we2 := e1; have we3 := e2; refine xwalk3 ?_)
    refine ⟨8 - (i + 1), _, by omega, Ent.env (less_put (less_put (less_put (less_put (less_put (less_put (less_put (less_put (less_un0 _) ?_) ?_) ?_) ?_) ?_) ?_) ?_) ?_), i + 1, by omega, rfl, rfl⟩
    iterate 6 (· exact xlq)
    ·rw [e3]; exact xlq
    ·exact xlq
   by_cases c2 : 100 < x
   ·have hf : inD x = false := by rw [Bool.eq_false_iff]; intro h; have := inD_iff.1 h; omega
    rw [hf, Bool.false_and] at e3
    (have we1 := hui; have we2 := e1; have we3 := e2; refine xwalk3 ?_)
    refine ⟨8 - (i + 1), _, by omega, Ent.env (less_put (less_put (less_put (less_put (less_put (less_put (less_put (less_put (less_un0 _) ?_) ?_) ?_) ?_) ?_) ?_) ?_) ?_), i + 1, by omega, rfl, rfl⟩
    iterate 6 (· exact xlq)
    ·rw [e3]; exact xlq
    ·exact xlq
   have ht : inD x = true := inD_iff.2 ⟨by omega, by omega⟩
   by_cases c3 : y < -100
   ·have hf : inD y = false := by rw [Bool.eq_false_iff]; intro h; have := inD_iff.1 h; omega
    rw [hf, Bool.and_false] at e3
    (have we1 := hui; have we2 := e1; have we3 := e2; refine xwalk3 ?_)
    refine ⟨8 - (i + 1), _, by omega, Ent.env (less_put (less_put (less_put (less_put (less_put (less_put (less_put (less_put (less_un0 _) ?_) ?_) ?_) ?_) ?_) ?_) ?_) ?_), i + 1, by omega, rfl, rfl⟩
    iterate 6 (· exact xlq)
    ·rw [e3]; exact xlq
    ·exact xlq
   by_cases c4 : 100 < y
   ·have hf : inD y = false := by rw [Bool.eq_false_iff]; intro h; have := inD_iff.1 h; omega
    rw [hf, Bool.and_false] at e3
    (have we1 := hui; have we2 := e1; have we3 := e2; refine xwalk3 ?_)
    refine ⟨8 - (i + 1), _, by omega, Ent.env (less_put (less_put (less_put (less_put (less_put (less_put (less_put (less_put (less_un0 _) ?_) ?_) ?_) ?_) ?_) ?_) ?_) ?_), i + 1, by omega, rfl, rfl⟩
    iterate 6 (· exact xlq)
    ·rw [e3]; exact xlq
    ·exact xlq
   have ht2 : inD y = true := inD_iff.2 ⟨by omega, by omega⟩
   rw [ht, ht2, Bool.true_and] at e3
   (have we1 := hui; have we2 := e1; have we3 := e2; refine xwalk3 ?_)
   refine ⟨8 - (i + 1), _, by omega, Ent.env (less_put (less_put (less_put (less_put (less_put (less_put (less_put (less_put (less_un0 _) ?_) ?_) ?_) ?_) ?_) ?_) ?_) ?_), i + 1, by omega, rfl, rfl⟩
   iterate 6 (· exact xlq)
   ·rw [e3]; exact xlq
   ·exact xlq
 ·obtain rfl : i = 8 := by omega
  cases hui : up 8 with
  | false => (have we1 := hui; exact xwalkd1)
  | true =>
   obtain rfl := hcm hui
   rcases h3 with rfl | rfl | rfl
   all_goals
    simp only [ne_eq, not_true_eq_false, Int.reduceEq, Int.reduceNeg, not_false_eq_true, decide_true, decide_false, Int.one_ne_zero, Int.neg_eq_zero]
    (have we1 := hui; exact xwalkd1)
end Go.Proofs.YtmhhgkchednpjaaGreatDoorK.LawT13
