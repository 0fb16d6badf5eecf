/-
 Joined: ConvA, ConvR, ConvP.
-/
import Derived.Test.YtmhhgkchednpjaaGreatDoorKIrX
import Derived.Test.YtmhhgkchednpjaaGreatDoorKDa
import Derived.Test.YtmhhgkchednpjaaGreatDoorKQa
import Derived.Test.YtmhhgkchednpjaaGreatDoorKIrCubitref6
import Derived.Test.YtmhhgkchednpjaaGreatDoorKRefQ
set_option linter.all false
set_option maxHeartbeats 0
/-
 Package conv: which way, and to what: what the functions compute.
-/
namespace Go.Proofs.YtmhhgkchednpjaaGreatDoorK.ConvT
open AI NatIr Dig NatT NumT RatT DimsT
attribute [local irreducible] awp awpOps
attribute [local go_sem] nl ZD
attribute [local go_sem] QD
attribute [local go_sem] not_true_eq_false not_false_eq_true eq_self decide_true
variable {G : World → Prop} {a b : List Int}
theorem eight (h : a.length = 8) : ∃ a0 a1 a2 a3 a4 a5 a6 a7 : Int, a = [a0, a1, a2, a3, a4, a5, a6, a7] := by
 match a, h with
 | [a0, a1, a2, a3, a4, a5, a6, a7], _ => exact ⟨a0, a1, a2, a3, a4, a5, a6, a7, rfl⟩
def negD (a : List Int) : List Int := if goodD a && a.all (okn (-1)) then mulD a (-1) else z8
theorem negD_len (h : a.length = 8) : (negD a).length = 8 := by
 unfold negD
 split
 ·rw [mulD_len, h]
 ·rfl
theorem negD_good (h : goodD a = true) : negD a = mulD a (-1) := by rw [negD, neg_ok h, if_pos rfl]
def wayD (a b : List Int) : Int := if a = b then 1 else if a = negD b ∧ negD a = b then -1 else 0
theorem pcr_ways (hG : Stable G) (ha : a.length = 8) (hb : b.length = 8) (x0 x1 x2 x3 x4 x5 x6 y0 y1 y2 y3 y4 y5 y6 : D) :
  PCr Tryz.prog G 42 [.agg (I a ++ [x0, x1, x2, x3, x4, x5, x6]), .agg (I b ++ [y0, y1, y2, y3, y4, y5, y6])] (.tup [.int .i64 (wayD a b), .bool (decide (wayD a b ≠ 0))]) := by
 have h1 := pcr_same hG ha hb
 have h2 := pcr_neg hG hb
 have h3 := pcr_neg hG ha
 rw [show (if goodD b && b.all (okn (-1)) then mulD b (-1) else z8) = negD b from rfl] at h2
 rw [show (if goodD a && a.all (okn (-1)) then mulD a (-1) else z8) = negD a from rfl] at h3
 have hnb := negD_len hb
 have hna := negD_len ha
 have h4 := pcr_same hG ha hnb
 have h5 := pcr_same hG hna hb
 unfold wayD
 generalize negD b = nb at *
 generalize negD a = na at *
 obtain ⟨p0, p1, p2, p3, p4, p5, p6, p7, rfl⟩ := eight hna
 obtain ⟨q0, q1, q2, q3, q4, q5, q6, q7, rfl⟩ := eight hnb
 by_cases e1 : a = b
 ·rw [decide_eq_true e1] at h1
  rw [if_pos e1]
  obtain ⟨a0, a1, a2, a3, a4, a5, a6, a7, rfl⟩ := eight ha
  obtain ⟨b0, b1, b2, b3, b4, b5, b6, b7, rfl⟩ := eight hb
  simp only [I, List.map_cons, List.map_nil] at *
  refine pcr_byq ok42 hG (n := 27) (rv := [.tmp 4, .tmp 5]) fun r hr => ?_; unfold c42 st0
  (exact xwalkd)
 ·rw [decide_eq_false e1] at h1
  rw [if_neg e1]
  by_cases e2 : a = [q0, q1, q2, q3, q4, q5, q6, q7]
  ·rw [decide_eq_true e2] at h4
   by_cases e3 : [p0, p1, p2, p3, p4, p5, p6, p7] = b
   ·rw [decide_eq_true e3] at h5
    rw [if_pos ⟨e2, e3⟩]
    clear e1 e2 e3
    obtain ⟨a0, a1, a2, a3, a4, a5, a6, a7, rfl⟩ := eight ha
    obtain ⟨b0, b1, b2, b3, b4, b5, b6, b7, rfl⟩ := eight hb
    simp only [I, List.map_cons, List.map_nil] at *
    refine pcr_byq ok42 hG (n := 27) (rv := [.tmp 4, .tmp 5]) fun r hr => ?_; unfold c42 st0
    (exact xwalkd)
   ·rw [decide_eq_false e3] at h5
    rw [if_neg (fun h => e3 h.2)]
    clear e1 e2 e3
    obtain ⟨a0, a1, a2, a3, a4, a5, a6, a7, rfl⟩ := eight ha
    obtain ⟨b0, b1, b2, b3, b4, b5, b6, b7, rfl⟩ := eight hb
    simp only [I, List.map_cons, List.map_nil] at *
    refine pcr_byq ok42 hG (n := 27) (rv := [.tmp 4, .tmp 5]) fun r hr => ?_; unfold c42 st0
    (exact xwalkd)
  ·rw [decide_eq_false e2] at h4
   rw [if_neg (fun h => e2 h.1)]
   clear e1 e2
   obtain ⟨a0, a1, a2, a3, a4, a5, a6, a7, rfl⟩ := eight ha
   obtain ⟨b0, b1, b2, b3, b4, b5, b6, b7, rfl⟩ := eight hb
   simp only [I, List.map_cons, List.map_nil] at *
   refine pcr_byq ok42 hG (n := 27) (rv := [.tmp 4, .tmp 5]) fun r hr => ?_; unfold c42 st0
   (exact xwalkd)
theorem way3 (a b : List Int) : wayD a b = 0 ∨ wayD a b = -1 ∨ wayD a b = 1 := by
 unfold wayD
 split
 ·exact .inr (.inr rfl)
 ·split
  ·exact .inr (.inl rfl)
  ·exact .inl rfl
variable {L M : Nat} {q fa oa fb ob : Rat} {d da db : D} {ha hb : Bool}
end Go.Proofs.YtmhhgkchednpjaaGreatDoorK.ConvT
/-
 The document's conversion: Ways, Do: what they compute; plain laws of ways.
-/
namespace Go.Proofs.YtmhhgkchednpjaaGreatDoorK.ConvT
open AI NatIr Dig NatT NumT RatT RefT DimsT
attribute [local irreducible] awp awpOps
attribute [local go_sem] V_getD V_set V_take V_drop V_imm V_one V_app V_app1 V_repl V_get1 V_length M List.length_append
attribute [local go_sem] nl ZD MZ
attribute [local go_sem] QD MQ
attribute [local go_sem] not_true_eq_false not_false_eq_true eq_self decide_true
variable {G : World → Prop} {a b c : List Int}
theorem negD_negD (h : goodD a = true) : negD (negD a) = a := by
 rw [negD_good (a := negD a) (by rw [negD_good h]; exact neg_good h), negD_good h, neg_neg]
theorem way_good (ha : goodD a = true) (hb : goodD b = true) : wayD a b = if a = b then 1 else if a = negD b then -1 else 0 := by
 unfold wayD
 by_cases h1 : a = b
 ·rw [if_pos h1, if_pos h1]
 ·rw [if_neg h1, if_neg h1]
  by_cases h2 : a = negD b
  ·rw [if_pos ⟨h2, by rw [h2, negD_negD hb]⟩, if_pos h2]
  ·rw [if_neg (fun h => h2 h.1), if_neg h2]
theorem way_comm (ha : goodD a = true) (hb : goodD b = true) : wayD a b = wayD b a := by
 rw [way_good ha hb, way_good hb ha]
 by_cases h1 : a = b
 ·rw [if_pos h1, if_pos h1.symm]
 ·have h1' : ¬ b = a := fun h => h1 h.symm
  rw [if_neg h1, if_neg h1']
  by_cases h2 : a = negD b
  ·have h2' : b = negD a := by rw [h2, negD_negD hb]
   rw [if_pos h2, if_pos h2']
  ·have h2' : ¬ b = negD a := fun h => h2 (by rw [h, negD_negD ha])
   rw [if_neg h2, if_neg h2']
variable {L K : Nat} {q fa oa fb ob : Rat} {d d1 d2 d3 d4 : D} {ha hb : Bool}
end Go.Proofs.YtmhhgkchednpjaaGreatDoorK.ConvT
/-
 Converted there and back, and on: plainly.
-/
namespace Go.Proofs.YtmhhgkchednpjaaGreatDoorK.ConvT
open AI RatT DimsT
variable {a b c : List Int} {q r m n fa oa fb ob fc oc : Rat} {ha hb hc : Bool} {L K : Nat} {d d1 d2 d3 d4 : D}
end Go.Proofs.YtmhhgkchednpjaaGreatDoorK.ConvT
