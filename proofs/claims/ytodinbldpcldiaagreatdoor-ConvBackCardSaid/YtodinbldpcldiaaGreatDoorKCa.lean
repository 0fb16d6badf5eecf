/-
 Joined: ConvA, ConvR, ConvP.
-/
import Derived.Test.YtodinbldpcldiaaGreatDoorKIrX
import Derived.Test.YtodinbldpcldiaaGreatDoorKDa
import Derived.Test.YtodinbldpcldiaaGreatDoorKQa
import Derived.Test.YtodinbldpcldiaaGreatDoorKIrCubitref6
import Derived.Test.YtodinbldpcldiaaGreatDoorKRefQ
set_option linter.all false
set_option maxHeartbeats 0
/-
 Package conv: which way, and to what: what the functions compute.
-/
namespace Go.Proofs.YtodinbldpcldiaaGreatDoorK.ConvT
open AI NatIr Dig NatT NumT RatT DimsT
attribute [local irreducible] awp awpOps
attribute [local go_sem] nl ZD
attribute [local go_sem] QD
attribute [local go_sem] not_true_eq_false not_false_eq_true eq_self decide_true
variable {G : World → Prop} {a b : List Int}
theorem eight (h : a.length = 8) : ∃ a0 a1 a2 a3 a4 a5 a6 a7 : Int, a = [a0, a1, a2, a3, a4, a5, a6, a7] := by
 match a, h with
 | [a0, a1, a2, a3, a4, a5, a6, a7], _ => exact ⟨a0, a1, a2, a3, a4, a5, a6, a7, rfl⟩
def negD (a : List Int) : List Int := if goodD a && a.all (okn (-1)) then mulD a (-1) else z8
theorem negD_len (h : a.length = 8) : (negD a).length = 8 := by
 unfold negD
 split
 ·rw [mulD_len, h]
 ·rfl
theorem negD_good (h : goodD a = true) : negD a = mulD a (-1) := by rw [negD, neg_ok h, if_pos rfl]
def wayD (a b : List Int) : Int := if a = b then 1 else if a = negD b ∧ negD a = b then -1 else 0
theorem pcr_ways (hG : Stable G) (ha : a.length = 8) (hb : b.length = 8) (x0 x1 x2 x3 x4 x5 x6 y0 y1 y2 y3 y4 y5 y6 : D) :
  PCr Tryz.prog G 9 [.agg (I a ++ [x0, x1, x2, x3, x4, x5, x6]), .agg (I b ++ [y0, y1, y2, y3, y4, y5, y6])] (.tup [.int .i64 (wayD a b), .bool (decide (wayD a b ≠ 0))]) := by
 have h1 := pcr_same hG ha hb
 have h2 := pcr_neg hG hb
 have h3 := pcr_neg hG ha
 rw [show (if goodD b && b.all (okn (-1)) then mulD b (-1) else z8) = negD b from rfl] at h2
 rw [show (if goodD a && a.all (okn (-1)) then mulD a (-1) else z8) = negD a from rfl] at h3
 have hnb := negD_len hb
 have hna := negD_len ha
 have h4 := pcr_same hG ha hnb
 have h5 := pcr_same hG hna hb
 unfold wayD
 generalize negD b = nb at *
 generalize negD a = na at *
 obtain ⟨p0, p1, p2, p3, p4, p5, p6, p7, rfl⟩ := eight hna
 obtain ⟨q0, q1, q2, q3, q4, q5, q6, q7, rfl⟩ := eight hnb
 by_cases e1 : a = b
 ·rw [decide_eq_true e1] at h1
  rw [if_pos e1]
  obtain ⟨a0, a1, a2, a3, a4, a5, a6, a7, rfl⟩ := eight ha
  obtain ⟨b0, b1, b2, b3, b4, b5, b6, b7, rfl⟩ := eight hb
  simp only [I, List.map_cons, List.map_nil] at *
  refine pcr_byq ok9 hG (n := 27) (rv := [.tmp 4, .tmp 5]) fun r hr => ?_; unfold c9 st0
  (exact xwalkd)
 ·rw [decide_eq_false e1] at h1
  rw [if_neg e1]
  by_cases e2 : a = [q0, q1, q2, q3, q4, q5, q6, q7]
  ·rw [decide_eq_true e2] at h4
   by_cases e3 : [p0, p1, p2, p3, p4, p5, p6, p7] = b
   ·rw [decide_eq_true e3] at h5
    rw [if_pos ⟨e2, e3⟩]
    clear e1 e2 e3
    obtain ⟨a0, a1, a2, a3, a4, a5, a6, a7, rfl⟩ := eight ha
    obtain ⟨b0, b1, b2, b3, b4, b5, b6, b7, rfl⟩ := eight hb
    simp only [I, List.map_cons, List.map_nil] at *
    refine pcr_byq ok9 hG (n := 27) (rv := [.tmp 4, .tmp 5]) fun r hr => ?_; unfold c9 st0
    (exact xwalkd)
   ·rw [decide_eq_false e3] at h5
    rw [if_neg (fun h => e3 h.2)]
    clear e1 e2 e3
    obtain ⟨a0, a1, a2, a3, a4, a5, a6, a7, rfl⟩ := eight ha
    obtain ⟨b0, b1, b2, b3, b4, b5, b6, b7, rfl⟩ := eight hb
    simp only [I, List.map_cons, List.map_nil] at *
    refine pcr_byq ok9 hG (n := 27) (rv := [.tmp 4, .tmp 5]) fun r hr => ?_; unfold c9 st0
    (exact xwalkd)
  ·rw [decide_eq_false e2] at h4
   rw [if_neg (fun h => e2 h.1)]
   clear e1 e2
   obtain ⟨a0, a1, a2, a3, a4, a5, a6, a7, rfl⟩ := eight ha
   obtain ⟨b0, b1, b2, b3, b4, b5, b6, b7, rfl⟩ := eight hb
   simp only [I, List.map_cons, List.map_nil] at *
   refine pcr_byq ok9 hG (n := 27) (rv := [.tmp 4, .tmp 5]) fun r hr => ?_; unfold c9 st0
   (exact xwalkd)
def smD (v : List Int) (b1 : Bool) (n1 : Nat) (c1 : List D) (m1 : Nat) (e1 : List D) (b2 : Bool) (n2 : Nat) (c2 : List D) (m2 : Nat) (e2 : List D) (h : Bool) : D :=
 .agg (I v ++ [.bool b1, .sl n1 c1, .sl m1 e1, .bool b2, .sl n2 c2, .sl m2 e2, .bool h])
def Sm (L : Nat) (v : List Int) (f o : Rat) (h : Bool) (d : D) : Prop := v.length = 8 ∧ ∃ (b1 : Bool) (n1 : Nat) (c1 : List D) (m1 : Nat) (e1 : List D) (b2 : Bool) (n2 : Nat) (c2 : List D) (m2 : Nat) (e2 : List D),
 Qm L f (.agg [.bool b1, .sl n1 c1, .sl m1 e1]) ∧ Qm L o (.agg [.bool b2, .sl n2 c2, .sl m2 e2]) ∧ d = smD v b1 n1 c1 m1 e1 b2 n2 c2 m2 e2 h
theorem sm_mk {L : Nat} {v : List Int} {f o : Rat} {d e : D} {x y z x' y' z' : D} (hv : v.length = 8) (h : Bool) (hf : Qm L f d) (ho : Qm L o e) (hd : d = .agg [x, y, z]) (he : e = .agg [x', y', z']) : Sm L v f o h (.agg (I v ++ [x, y, z, x', y', z', .bool h])) := by
 obtain ⟨b1, X1, Y1, n1, m1, c1, e1, _, _, _, h1⟩ := hf.row
 obtain ⟨b2, X2, Y2, n2, m2, c2, e2, _, _, _, h2⟩ := ho.row
 rw [hd] at h1
 rw [he] at h2
 cases h1
 cases h2
 exact ⟨hv, b1, n1, c1, m1, e1, b2, n2, c2, m2, e2, hd ▸ hf, he ▸ ho, rfl⟩
theorem pcr_offset (hG : Stable G) (ha : a.length = 8) {b1 : Bool} {n1 : Nat} {c1 : List D} {m1 : Nat} {e1 : List D} {b2 : Bool} {n2 : Nat} {c2 : List D} {m2 : Nat} {e2 : List D} {h : Bool} :
  PCr Tryz.prog G 37 [smD a b1 n1 c1 m1 e1 b2 n2 c2 m2 e2 h] (if h then .agg [.bool b2, .sl n2 c2, .sl m2 e2] else QD 0) := by
 have h1 := RatT.pcr_int hG 0 (by omega) (by omega)
 rw [show ((0 : Int) : Rat) = 0 from rfl] at h1
 unfold smD
 obtain ⟨a0, a1, a2, a3, a4, a5, a6, a7, rfl⟩ := eight ha
 simp only [I, List.map_cons, List.map_nil, List.cons_append, List.nil_append]
 cases h
 ·refine pcr_byq ok37 hG (n := 9) (rv := [.cell 2 true 3]) fun r hr => ?_; unfold c37 st0
  (exact xwalkd)
 ·rw [if_pos rfl]
  refine pcr_byq ok37 hG (n := 9) (rv := [.cell 2 true 3]) fun r hr => ?_; unfold c37 st0
  (exact xwalkd)
def doQ (q : Rat) (a b : List Int) (fa oa : Rat) (ha : Bool) (fb ob : Rat) (hb : Bool) : Rat × Int :=
 if wayD a b = 0 then (0, 5) else if wayD a b < 0 then (if (ha || hb) = true then (0, 6) else if q * (fa * fb) = 0 then (0, 4) else ((q * (fa * fb))⁻¹, 0))
 else ((q * fa + (if ha then oa else 0) + -(if hb then ob else 0)) * fb⁻¹, 0)
theorem way3 (a b : List Int) : wayD a b = 0 ∨ wayD a b = -1 ∨ wayD a b = 1 := by
 unfold wayD
 split
 ·exact .inr (.inr rfl)
 ·split
  ·exact .inr (.inl rfl)
  ·exact .inl rfl
variable {L M : Nat} {q fa oa fb ob : Rat} {d da db : D} {ha hb : Bool}
theorem pcr_do (hG : Stable G) (hq : Qm L q d) (hsa : Sm M a fa oa ha da) (hsb : Sm M b fb ob hb db) (hL : L < 2000) (hM : M < 2000) :
  PCr Tryz.prog G 11 [d, da, db] (.tup [QD (doQ q a b fa oa ha fb ob hb).1, .int .i64 (doQ q a b fa oa ha fb ob hb).2]) := by
 obtain ⟨hla, ba1, na1, ca1, ma1, ea1, ba2, na2, ca2, ma2, ea2, hfa, hoa, rfl⟩ := hsa
 obtain ⟨hlb, bb1, nb1, cb1, mb1, eb1, bb2, nb2, cb2, mb2, eb2, hfb, hob, rfl⟩ := hsb
 have hw := pcr_ways hG hla hlb (.bool ba1) (.sl na1 ca1) (.sl ma1 ea1) (.bool ba2) (.sl na2 ca2) (.sl ma2 ea2) (.bool ha) (.bool bb1) (.sl nb1 cb1) (.sl mb1 eb1) (.bool bb2) (.sl nb2 cb2) (.sl mb2 eb2) (.bool hb)
 have h0 := RatT.pcr_int hG 0 (by omega) (by omega)
 rw [show ((0 : Int) : Rat) = 0 from rfl] at h0
 unfold doQ
 rcases way3 a b with hz | hz | hz
 ·rw [hz] at hw ⊢
  rw [show decide ((0 : Int) ≠ 0) = false from rfl] at hw
  rw [if_pos rfl]
  unfold smD at *
  obtain ⟨a0, a1, a2, a3, a4, a5, a6, a7, rfl⟩ := eight hla
  obtain ⟨b0, b1, b2, b3, b4, b5, b6, b7, rfl⟩ := eight hlb
  obtain ⟨bq, Xq, Yq, nq, mq, cq, eq, _, _, _, rfl⟩ := hq.row
  simp only [I, List.map_cons, List.map_nil, List.cons_append, List.nil_append] at *
  refine pcr_byq ok11 hG (n := 68) (rv := [.cell 6 true 3, .tmp 7]) fun r hr => ?_; unfold c11 st0
  (exact xwalkd)
 ·rw [hz] at hw ⊢
  rw [show decide ((-1 : Int) ≠ 0) = true from rfl] at hw
  rw [if_neg (by decide), if_pos (by decide)]
  cases ha with
  | true =>
   rw [if_pos (by rfl)]
   unfold smD at *
   obtain ⟨a0, a1, a2, a3, a4, a5, a6, a7, rfl⟩ := eight hla
   obtain ⟨b0, b1, b2, b3, b4, b5, b6, b7, rfl⟩ := eight hlb
   obtain ⟨bq, Xq, Yq, nq, mq, cq, eq, _, _, _, rfl⟩ := hq.row
   simp only [I, List.map_cons, List.map_nil, List.cons_append, List.nil_append] at *
   refine pcr_byq ok11 hG (n := 68) (rv := [.cell 6 true 3, .tmp 7]) fun r hr => ?_; unfold c11 st0
   (exact xwalkd)
  | false =>
  cases hb with
  | true =>
   rw [if_pos (by rfl)]
   unfold smD at *
   obtain ⟨a0, a1, a2, a3, a4, a5, a6, a7, rfl⟩ := eight hla
   obtain ⟨b0, b1, b2, b3, b4, b5, b6, b7, rfl⟩ := eight hlb
   obtain ⟨bq, Xq, Yq, nq, mq, cq, eq, _, _, _, rfl⟩ := hq.row
   simp only [I, List.map_cons, List.map_nil, List.cons_append, List.nil_append] at *
   refine pcr_byq ok11 hG (n := 68) (rv := [.cell 6 true 3, .tmp 7]) fun r hr => ?_; unfold c11 st0
   (exact xwalkd)
  | false =>
  rw [if_neg (by decide)]
  have hm1 := RatT.pcr_mul hG hfa hfb (by omega) (by omega)
  have hx1 := qm_mul hfa hfb
  have hm2 := RatT.pcr_mul hG hq hx1 (by omega) (by omega)
  have hx2 := qm_mul hq hx1
  by_cases hz0 : q * (fa * fb) = 0
  ·rw [if_pos hz0]
   rw [hz0] at hx2 hm2
   have hi := RatT.pcr_inv0 hG (L := L + (M + M)) hx2 (by omega)
   unfold smD at *
   obtain ⟨a0, a1, a2, a3, a4, a5, a6, a7, rfl⟩ := eight hla
   obtain ⟨b0, b1, b2, b3, b4, b5, b6, b7, rfl⟩ := eight hlb
   obtain ⟨bq, Xq, Yq, nq, mq, cq, eq, _, _, _, rfl⟩ := hq.row
   simp only [I, List.map_cons, List.map_nil, List.cons_append, List.nil_append] at *
   refine pcr_byq ok11 hG (n := 68) (rv := [.cell 6 true 3, .tmp 7]) fun r hr => ?_; unfold c11 st0
   (exact xwalkd)
  ·rw [if_neg hz0]
   have hi := RatT.pcr_inv hG hx2 (by omega) hz0
   unfold smD at *
   obtain ⟨a0, a1, a2, a3, a4, a5, a6, a7, rfl⟩ := eight hla
   obtain ⟨b0, b1, b2, b3, b4, b5, b6, b7, rfl⟩ := eight hlb
   obtain ⟨bq, Xq, Yq, nq, mq, cq, eq, _, _, _, rfl⟩ := hq.row
   simp only [I, List.map_cons, List.map_nil, List.cons_append, List.nil_append] at *
   refine pcr_byq ok11 hG (n := 68) (rv := [.cell 6 true 3, .tmp 7]) fun r hr => ?_; unfold c11 st0
   (exact xwalkd)
 ·rw [hz] at hw ⊢
  rw [show decide ((1 : Int) ≠ 0) = true from rfl] at hw
  rw [if_neg (by decide), if_neg (by decide)]
  have ho1 := pcr_offset (G := G) hG hla (b1 := ba1) (n1 := na1) (c1 := ca1) (m1 := ma1) (e1 := ea1) (b2 := ba2) (n2 := na2) (c2 := ca2) (m2 := ma2) (e2 := ea2) (h := ha)
  have ho2 := pcr_offset (G := G) hG hlb (b1 := bb1) (n1 := nb1) (c1 := cb1) (m1 := mb1) (e1 := eb1) (b2 := bb2) (n2 := nb2) (c2 := cb2) (m2 := mb2) (e2 := eb2) (h := hb)
  have hoa' : ∃ x dx, (if ha = true then oa else 0) = x ∧ (if ha = true then D.agg [.bool ba2, .sl na2 ca2, .sl ma2 ea2] else QD 0) = dx ∧ Qm (M + 1) x dx := by
   refine ⟨_, _, rfl, rfl, ?_⟩
   cases ha
   ·exact qm_zero.up (by omega)
   ·exact hoa.up (by omega)
  have hob' : ∃ x dx, (if hb = true then ob else 0) = x ∧ (if hb = true then D.agg [.bool bb2, .sl nb2 cb2, .sl mb2 eb2] else QD 0) = dx ∧ Qm (M + 1) x dx := by
   refine ⟨_, _, rfl, rfl, ?_⟩
   cases hb
   ·exact qm_zero.up (by omega)
   ·exact hob.up (by omega)
  obtain ⟨x, dx, hx, hdx, hqx⟩ := hoa'
  obtain ⟨y, dy, hy, hdy, hqy⟩ := hob'
  rw [hx, hy]
  rw [hdx] at ho1
  rw [hdy] at ho2
  have hm1 := RatT.pcr_mul hG hq hfa (by omega) (by omega)
  have hx1 := qm_mul hq hfa
  have hm2 := RatT.pcr_add hG hx1 hqx (by omega) (by omega)
  have hx2 := qm_add hx1 hqx
  have hm3 := RatT.pcr_neg hG hqy (by omega)
  have hx3 := qm_neg hqy
  have hm4 := RatT.pcr_add hG hx2 hx3 (by omega) (by omega)
  have hx4 := qm_add hx2 hx3
  obtain ⟨ok, hi⟩ : ∃ ok, PCr Tryz.prog G 34 [.agg [.bool bb1, .sl nb1 cb1, .sl mb1 eb1]] (.tup [QD fb⁻¹, .bool ok]) := by
   by_cases h : fb = 0
   ·subst h
    refine ⟨false, ?_⟩
    rw [Rat.inv_zero]
    exact RatT.pcr_inv0 hG hfb (by omega)
   ·exact ⟨true, RatT.pcr_inv hG hfb (by omega) h⟩
  have hm5 := RatT.pcr_mul hG hx4 (qm_inv hfb) (by omega) (by omega)
  clear hx hy hdx hdy
  obtain ⟨_, _, _, _, _, _, _, _, _, _, rfl⟩ := hqx.row
  obtain ⟨_, _, _, _, _, _, _, _, _, _, rfl⟩ := hqy.row
  unfold smD at *
  obtain ⟨a0, a1, a2, a3, a4, a5, a6, a7, rfl⟩ := eight hla
  obtain ⟨b0, b1, b2, b3, b4, b5, b6, b7, rfl⟩ := eight hlb
  obtain ⟨bq, Xq, Yq, nq, mq, cq, eq, _, _, _, rfl⟩ := hq.row
  simp only [I, List.map_cons, List.map_nil, List.cons_append, List.nil_append] at *
  refine pcr_byq ok11 hG (n := 68) (rv := [.cell 6 true 3, .tmp 7]) fun r hr => ?_; unfold c11 st0
  (exact xwalkd)
end Go.Proofs.YtodinbldpcldiaaGreatDoorK.ConvT
/-
 The document's conversion: Ways, Do: what they compute; plain laws of ways.
-/
namespace Go.Proofs.YtodinbldpcldiaaGreatDoorK.ConvT
open AI NatIr Dig NatT NumT RatT RefT DimsT
attribute [local irreducible] awp awpOps
attribute [local go_sem] V_getD V_set V_take V_drop V_imm V_one V_app V_app1 V_repl V_get1 V_length M List.length_append
attribute [local go_sem] nl ZD MZ
attribute [local go_sem] QD MQ
attribute [local go_sem] not_true_eq_false not_false_eq_true eq_self decide_true
variable {G : World → Prop} {a b c : List Int}
theorem negD_negD (h : goodD a = true) : negD (negD a) = a := by
 rw [negD_good (a := negD a) (by rw [negD_good h]; exact neg_good h), negD_good h, neg_neg]
theorem way_good (ha : goodD a = true) (hb : goodD b = true) : wayD a b = if a = b then 1 else if a = negD b then -1 else 0 := by
 unfold wayD
 by_cases h1 : a = b
 ·rw [if_pos h1, if_pos h1]
 ·rw [if_neg h1, if_neg h1]
  by_cases h2 : a = negD b
  ·rw [if_pos ⟨h2, by rw [h2, negD_negD hb]⟩, if_pos h2]
  ·rw [if_neg (fun h => h2 h.1), if_neg h2]
theorem way_comm (ha : goodD a = true) (hb : goodD b = true) : wayD a b = wayD b a := by
 rw [way_good ha hb, way_good hb ha]
 by_cases h1 : a = b
 ·rw [if_pos h1, if_pos h1.symm]
 ·have h1' : ¬ b = a := fun h => h1 h.symm
  rw [if_neg h1, if_neg h1']
  by_cases h2 : a = negD b
  ·have h2' : b = negD a := by rw [h2, negD_negD hb]
   rw [if_pos h2, if_pos h2']
  ·have h2' : ¬ b = negD a := fun h => h2 (by rw [h, negD_negD ha])
   rw [if_neg h2, if_neg h2']
def smR (v : List Int) (f o : Rat) (h : Bool) : D := .agg (I v ++ [.bool (ng f.num), M f.num.natAbs, M f.den, .bool (ng o.num), M o.num.natAbs, M o.den, .bool h])
def wayR (a b : List Int) : Int := if a = b then 1 else if goodD b = true ∧ a = negD b then -1 else 0
theorem wayR_good (ha : goodD a = true) (hb : goodD b = true) : wayR a b = wayD a b := by
 rw [way_good ha hb, wayR]
 by_cases h1 : a = b
 ·rw [if_pos h1, if_pos h1]
 ·rw [if_neg h1, if_neg h1]
  by_cases h2 : a = negD b
  ·rw [if_pos ⟨hb, h2⟩, if_pos h2]
  ·rw [if_neg (fun h => h2 h.2), if_neg h2]
theorem pcr_rways (hG : Stable G) (ha : a.length = 8) (hb : b.length = 8) (f o f' o' : Rat) (h h' : Bool) : PCr Tryz.prog G 10 [smR a f o h, smR b f' o' h'] (.int .i64 (wayR a b)) := by
 have h1 := pcr_goodv (G := G) hG hb
 have h2 := pcr_negv (G := G) hG hb
 rw [show (if goodD b && b.all (okn (-1)) then mulD b (-1) else z8) = negD b from rfl] at h2
 have hnb := negD_len hb
 have e1 := IEq (a := a) (b := b) (by omega)
 have e2 := IEq (a := a) (b := negD b) (by omega)
 unfold wayR
 generalize negD b = nb at *
 generalize goodD b = gb at *
 obtain ⟨r1, hr1⟩ : ∃ r, decide (a = b) = r := ⟨_, rfl⟩
 obtain ⟨r2, hr2⟩ : ∃ r, decide (a = nb) = r := ⟨_, rfl⟩
 rw [hr1] at e1
 rw [hr2] at e2
 have hres : (if a = b then (1 : Int) else if gb = true ∧ a = nb then -1 else 0) = (if r1 = true then 1 else if gb = true ∧ r2 = true then -1 else 0) := by
  subst hr1 hr2
  simp only [decide_eq_true_eq]
 rw [hres]
 clear hres hr1 hr2
 unfold smR
 obtain ⟨a0, a1, a2, a3, a4, a5, a6, a7, rfl⟩ := eight ha
 obtain ⟨b0, b1, b2, b3, b4, b5, b6, b7, rfl⟩ := eight hb
 obtain ⟨n0, n1, n2, n3, n4, n5, n6, n7, rfl⟩ := eight hnb
 simp only [I, List.map_cons, List.map_nil, List.cons_append, List.nil_append] at *
 cases r1
 ·cases gb
  ·rw [if_neg (by decide), if_neg (fun h => Bool.noConfusion h.1)]
   refine pcr_byq ok10 hG (n := 21) (rv := [.tmp 4]) fun r hr => ?_; unfold c10 st0
   (have we1 := e1; have we2 := e2; exact xwalkd2)
  ·cases r2
   ·rw [if_neg (by decide), if_neg (fun h => Bool.noConfusion h.2)]
    refine pcr_byq ok10 hG (n := 21) (rv := [.tmp 4]) fun r hr => ?_; unfold c10 st0
    (have we1 := e1; have we2 := e2; exact xwalkd2)
   ·rw [if_neg (by decide), if_pos ⟨rfl, rfl⟩]
    refine pcr_byq ok10 hG (n := 21) (rv := [.tmp 4]) fun r hr => ?_; unfold c10 st0
    (have we1 := e1; have we2 := e2; exact xwalkd2)
 ·rw [if_pos rfl]
  refine pcr_byq ok10 hG (n := 21) (rv := [.tmp 4]) fun r hr => ?_; unfold c10 st0
  (have we1 := e1; have we2 := e2; exact xwalkd2)
variable {L K : Nat} {q fa oa fb ob : Rat} {d d1 d2 d3 d4 : D} {ha hb : Bool}
theorem num_sign_zero {q : Rat} : q.num.sign = 0 ↔ q = 0 := by rw [Int.sign_eq_zero_iff_zero, Rat.num_eq_zero]
theorem pcr_rdo (hG : Stable G) (hq : Qm L q d) (hla : a.length = 8) (hlb : b.length = 8) (hga : goodD a = true) (hgb : goodD b = true) (hfa : Qm K fa d1) (hoa : Qm K oa d2) (hfb : Qm K fb d3) (hob : Qm K ob d4) (hL : L < 100) (hK : K < 100) (h1 : fa ≠ 0) (h2 : fb ≠ 0) :
  PCr Tryz.prog G 12 [MQ q, smR a fa oa ha, smR b fb ob hb] (.tup [MQ (doQ q a b fa oa ha fb ob hb).1, .int .i64 (doQ q a b fa oa ha fb ob hb).2]) := by
 have hw := pcr_rways (G := G) hG hla hlb fa oa fb ob ha hb
 rw [wayR_good hga hgb] at hw
 have h0 := pcr_qint (G := G) hG 0 (by omega) (by omega)
 rw [show ((0 : Int) : Rat) = 0 from rfl] at h0
 unfold doQ
 rcases way3 a b with hz | hz | hz
 ·rw [hz] at hw ⊢
  rw [if_pos rfl]
  unfold smR at *
  obtain ⟨a0, a1, a2, a3, a4, a5, a6, a7, rfl⟩ := eight hla
  obtain ⟨b0, b1, b2, b3, b4, b5, b6, b7, rfl⟩ := eight hlb
  simp only [I, List.map_cons, List.map_nil, List.cons_append, List.nil_append] at *
  refine pcr_byq ok12 hG (n := 58) (rv := [.cell 6 true 3, .tmp 7]) fun r hr => ?_; unfold c12 st0
  (exact xwalkd)
 ·rw [hz] at hw ⊢
  rw [if_neg (by decide), if_pos (by decide)]
  cases ha with
  | true =>
   rw [if_pos (by rfl)]
   unfold smR at *
   obtain ⟨a0, a1, a2, a3, a4, a5, a6, a7, rfl⟩ := eight hla
   obtain ⟨b0, b1, b2, b3, b4, b5, b6, b7, rfl⟩ := eight hlb
   simp only [I, List.map_cons, List.map_nil, List.cons_append, List.nil_append] at *
   refine pcr_byq ok12 hG (n := 58) (rv := [.cell 6 true 3, .tmp 7]) fun r hr => ?_; unfold c12 st0
   (exact xwalkd)
  | false =>
  cases hb with
  | true =>
   rw [if_pos (by rfl)]
   unfold smR at *
   obtain ⟨a0, a1, a2, a3, a4, a5, a6, a7, rfl⟩ := eight hla
   obtain ⟨b0, b1, b2, b3, b4, b5, b6, b7, rfl⟩ := eight hlb
   simp only [I, List.map_cons, List.map_nil, List.cons_append, List.nil_append] at *
   refine pcr_byq ok12 hG (n := 58) (rv := [.cell 6 true 3, .tmp 7]) fun r hr => ?_; unfold c12 st0
   (exact xwalkd)
  | false =>
  rw [if_neg (by decide)]
  have hsg := pcr_qsign (G := G) hG q
  by_cases hz0 : q = 0
  ·rw [if_pos (by rw [hz0, Rat.zero_mul])]
   rw [num_sign_zero.2 hz0] at hsg
   clear hz0
   unfold smR at *
   obtain ⟨a0, a1, a2, a3, a4, a5, a6, a7, rfl⟩ := eight hla
   obtain ⟨b0, b1, b2, b3, b4, b5, b6, b7, rfl⟩ := eight hlb
   simp only [I, List.map_cons, List.map_nil, List.cons_append, List.nil_append] at *
   refine pcr_byq ok12 hG (n := 58) (rv := [.cell 6 true 3, .tmp 7]) fun r hr => ?_; unfold c12 st0
   (exact xwalkd)
  ·have hne : q * (fa * fb) ≠ 0 := fun h => (Rat.mul_eq_zero.1 h).elim hz0 (fun h => (Rat.mul_eq_zero.1 h).elim h1 h2)
   rw [if_neg hne]
   have hsg0 : ¬ q.num.sign = 0 := fun h => hz0 (num_sign_zero.1 h)
   generalize q.num.sign = sq at *
   have hm1 := pcr_qmul (G := G) hG hfa hfb (by omega) (by omega)
   have hx1 := qm_mul hfa hfb
   have hm2 := pcr_qmul (G := G) hG hq hx1 (by omega) (by omega)
   have hi := pcr_qinv (G := G) hG (q * (fa * fb)) hne
   unfold smR at *
   obtain ⟨a0, a1, a2, a3, a4, a5, a6, a7, rfl⟩ := eight hla
   obtain ⟨b0, b1, b2, b3, b4, b5, b6, b7, rfl⟩ := eight hlb
   simp only [I, List.map_cons, List.map_nil, List.cons_append, List.nil_append] at *
   refine pcr_byq ok12 hG (n := 58) (rv := [.cell 6 true 3, .tmp 7]) fun r hr => ?_; unfold c12 st0
   (exact xwalkd)
 ·rw [hz] at hw ⊢
  rw [if_neg (by decide), if_neg (by decide)]
  have hm1 := pcr_qmul (G := G) hG hq hfa (by omega) (by omega)
  have hx1 := qm_mul hq hfa
  have hi := pcr_qinv (G := G) hG fb h2
  cases ha <;> cases hb
  all_goals simp only [Bool.false_eq_true, if_true, if_false, Rat.add_zero, Rat.neg_zero]
  ·have hm5 := pcr_qmul (G := G) hG hx1 (qm_inv hfb) (by omega) (by omega)
   unfold smR at *
   obtain ⟨a0, a1, a2, a3, a4, a5, a6, a7, rfl⟩ := eight hla
   obtain ⟨b0, b1, b2, b3, b4, b5, b6, b7, rfl⟩ := eight hlb
   simp only [I, List.map_cons, List.map_nil, List.cons_append, List.nil_append] at *
   refine pcr_byq ok12 hG (n := 58) (rv := [.cell 6 true 3, .tmp 7]) fun r hr => ?_; unfold c12 st0
   (exact xwalkd)
  ·have hn := pcr_qneg (G := G) hG ob
   have hm2 := pcr_qadd (G := G) hG hx1 (qm_neg hob) (by omega) (by omega)
   have hx2 := qm_add hx1 (qm_neg hob)
   have hm5 := pcr_qmul (G := G) hG hx2 (qm_inv hfb) (by omega) (by omega)
   unfold smR at *
   obtain ⟨a0, a1, a2, a3, a4, a5, a6, a7, rfl⟩ := eight hla
   obtain ⟨b0, b1, b2, b3, b4, b5, b6, b7, rfl⟩ := eight hlb
   simp only [I, List.map_cons, List.map_nil, List.cons_append, List.nil_append] at *
   refine pcr_byq ok12 hG (n := 58) (rv := [.cell 6 true 3, .tmp 7]) fun r hr => ?_; unfold c12 st0
   (exact xwalkd)
  ·have hm2 := pcr_qadd (G := G) hG hx1 hoa (by omega) (by omega)
   have hx2 := qm_add hx1 hoa
   have hm5 := pcr_qmul (G := G) hG hx2 (qm_inv hfb) (by omega) (by omega)
   unfold smR at *
   obtain ⟨a0, a1, a2, a3, a4, a5, a6, a7, rfl⟩ := eight hla
   obtain ⟨b0, b1, b2, b3, b4, b5, b6, b7, rfl⟩ := eight hlb
   simp only [I, List.map_cons, List.map_nil, List.cons_append, List.nil_append] at *
   refine pcr_byq ok12 hG (n := 58) (rv := [.cell 6 true 3, .tmp 7]) fun r hr => ?_; unfold c12 st0
   (exact xwalkd)
  ·have hn := pcr_qneg (G := G) hG ob
   have hm2 := pcr_qadd (G := G) hG hx1 hoa (by omega) (by omega)
   have hx2 := qm_add hx1 hoa
   have hm3 := pcr_qadd (G := G) hG hx2 (qm_neg hob) (by omega) (by omega)
   have hx3 := qm_add hx2 (qm_neg hob)
   have hm5 := pcr_qmul (G := G) hG hx3 (qm_inv hfb) (by omega) (by omega)
   unfold smR at *
   obtain ⟨a0, a1, a2, a3, a4, a5, a6, a7, rfl⟩ := eight hla
   obtain ⟨b0, b1, b2, b3, b4, b5, b6, b7, rfl⟩ := eight hlb
   simp only [I, List.map_cons, List.map_nil, List.cons_append, List.nil_append] at *
   refine pcr_byq ok12 hG (n := 58) (rv := [.cell 6 true 3, .tmp 7]) fun r hr => ?_; unfold c12 st0
   (exact xwalkd)
end Go.Proofs.YtodinbldpcldiaaGreatDoorK.ConvT
/-
 Converted there and back, and on: plainly.
-/
namespace Go.Proofs.YtodinbldpcldiaaGreatDoorK.ConvT
open AI RatT DimsT
variable {a b c : List Int} {q r m n fa oa fb ob fc oc : Rat} {ha hb hc : Bool} {L K : Nat} {d d1 d2 d3 d4 : D}
theorem way_neg (ha : goodD a = true) (hb : goodD b = true) (h : wayD a b = -1) : a = negD b := by
 rw [way_good ha hb] at h
 split at h
 ·omega
 ·split at h
  ·assumption
  ·omega
theorem way_one (ha : goodD a = true) (hb : goodD b = true) (h : wayD a b = 1) : a = b := by
 rw [way_good ha hb] at h
 split at h
 ·assumption
 ·split at h <;> omega
theorem way_self (a : List Int) : wayD a a = 1 := by rw [wayD, if_pos rfl]
theorem doQ_ok (h : doQ q a b fa oa ha fb ob hb = (r, 0)) : (wayD a b = 1 ∧ r = (q * fa + (if ha then oa else 0) + -(if hb then ob else 0)) * fb⁻¹) ∨ (wayD a b = -1 ∧ ha = false ∧ hb = false ∧ q * (fa * fb) ≠ 0 ∧ r = (q * (fa * fb))⁻¹) := by
 unfold doQ at h
 rcases way3 a b with hz | hz | hz
 ·rw [hz, if_pos rfl] at h
  cases h
 ·rw [hz, if_neg (by decide), if_pos (by decide)] at h
  right
  split at h
  ·cases h
  ·rename_i h1
   split at h
   ·cases h
   ·rename_i h2
    cases h
    refine ⟨hz, ?_, ?_, h2, rfl⟩
    ·cases ha
     ·rfl
     ·exact absurd rfl h1
    ·cases hb
     ·rfl
     ·cases ha <;> exact absurd rfl h1
 ·rw [hz, if_neg (by decide), if_neg (by decide)] at h
  cases h
  exact .inl ⟨hz, rfl⟩
theorem doQ_one (h : wayD a b = 1) : doQ q a b fa oa ha fb ob hb = ((q * fa + (if ha then oa else 0) + -(if hb then ob else 0)) * fb⁻¹, 0) := by
 rw [doQ, h, if_neg (by decide), if_neg (by decide)]
theorem doQ_neg (h : wayD a b = -1) (h1 : q * (fa * fb) ≠ 0) : doQ q a b fa oa false fb ob false = ((q * (fa * fb))⁻¹, 0) := by
 rw [doQ, h, if_neg (by decide), if_pos (by decide), if_neg (by decide), if_neg h1]
theorem ne_of_pos {x : Rat} (h : 0 < x) : x ≠ 0 := fun e => by rw [e] at h; exact absurd h Rat.lt_irrefl
theorem q_back1 {x y : Rat} (h1 : fa ≠ 0) (h2 : fb ≠ 0) : ((q * fa + x + -y) * fb⁻¹ * fb + y + -x) * fa⁻¹ = q := by
 have e1 : fb⁻¹ * fb = 1 := Rat.inv_mul_cancel fb h2
 have e2 : fa * fa⁻¹ = 1 := Rat.mul_inv_cancel fa h1
 rw [Rat.mul_assoc, e1]
 grind
theorem q_back2 (h1 : fa ≠ 0) (h2 : fb ≠ 0) (h : q * (fa * fb) ≠ 0) : (q * (fa * fb))⁻¹ * (fb * fa) ≠ 0 ∧ ((q * (fa * fb))⁻¹ * (fb * fa))⁻¹ = q := by
 have hq : q ≠ 0 := fun e => h (by rw [e, Rat.zero_mul])
 have e : (q * (fa * fb))⁻¹ * (fb * fa) = q⁻¹ := by
  have e3 : fa * fb ≠ 0 := fun h => (Rat.mul_eq_zero.1 h).elim h1 h2
  rw [Rat.inv_mul_rev, Rat.mul_comm fb fa, Rat.mul_comm (fa * fb)⁻¹, Rat.mul_assoc, Rat.inv_mul_cancel _ e3, Rat.mul_one]
 rw [e]
 exact ⟨fun h => hq (by rw [← Rat.inv_inv q, h, Rat.inv_zero]), Rat.inv_inv q⟩
theorem doQ_back (hga : goodD a = true) (hgb : goodD b = true) (h1 : 0 < fa) (h2 : 0 < fb) (h : doQ q a b fa oa ha fb ob hb = (r, 0)) : doQ r b a fb ob hb fa oa ha = (q, 0) := by
 have n1 := ne_of_pos h1
 have n2 := ne_of_pos h2
 rcases doQ_ok h with ⟨hw, rfl⟩ | ⟨hw, rfl, rfl, h3, rfl⟩
 ·rw [doQ_one (by rw [way_comm hgb hga]; exact hw), q_back1 n1 n2]
 ·have h4 := q_back2 n1 n2 h3
  rw [doQ_neg (by rw [way_comm hgb hga]; exact hw) h4.1, h4.2]
theorem q_thru11 {x y z : Rat} (h2 : fb ≠ 0) : ((q * fa + x + -y) * fb⁻¹ * fb + y + -z) * fc⁻¹ = (q * fa + x + -z) * fc⁻¹ := by
 have e1 : fb⁻¹ * fb = 1 := Rat.inv_mul_cancel fb h2
 rw [Rat.mul_assoc _ fb⁻¹ fb, e1]
 congr 1
 grind
theorem q_thru12 (h2 : fb ≠ 0) : ((q * fa + 0 + -0) * fb⁻¹ * (fb * fc))⁻¹ = (q * (fa * fc))⁻¹ := by
 have e1 : fb⁻¹ * fb = 1 := Rat.inv_mul_cancel fb h2
 congr 1
 rw [← Rat.mul_assoc, Rat.mul_assoc _ fb⁻¹ fb, e1]
 grind
theorem q_thru21 (h1 : fa ≠ 0) (h2 : fb ≠ 0) (h3 : q * (fa * fb) ≠ 0) : ((q * (fa * fb))⁻¹ * fb + 0 + -0) * fc⁻¹ = (q * (fa * fc))⁻¹ := by
 have e1 : fb⁻¹ * fb = 1 := Rat.inv_mul_cancel fb h2
 simp only [Rat.inv_mul_rev, Rat.add_zero, Rat.neg_zero]
 grind
theorem q_thru22 (h2 : fb ≠ 0) : ((q * (fa * fb))⁻¹ * (fb * fc))⁻¹ = (q * fa + 0 + -0) * fc⁻¹ := by
 have e1 : fb⁻¹ * fb = 1 := Rat.inv_mul_cancel fb h2
 have e2 : fb * fb⁻¹ = 1 := Rat.mul_inv_cancel fb h2
 simp only [Rat.inv_mul_rev, Rat.inv_inv, Rat.add_zero, Rat.neg_zero]
 grind
theorem doQ_thru (hga : goodD a = true) (hgb : goodD b = true) (hgc : goodD c = true) (h1 : 0 < fa) (h2 : 0 < fb) (h3 : 0 < fc) (h : doQ q a b fa oa ha fb ob hb = (r, 0)) (k : doQ r b c fb ob hb fc oc hc = (m, 0)) (l : doQ q a c fa oa ha fc oc hc = (n, 0)) : m = n := by
 have n1 := ne_of_pos h1
 have n2 := ne_of_pos h2
 rcases doQ_ok h with ⟨hw, rfl⟩ | ⟨hw, rfl, rfl, g3, rfl⟩
 ·have e := way_one hga hgb hw
  subst e
  rcases doQ_ok k with ⟨kw, rfl⟩ | ⟨kw, rfl, rfl, k3, rfl⟩
  ·rw [doQ_one kw] at l
   cases l
   exact q_thru11 n2
  ·rcases doQ_ok l with ⟨lw, rfl⟩ | ⟨lw, rfl, _, l3, rfl⟩
   ·rw [kw] at lw; cases lw
   ·simp only [Bool.false_eq_true, if_false]
    exact q_thru12 n2
 ·have e := way_neg hga hgb hw
  rcases doQ_ok k with ⟨kw, rfl⟩ | ⟨kw, _, rfl, k3, rfl⟩
  ·have e2 := way_one hgb hgc kw
   subst e2
   rcases doQ_ok l with ⟨lw, rfl⟩ | ⟨lw, _, rfl, l3, rfl⟩
   ·rw [hw] at lw; cases lw
   ·simp only [Bool.false_eq_true, if_false]
    exact q_thru21 n1 n2 g3
  ·have e2 := way_neg hgb hgc kw
   have e3 : a = c := by rw [e, e2, negD_negD hgc]
   subst e3
   rw [doQ_one (way_self a)] at l
   cases l
   simp only [Bool.false_eq_true, if_false]
   exact q_thru22 n2
theorem doQ_qm (hq : Qm L q d) (hfa : Qm K fa d1) (hoa : Qm K oa d2) (hfb : Qm K fb d3) (hob : Qm K ob d4) : Qm (L + 6 * K + 6) (doQ q a b fa oa ha fb ob hb).1 (QD (doQ q a b fa oa ha fb ob hb).1) := by
 have h0 : Qm (L + 6 * K + 6) 0 (QD 0) := qm_zero.up (by omega)
 have hA : Qm (K + 1) (if ha then oa else 0) (QD (if ha then oa else 0)) := by
  cases ha
  ·exact qm_zero.up (by omega)
  ·exact (hoa.up (by omega)).self
 have hB : Qm (K + 1) (if hb then ob else 0) (QD (if hb then ob else 0)) := by
  cases hb
  ·exact qm_zero.up (by omega)
  ·exact (hob.up (by omega)).self
 unfold doQ
 split
 ·exact h0
 ·split
  ·split
   ·exact h0
   ·split
    ·exact h0
    ·exact (qm_inv (qm_mul hq (qm_mul hfa hfb))).up (by omega)
  ·exact (qm_mul (qm_add (qm_add (qm_mul hq hfa) hA) (qm_neg hB)) (qm_inv hfb)).up (by omega)
end Go.Proofs.YtodinbldpcldiaaGreatDoorK.ConvT
