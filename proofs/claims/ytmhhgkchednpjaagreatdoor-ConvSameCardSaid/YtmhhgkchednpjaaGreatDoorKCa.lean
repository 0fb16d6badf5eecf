/-
 Joined: ConvA, ConvR, ConvP.
-/
import Derived.Test.YtmhhgkchednpjaaGreatDoorKIrX
import Derived.Test.YtmhhgkchednpjaaGreatDoorKDa
import Derived.Test.YtmhhgkchednpjaaGreatDoorKQa
import Derived.Test.YtmhhgkchednpjaaGreatDoorKIrCubitref6
import Derived.Test.YtmhhgkchednpjaaGreatDoorKRefQ
set_option linter.all false
set_option maxHeartbeats 0
/-
 Package conv: which way, and to what: what the functions compute.
-/
namespace Go.Proofs.YtmhhgkchednpjaaGreatDoorK.ConvT
open AI NatIr Dig NatT NumT RatT DimsT
attribute [local irreducible] awp awpOps
attribute [local go_sem] nl ZD
attribute [local go_sem] QD
attribute [local go_sem] not_true_eq_false not_false_eq_true eq_self decide_true
variable {G : World → Prop} {a b : List Int}
theorem eight (h : a.length = 8) : ∃ a0 a1 a2 a3 a4 a5 a6 a7 : Int, a = [a0, a1, a2, a3, a4, a5, a6, a7] := by
 match a, h with
 | [a0, a1, a2, a3, a4, a5, a6, a7], _ => exact ⟨a0, a1, a2, a3, a4, a5, a6, a7, rfl⟩
def negD (a : List Int) : List Int := if goodD a && a.all (okn (-1)) then mulD a (-1) else z8
theorem negD_len (h : a.length = 8) : (negD a).length = 8 := by
 unfold negD
 split
 ·rw [mulD_len, h]
 ·rfl
def wayD (a b : List Int) : Int := if a = b then 1 else if a = negD b ∧ negD a = b then -1 else 0
theorem pcr_ways (hG : Stable G) (ha : a.length = 8) (hb : b.length = 8) (x0 x1 x2 x3 x4 x5 x6 y0 y1 y2 y3 y4 y5 y6 : D) :
  PCr Tryz.prog G 42 [.agg (I a ++ [x0, x1, x2, x3, x4, x5, x6]), .agg (I b ++ [y0, y1, y2, y3, y4, y5, y6])] (.tup [.int .i64 (wayD a b), .bool (decide (wayD a b ≠ 0))]) := by
 have h1 := pcr_same hG ha hb
 have h2 := pcr_neg hG hb
 have h3 := pcr_neg hG ha
 rw [show (if goodD b && b.all (okn (-1)) then mulD b (-1) else z8) = negD b from rfl] at h2
 rw [show (if goodD a && a.all (okn (-1)) then mulD a (-1) else z8) = negD a from rfl] at h3
 have hnb := negD_len hb
 have hna := negD_len ha
 have h4 := pcr_same hG ha hnb
 have h5 := pcr_same hG hna hb
 unfold wayD
 generalize negD b = nb at *
 generalize negD a = na at *
 obtain ⟨p0, p1, p2, p3, p4, p5, p6, p7, rfl⟩ := eight hna
 obtain ⟨q0, q1, q2, q3, q4, q5, q6, q7, rfl⟩ := eight hnb
 by_cases e1 : a = b
 ·rw [decide_eq_true e1] at h1
  rw [if_pos e1]
  obtain ⟨a0, a1, a2, a3, a4, a5, a6, a7, rfl⟩ := eight ha
  obtain ⟨b0, b1, b2, b3, b4, b5, b6, b7, rfl⟩ := eight hb
  simp only [I, List.map_cons, List.map_nil] at *
  refine pcr_byq ok42 hG (n := 27) (rv := [.tmp 4, .tmp 5]) fun r hr => ?_; unfold c42 st0
  (exact xwalkd)
 ·rw [decide_eq_false e1] at h1
  rw [if_neg e1]
  by_cases e2 : a = [q0, q1, q2, q3, q4, q5, q6, q7]
  ·rw [decide_eq_true e2] at h4
   by_cases e3 : [p0, p1, p2, p3, p4, p5, p6, p7] = b
   ·rw [decide_eq_true e3] at h5
    rw [if_pos ⟨e2, e3⟩]
    clear e1 e2 e3
    obtain ⟨a0, a1, a2, a3, a4, a5, a6, a7, rfl⟩ := eight ha
    obtain ⟨b0, b1, b2, b3, b4, b5, b6, b7, rfl⟩ := eight hb
    simp only [I, List.map_cons, List.map_nil] at *
    refine pcr_byq ok42 hG (n := 27) (rv := [.tmp 4, .tmp 5]) fun r hr => ?_; unfold c42 st0
    (exact xwalkd)
   ·rw [decide_eq_false e3] at h5
    rw [if_neg (fun h => e3 h.2)]
    clear e1 e2 e3
    obtain ⟨a0, a1, a2, a3, a4, a5, a6, a7, rfl⟩ := eight ha
    obtain ⟨b0, b1, b2, b3, b4, b5, b6, b7, rfl⟩ := eight hb
    simp only [I, List.map_cons, List.map_nil] at *
    refine pcr_byq ok42 hG (n := 27) (rv := [.tmp 4, .tmp 5]) fun r hr => ?_; unfold c42 st0
    (exact xwalkd)
  ·rw [decide_eq_false e2] at h4
   rw [if_neg (fun h => e2 h.1)]
   clear e1 e2
   obtain ⟨a0, a1, a2, a3, a4, a5, a6, a7, rfl⟩ := eight ha
   obtain ⟨b0, b1, b2, b3, b4, b5, b6, b7, rfl⟩ := eight hb
   simp only [I, List.map_cons, List.map_nil] at *
   refine pcr_byq ok42 hG (n := 27) (rv := [.tmp 4, .tmp 5]) fun r hr => ?_; unfold c42 st0
   (exact xwalkd)
def smD (v : List Int) (b1 : Bool) (n1 : Nat) (c1 : List D) (m1 : Nat) (e1 : List D) (b2 : Bool) (n2 : Nat) (c2 : List D) (m2 : Nat) (e2 : List D) (h : Bool) : D :=
 .agg (I v ++ [.bool b1, .sl n1 c1, .sl m1 e1, .bool b2, .sl n2 c2, .sl m2 e2, .bool h])
def Sm (L : Nat) (v : List Int) (f o : Rat) (h : Bool) (d : D) : Prop := v.length = 8 ∧ ∃ (b1 : Bool) (n1 : Nat) (c1 : List D) (m1 : Nat) (e1 : List D) (b2 : Bool) (n2 : Nat) (c2 : List D) (m2 : Nat) (e2 : List D),
 Qm L f (.agg [.bool b1, .sl n1 c1, .sl m1 e1]) ∧ Qm L o (.agg [.bool b2, .sl n2 c2, .sl m2 e2]) ∧ d = smD v b1 n1 c1 m1 e1 b2 n2 c2 m2 e2 h
theorem sm_mk {L : Nat} {v : List Int} {f o : Rat} {d e : D} {x y z x' y' z' : D} (hv : v.length = 8) (h : Bool) (hf : Qm L f d) (ho : Qm L o e) (hd : d = .agg [x, y, z]) (he : e = .agg [x', y', z']) : Sm L v f o h (.agg (I v ++ [x, y, z, x', y', z', .bool h])) := by
 obtain ⟨b1, X1, Y1, n1, m1, c1, e1, _, _, _, h1⟩ := hf.row
 obtain ⟨b2, X2, Y2, n2, m2, c2, e2, _, _, _, h2⟩ := ho.row
 rw [hd] at h1
 rw [he] at h2
 cases h1
 cases h2
 exact ⟨hv, b1, n1, c1, m1, e1, b2, n2, c2, m2, e2, hd ▸ hf, he ▸ ho, rfl⟩
theorem pcr_offset (hG : Stable G) (ha : a.length = 8) {b1 : Bool} {n1 : Nat} {c1 : List D} {m1 : Nat} {e1 : List D} {b2 : Bool} {n2 : Nat} {c2 : List D} {m2 : Nat} {e2 : List D} {h : Bool} :
  PCr Tryz.prog G 99 [smD a b1 n1 c1 m1 e1 b2 n2 c2 m2 e2 h] (if h then .agg [.bool b2, .sl n2 c2, .sl m2 e2] else QD 0) := by
 have h1 := RatT.pcr_int hG 0 (by omega) (by omega)
 rw [show ((0 : Int) : Rat) = 0 from rfl] at h1
 unfold smD
 obtain ⟨a0, a1, a2, a3, a4, a5, a6, a7, rfl⟩ := eight ha
 simp only [I, List.map_cons, List.map_nil, List.cons_append, List.nil_append]
 cases h
 ·refine pcr_byq ok99 hG (n := 9) (rv := [.cell 2 true 3]) fun r hr => ?_; unfold c99 st0
  (exact xwalkd)
 ·rw [if_pos rfl]
  refine pcr_byq ok99 hG (n := 9) (rv := [.cell 2 true 3]) fun r hr => ?_; unfold c99 st0
  (exact xwalkd)
def doQ (q : Rat) (a b : List Int) (fa oa : Rat) (ha : Bool) (fb ob : Rat) (hb : Bool) : Rat × Int :=
 if wayD a b = 0 then (0, 5) else if wayD a b < 0 then (if (ha || hb) = true then (0, 6) else if q * (fa * fb) = 0 then (0, 4) else ((q * (fa * fb))⁻¹, 0))
 else ((q * fa + (if ha then oa else 0) + -(if hb then ob else 0)) * fb⁻¹, 0)
theorem way3 (a b : List Int) : wayD a b = 0 ∨ wayD a b = -1 ∨ wayD a b = 1 := by
 unfold wayD
 split
 ·exact .inr (.inr rfl)
 ·split
  ·exact .inr (.inl rfl)
  ·exact .inl rfl
variable {L M : Nat} {q fa oa fb ob : Rat} {d da db : D} {ha hb : Bool}
theorem pcr_do (hG : Stable G) (hq : Qm L q d) (hsa : Sm M a fa oa ha da) (hsb : Sm M b fb ob hb db) (hL : L < 2000) (hM : M < 2000) :
  PCr Tryz.prog G 46 [d, da, db] (.tup [QD (doQ q a b fa oa ha fb ob hb).1, .int .i64 (doQ q a b fa oa ha fb ob hb).2]) := by
 obtain ⟨hla, ba1, na1, ca1, ma1, ea1, ba2, na2, ca2, ma2, ea2, hfa, hoa, rfl⟩ := hsa
 obtain ⟨hlb, bb1, nb1, cb1, mb1, eb1, bb2, nb2, cb2, mb2, eb2, hfb, hob, rfl⟩ := hsb
 have hw := pcr_ways hG hla hlb (.bool ba1) (.sl na1 ca1) (.sl ma1 ea1) (.bool ba2) (.sl na2 ca2) (.sl ma2 ea2) (.bool ha) (.bool bb1) (.sl nb1 cb1) (.sl mb1 eb1) (.bool bb2) (.sl nb2 cb2) (.sl mb2 eb2) (.bool hb)
 have h0 := RatT.pcr_int hG 0 (by omega) (by omega)
 rw [show ((0 : Int) : Rat) = 0 from rfl] at h0
 unfold doQ
 rcases way3 a b with hz | hz | hz
 ·rw [hz] at hw ⊢
  rw [show decide ((0 : Int) ≠ 0) = false from rfl] at hw
  rw [if_pos rfl]
  unfold smD at *
  obtain ⟨a0, a1, a2, a3, a4, a5, a6, a7, rfl⟩ := eight hla
  obtain ⟨b0, b1, b2, b3, b4, b5, b6, b7, rfl⟩ := eight hlb
  obtain ⟨bq, Xq, Yq, nq, mq, cq, eq, _, _, _, rfl⟩ := hq.row
  simp only [I, List.map_cons, List.map_nil, List.cons_append, List.nil_append] at *
  refine pcr_byq ok46 hG (n := 68) (rv := [.cell 6 true 3, .tmp 7]) fun r hr => ?_; unfold c46 st0
  (exact xwalkd)
 ·rw [hz] at hw ⊢
  rw [show decide ((-1 : Int) ≠ 0) = true from rfl] at hw
  rw [if_neg (by decide), if_pos (by decide)]
  cases ha with
  | true =>
   rw [if_pos (by rfl)]
   unfold smD at *
   obtain ⟨a0, a1, a2, a3, a4, a5, a6, a7, rfl⟩ := eight hla
   obtain ⟨b0, b1, b2, b3, b4, b5, b6, b7, rfl⟩ := eight hlb
   obtain ⟨bq, Xq, Yq, nq, mq, cq, eq, _, _, _, rfl⟩ := hq.row
   simp only [I, List.map_cons, List.map_nil, List.cons_append, List.nil_append] at *
   refine pcr_byq ok46 hG (n := 68) (rv := [.cell 6 true 3, .tmp 7]) fun r hr => ?_; unfold c46 st0
   (exact xwalkd)
  | false =>
  cases hb with
  | true =>
   rw [if_pos (by rfl)]
   unfold smD at *
   obtain ⟨a0, a1, a2, a3, a4, a5, a6, a7, rfl⟩ := eight hla
   obtain ⟨b0, b1, b2, b3, b4, b5, b6, b7, rfl⟩ := eight hlb
   obtain ⟨bq, Xq, Yq, nq, mq, cq, eq, _, _, _, rfl⟩ := hq.row
   simp only [I, List.map_cons, List.map_nil, List.cons_append, List.nil_append] at *
   refine pcr_byq ok46 hG (n := 68) (rv := [.cell 6 true 3, .tmp 7]) fun r hr => ?_; unfold c46 st0
   (exact xwalkd)
  | false =>
  rw [if_neg (by decide)]
  have hm1 := RatT.pcr_mul hG hfa hfb (by omega) (by omega)
  have hx1 := qm_mul hfa hfb
  have hm2 := RatT.pcr_mul hG hq hx1 (by omega) (by omega)
  have hx2 := qm_mul hq hx1
  by_cases hz0 : q * (fa * fb) = 0
  ·rw [if_pos hz0]
   rw [hz0] at hx2 hm2
   have hi := RatT.pcr_inv0 hG (L := L + (M + M)) hx2 (by omega)
   unfold smD at *
   obtain ⟨a0, a1, a2, a3, a4, a5, a6, a7, rfl⟩ := eight hla
   obtain ⟨b0, b1, b2, b3, b4, b5, b6, b7, rfl⟩ := eight hlb
   obtain ⟨bq, Xq, Yq, nq, mq, cq, eq, _, _, _, rfl⟩ := hq.row
   simp only [I, List.map_cons, List.map_nil, List.cons_append, List.nil_append] at *
   refine pcr_byq ok46 hG (n := 68) (rv := [.cell 6 true 3, .tmp 7]) fun r hr => ?_; unfold c46 st0
   (exact xwalkd)
  ·rw [if_neg hz0]
   have hi := RatT.pcr_inv hG hx2 (by omega) hz0
   unfold smD at *
   obtain ⟨a0, a1, a2, a3, a4, a5, a6, a7, rfl⟩ := eight hla
   obtain ⟨b0, b1, b2, b3, b4, b5, b6, b7, rfl⟩ := eight hlb
   obtain ⟨bq, Xq, Yq, nq, mq, cq, eq, _, _, _, rfl⟩ := hq.row
   simp only [I, List.map_cons, List.map_nil, List.cons_append, List.nil_append] at *
   refine pcr_byq ok46 hG (n := 68) (rv := [.cell 6 true 3, .tmp 7]) fun r hr => ?_; unfold c46 st0
   (exact xwalkd)
 ·rw [hz] at hw ⊢
  rw [show decide ((1 : Int) ≠ 0) = true from rfl] at hw
  rw [if_neg (by decide), if_neg (by decide)]
  have ho1 := pcr_offset (G := G) hG hla (b1 := ba1) (n1 := na1) (c1 := ca1) (m1 := ma1) (e1 := ea1) (b2 := ba2) (n2 := na2) (c2 := ca2) (m2 := ma2) (e2 := ea2) (h := ha)
  have ho2 := pcr_offset (G := G) hG hlb (b1 := bb1) (n1 := nb1) (c1 := cb1) (m1 := mb1) (e1 := eb1) (b2 := bb2) (n2 := nb2) (c2 := cb2) (m2 := mb2) (e2 := eb2) (h := hb)
  have hoa' : ∃ x dx, (if ha = true then oa else 0) = x ∧ (if ha = true then D.agg [.bool ba2, .sl na2 ca2, .sl ma2 ea2] else QD 0) = dx ∧ Qm (M + 1) x dx := by
   refine ⟨_, _, rfl, rfl, ?_⟩
   cases ha
   ·exact qm_zero.up (by omega)
   ·exact hoa.up (by omega)
  have hob' : ∃ x dx, (if hb = true then ob else 0) = x ∧ (if hb = true then D.agg [.bool bb2, .sl nb2 cb2, .sl mb2 eb2] else QD 0) = dx ∧ Qm (M + 1) x dx := by
   refine ⟨_, _, rfl, rfl, ?_⟩
   cases hb
   ·exact qm_zero.up (by omega)
   ·exact hob.up (by omega)
  obtain ⟨x, dx, hx, hdx, hqx⟩ := hoa'
  obtain ⟨y, dy, hy, hdy, hqy⟩ := hob'
  rw [hx, hy]
  rw [hdx] at ho1
  rw [hdy] at ho2
  have hm1 := RatT.pcr_mul hG hq hfa (by omega) (by omega)
  have hx1 := qm_mul hq hfa
  have hm2 := RatT.pcr_add hG hx1 hqx (by omega) (by omega)
  have hx2 := qm_add hx1 hqx
  have hm3 := RatT.pcr_neg hG hqy (by omega)
  have hx3 := qm_neg hqy
  have hm4 := RatT.pcr_add hG hx2 hx3 (by omega) (by omega)
  have hx4 := qm_add hx2 hx3
  obtain ⟨ok, hi⟩ : ∃ ok, PCr Tryz.prog G 38 [.agg [.bool bb1, .sl nb1 cb1, .sl mb1 eb1]] (.tup [QD fb⁻¹, .bool ok]) := by
   by_cases h : fb = 0
   ·subst h
    refine ⟨false, ?_⟩
    rw [Rat.inv_zero]
    exact RatT.pcr_inv0 hG hfb (by omega)
   ·exact ⟨true, RatT.pcr_inv hG hfb (by omega) h⟩
  have hm5 := RatT.pcr_mul hG hx4 (qm_inv hfb) (by omega) (by omega)
  clear hx hy hdx hdy
  obtain ⟨_, _, _, _, _, _, _, _, _, _, rfl⟩ := hqx.row
  obtain ⟨_, _, _, _, _, _, _, _, _, _, rfl⟩ := hqy.row
  unfold smD at *
  obtain ⟨a0, a1, a2, a3, a4, a5, a6, a7, rfl⟩ := eight hla
  obtain ⟨b0, b1, b2, b3, b4, b5, b6, b7, rfl⟩ := eight hlb
  obtain ⟨bq, Xq, Yq, nq, mq, cq, eq, _, _, _, rfl⟩ := hq.row
  simp only [I, List.map_cons, List.map_nil, List.cons_append, List.nil_append] at *
  refine pcr_byq ok46 hG (n := 68) (rv := [.cell 6 true 3, .tmp 7]) fun r hr => ?_; unfold c46 st0
  (exact xwalkd)
end Go.Proofs.YtmhhgkchednpjaaGreatDoorK.ConvT
/-
 The document's conversion: Ways, Do: what they compute; plain laws of ways.
-/
namespace Go.Proofs.YtmhhgkchednpjaaGreatDoorK.ConvT
open AI NatIr Dig NatT NumT RatT RefT DimsT
attribute [local irreducible] awp awpOps
attribute [local go_sem] V_getD V_set V_take V_drop V_imm V_one V_app V_app1 V_repl V_get1 V_length M List.length_append
attribute [local go_sem] nl ZD MZ
attribute [local go_sem] QD MQ
attribute [local go_sem] not_true_eq_false not_false_eq_true eq_self decide_true
variable {G : World → Prop} {a b c : List Int}
def smR (v : List Int) (f o : Rat) (h : Bool) : D := .agg (I v ++ [.bool (ng f.num), M f.num.natAbs, M f.den, .bool (ng o.num), M o.num.natAbs, M o.den, .bool h])
variable {L K : Nat} {q fa oa fb ob : Rat} {d d1 d2 d3 d4 : D} {ha hb : Bool}
end Go.Proofs.YtmhhgkchednpjaaGreatDoorK.ConvT
/-
 Converted there and back, and on: plainly.
-/
namespace Go.Proofs.YtmhhgkchednpjaaGreatDoorK.ConvT
open AI RatT DimsT
variable {a b c : List Int} {q r m n fa oa fb ob fc oc : Rat} {ha hb hc : Bool} {L K : Nat} {d d1 d2 d3 d4 : D}
theorem way_self (a : List Int) : wayD a a = 1 := by rw [wayD, if_pos rfl]
theorem doQ_one (h : wayD a b = 1) : doQ q a b fa oa ha fb ob hb = ((q * fa + (if ha then oa else 0) + -(if hb then ob else 0)) * fb⁻¹, 0) := by
 rw [doQ, h, if_neg (by decide), if_neg (by decide)]
theorem ne_of_pos {x : Rat} (h : 0 < x) : x ≠ 0 := fun e => by rw [e] at h; exact absurd h Rat.lt_irrefl
theorem doQ_qm (hq : Qm L q d) (hfa : Qm K fa d1) (hoa : Qm K oa d2) (hfb : Qm K fb d3) (hob : Qm K ob d4) : Qm (L + 6 * K + 6) (doQ q a b fa oa ha fb ob hb).1 (QD (doQ q a b fa oa ha fb ob hb).1) := by
 have h0 : Qm (L + 6 * K + 6) 0 (QD 0) := qm_zero.up (by omega)
 have hA : Qm (K + 1) (if ha then oa else 0) (QD (if ha then oa else 0)) := by
  cases ha
  ·exact qm_zero.up (by omega)
  ·exact (hoa.up (by omega)).self
 have hB : Qm (K + 1) (if hb then ob else 0) (QD (if hb then ob else 0)) := by
  cases hb
  ·exact qm_zero.up (by omega)
  ·exact (hob.up (by omega)).self
 unfold doQ
 split
 ·exact h0
 ·split
  ·split
   ·exact h0
   ·split
    ·exact h0
    ·exact (qm_inv (qm_mul hq (qm_mul hfa hfb))).up (by omega)
  ·exact (qm_mul (qm_add (qm_add (qm_mul hq hfa) hA) (qm_neg hB)) (qm_inv hfb)).up (by omega)
end Go.Proofs.YtmhhgkchednpjaaGreatDoorK.ConvT
