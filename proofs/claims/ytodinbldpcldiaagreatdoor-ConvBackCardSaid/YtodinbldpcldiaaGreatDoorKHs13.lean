/-
 Joined: IsL13, LongQ13, IsQ13, SumL13.
-/
import Derived.Test.YtodinbldpcldiaaGreatDoorKIrLaw13
import Derived.Test.YtodinbldpcldiaaGreatDoorKRe
import Derived.Test.YtodinbldpcldiaaGreatDoorKNd
import Derived.Test.YtodinbldpcldiaaGreatDoorKQa
import Derived.Test.YtodinbldpcldiaaGreatDoorKRefQ
import Derived.Test.YtodinbldpcldiaaGreatDoorKCa
set_option linter.all false
set_option maxHeartbeats 0
/-
 The laws' helper is: a number tells what the document's own does.
-/
namespace Go.Proofs.YtodinbldpcldiaaGreatDoorK.LawT13
open AI NatIr Dig NatT RefT
attribute [local irreducible] awp awpOps
attribute [local go_sem] V_getD V_set V_take V_drop V_imm V_one V_app V_app1 V_repl V_get1 V_length M List.length_append
variable {G : World → Prop}
theorem pcr_is (hG : Stable G) {X L : Nat} (hX : X < 4294967296 ^ L) (hL : L < 4000) : PCr Tryz.prog G 48 [N X, M X] (.bool true) := by
 have hl := wd_length_le (B := 4294967296) (by omega) hX
 have hm := wd4_len hX
 have hgd := pcr_goodN hG hX (by omega)
 have hwd := pcr_words hG (wd 4294967296 X) _ rfl (ok_wd (by omega) X) (by omega)
 rw [vl_wd (by omega)] at hwd
 have hcm := pcr_rcmp hG X X (by omega) (by omega)
 rw [show cmpN X X = 0 by unfold cmpN; rw [if_neg (by omega), if_pos rfl]] at hcm
 rw [N] at hgd ⊢
 refine pcr_byq ok48 hG (n := 21) (rv := [.tmp 4]) fun r hr => ?_; unfold c48 st0
 refine xctl ?_
 refine xrg ?_
 refine xctl ?_
 refine xrg ?_; (refine xcgf1 ?_; refine xcf (hgd) rfl ?_)
 refine xrg ?_; (refine xcga1 ?_; refine xca (hwd) ?_)
 refine xrg ?_; (refine xcgf1 ?_; refine xcf (hcm) rfl ?_)
 refine xrg ?_; (refine xctl ?_); refine xrt ?_; exact hr.symm
end Go.Proofs.YtodinbldpcldiaaGreatDoorK.LawT13
/-
 The laws' helper long, of fractions.
-/
namespace Go.Proofs.YtodinbldpcldiaaGreatDoorK.LawT13
open AI NatIr Dig NatT NumT RatT
attribute [local irreducible] awp awpOps
attribute [local go_sem] nl ZD
attribute [local go_sem] QD
attribute [local go_sem] not_true_eq_false not_false_eq_true

theorem pcr_longq {G : World → Prop} (hG : Stable G) (b : Bool) (n m : Nat) (cs ds : List D) : ∃ l, PCr Tryz.prog G 8 [.agg [.bool b, .sl n cs, .sl m ds]] (.bool l) ∧ (l = false → n ≤ 12 ∧ m ≤ 12) := by
 by_cases h : n ≤ 12
 ·refine ⟨decide ((12 : Int) < m), ?_, fun h2 => ⟨h, by have := of_decide_eq_false h2; omega⟩⟩
  refine pcr_byq ok8 hG (n := 16) (rv := [.tmp 2]) fun r hr => ?_; unfold c8 st0
  refine xctl ?_
  refine xrg ?_
  refine xctl ?_
  refine xrg ?_
  refine xctl ?_
  refine xrt ?_
  exact hr.symm
 ·refine ⟨true, ?_, fun h2 => by cases h2⟩
  refine pcr_byq ok8 hG (n := 16) (rv := [.tmp 2]) fun r hr => ?_; unfold c8 st0
  refine xctl ?_
  refine xrg ?_
  refine xctl ?_
  refine xrg ?_
  refine xctl ?_
  refine xrt ?_
  exact hr.symm
end Go.Proofs.YtodinbldpcldiaaGreatDoorK.LawT13
/-
 The laws' helpers zis, qis and own: a fraction tells what the document's own does.
-/
namespace Go.Proofs.YtodinbldpcldiaaGreatDoorK.LawT13
open AI NatIr Dig NatT NumT RatT RefT
attribute [local irreducible] awp awpOps
attribute [local go_sem] V_getD V_set V_take V_drop V_imm V_one V_app V_app1 V_repl V_get1 V_length M List.length_append
attribute [local go_sem] nl ZD MZ
attribute [local go_sem] QD MQ
variable {G : World → Prop}
theorem pcr_zis (hG : Stable G) {z : Int} {L : Nat} (hz : z.natAbs < 4294967296 ^ L) (hL : L < 4000) : PCr Tryz.prog G 47 [ZD z, MZ z] (.bool true) := by
 have hg := NumT.pcr_good hG hz (by omega)
 have hi := pcr_is hG hz hL
 rw [ZD] at hg ⊢
 refine pcr_byq ok47 hG (n := 21) (rv := [.tmp 4]) fun r hr => ?_; unfold c47 st0
 refine xctl ?_
 refine xrg ?_
 refine xctl ?_
 refine xrg ?_; (refine xcf1 ?_; refine xcf (hg) rfl ?_)
 refine xrg ?_; (refine xcgf1 ?_; refine xcf (hi) rfl ?_)
 refine xrg ?_; (refine xctl ?_); refine xrt ?_; exact hr.symm
theorem pcr_qis (hG : Stable G) {q : Rat} {L : Nat} {d : D} (hq : Qm L q d) (hL : L < 3000) : PCr Tryz.prog G 14 [QD q, MQ q] (.bool true) := by
 have hz := pcr_zis hG hq.lt.1 (by omega)
 have hi := pcr_is hG hq.lt.2 (by omega)
 refine pcr_byq ok14 hG (n := 17) (rv := [.tmp 4]) fun r hr => ?_; unfold c14 st0
 refine xctl ?_
 refine xrg ?_
 refine xctl ?_
 refine xrg ?_; (refine xcf1 ?_; refine xcf (hz) rfl ?_)
 refine xrg ?_; (refine xcgf1 ?_; refine xcf (hi) rfl ?_)
 refine xrg ?_; (refine xctl ?_); refine xrt ?_; exact hr.symm
theorem pcr_own (hG : Stable G) (b : Bool) (a : List Int) (n : Nat) (hn : n = a.length) (ha : ok 4294967296 a) (hl : n ≤ 12) (c : List Int) (m : Nat) (hm : m = c.length) (hc : ok 4294967296 c) (hl2 : m ≤ 12) :
  PCr Tryz.prog G 13 [.agg [.bool b, .sl n (W a), .sl m (W c)]] (MQ (vq b a c)) := by
 have h1 := pcr_words hG a n hn ha (by omega)
 have h2 := pcr_words hG c m hm hc (by omega)
 have hx := nm_in (L := 12) hn ha (by omega)
 have hy := nm_in (L := 12) hm hc (by omega)
 have ho := pcr_zof hG b (vl 4294967296 a)
 unfold vq
 generalize vl 4294967296 a = X at *
 generalize vl 4294967296 c = Y at *
 by_cases h0 : Y = 0
 ·have hw0 : (wd 10000 Y).length = 0 := by rw [h0, wd_zero]; rfl
  have hq := pcr_qint hG 0 (by omega) (by omega)
  rw [show ((0 : Int) : Rat) = mkRat (sg b X) Y by rw [h0, Rat.mkRat_zero]; rfl] at hq
  refine pcr_byq ok13 hG (n := 23) (rv := [.cell 2 true 3]) fun r hr => ?_; unfold c13 st0
  refine xctl ?_
  refine xrg ?_
  refine xctl ?_
  refine xrg ?_; (refine xca1 ?_; refine xca (h2) ?_)
  refine xrg ?_
  refine xctl ?_
  refine xrg ?_
  refine xctl ?_
  refine xct ?_
  refine xctl ?_
  refine xrg ?_; (refine xca1 ?_; refine xca (hq) ?_)
  refine xrg ?_
  refine xctl ?_
  refine xrt ?_
  exact hr.symm
 ·have hw0 := wd4_pos h0
  have hq := pcr_qof hG (z := sg b X) (by rw [sg_abs]; exact hx.lt) hy.lt h0 (by omega) (by omega)
  refine pcr_byq ok13 hG (n := 23) (rv := [.cell 2 true 3]) fun r hr => ?_; unfold c13 st0
  refine xctl ?_
  refine xrg ?_
  refine xctl ?_
  refine xrg ?_; (refine xca1 ?_; refine xca (h2) ?_)
  refine xrg ?_
  refine xctl ?_
  refine xrg ?_
  refine xctl ?_
  refine xcF ?_
  refine xctl ?_
  refine xrg ?_; (refine xca1 ?_; refine xca (h1) ?_)
  refine xrg ?_; (refine xca1 ?_; refine xca (ho) ?_)
  refine xrg ?_; (refine xca1 ?_; refine xca (hq) ?_)
  refine xrg ?_
  refine xctl ?_
  refine xdr ?_
  refine xctl ?_
  refine xrt ?_
  exact hr.symm
end Go.Proofs.YtodinbldpcldiaaGreatDoorK.LawT13
/-
 The laws' helper sum: sums of plain numbers, and the document's own.
-/
namespace Go.Proofs.YtodinbldpcldiaaGreatDoorK.LawT13
open AI NatIr Dig NatT NumT RatT RefT DimsT ConvT
attribute [local irreducible] awp awpOps
attribute [local go_sem] V_getD V_set V_take V_drop V_imm V_one V_app V_app1 V_repl V_get1 V_length M List.length_append
attribute [local go_sem] nl ZD MZ
attribute [local go_sem] QD MQ
attribute [local go_sem] not_true_eq_false not_false_eq_true eq_self decide_true
variable {G : World → Prop}
def rawD (a : List Int) (P Q : Int) (b : Bool) (n : Nat) (x : List Int) (m : Nat) (y : List Int) (c : Bool) : D := .agg (I a ++ [.int .i64 P, .int .i64 Q, .bool b, .sl n (W x), .sl m (W y), .bool c])
def zS : D := .agg [.int .i64 0, .int .i64 0, .int .i64 0, .int .i64 0, .int .i64 0, .int .i64 0, .int .i64 0, .int .i64 0, .bool false, .sl 0 [], .sl 0 [], .bool false, .sl 0 [], .sl 0 [], .bool false]
theorem raw_qm {P Q : Int} (hP : -9223372036854775808 ≤ P ∧ P ≤ 9223372036854775807) (hQ : -9223372036854775808 ≤ Q ∧ Q ≤ 9223372036854775807) : Qm 12 (mkRat P Q.toNat) (QD (mkRat P Q.toNat)) :=
 qm_le (by omega) (Nat.lt_of_lt_of_le (show P.natAbs < 4294967296 ^ 2 by omega) (Nat.pow_le_pow_right (by omega) (by omega))) (Nat.lt_of_lt_of_le (show Q.toNat < 4294967296 ^ 2 by omega) (Nat.pow_le_pow_right (by omega) (by omega)))
theorem raw_pos {P Q : Int} (hP : 1 ≤ P) (hQ : 1 ≤ Q) : 0 < mkRat P Q.toNat := by
 rw [Rat.mkRat_eq_div, Rat.div_def]
 refine Rat.mul_pos ?_ ?_
 ·have : ((0 : Int) : Rat) < (P : Rat) := Rat.intCast_lt_intCast.2 (by omega)
  exact this
 ·rw [Rat.inv_pos]
  have : ((0 : Int) : Rat) < ((Q.toNat : Int) : Rat) := Rat.intCast_lt_intCast.2 (by omega)
  exact this
theorem pcr_sum (hG : Stable G) {a : List Int} (ha : a.length = 8) {P : Int} (hP : -9223372036854775808 ≤ P ∧ P ≤ 9223372036854775807) {Q : Int} (hQ : -9223372036854775808 ≤ Q ∧ Q ≤ 9223372036854775807) (b : Bool) {x : List Int} {n : Nat} (hn : n = x.length) (hx : ok 4294967296 x)
  {y : List Int} {m : Nat} (hm : m = y.length) (hy : ok 4294967296 y) (c : Bool) :
  PCr Tryz.prog G 7 [rawD a P Q b n x m y c] (.tup [zS, zS, .bool false]) ∨
  (goodD a = true ∧ ∃ f s, 0 < f ∧ Qm 12 f (QD f) ∧ Qm 12 (vq b x y) (.agg [.bool b, .sl n (W x), .sl m (W y)]) ∧ Sm 12 a f (vq b x y) c s ∧ PCr Tryz.prog G 7 [rawD a P Q b n x m y c] (.tup [s, smR a f (vq b x y) c, .bool true])) := by
 obtain ⟨l, hl, hlf⟩ := pcr_longq (G := G) hG b n m (W x) (W y)
 have hg := pcr_goodv (G := G) hG ha
 unfold rawD zS
 by_cases h1 : P < 1
 ·left
  obtain ⟨a0, a1, a2, a3, a4, a5, a6, a7, rfl⟩ := eight ha
  simp only [I, List.map_cons, List.map_nil, List.cons_append, List.nil_append] at *
  refine pcr_byq ok7 hG (n := 63) (rv := [.cell 2 true 15, .cell 3 true 15, .tmp 4]) fun r hr => ?_; unfold c7 st0
  (exact xwalkd)
 by_cases h2 : Q < 1
 ·left
  obtain ⟨a0, a1, a2, a3, a4, a5, a6, a7, rfl⟩ := eight ha
  simp only [I, List.map_cons, List.map_nil, List.cons_append, List.nil_append] at *
  refine pcr_byq ok7 hG (n := 63) (rv := [.cell 2 true 15, .cell 3 true 15, .tmp 4]) fun r hr => ?_; unfold c7 st0
  (exact xwalkd)
 cases l with
 | true =>
  left
  obtain ⟨a0, a1, a2, a3, a4, a5, a6, a7, rfl⟩ := eight ha
  simp only [I, List.map_cons, List.map_nil, List.cons_append, List.nil_append] at *
  refine pcr_byq ok7 hG (n := 63) (rv := [.cell 2 true 15, .cell 3 true 15, .tmp 4]) fun r hr => ?_; unfold c7 st0
  (exact xwalkd)
 | false =>
 cases hgd : goodD a with
 | false =>
  left
  rw [hgd] at hg
  clear hgd
  obtain ⟨a0, a1, a2, a3, a4, a5, a6, a7, rfl⟩ := eight ha
  simp only [I, List.map_cons, List.map_nil, List.cons_append, List.nil_append] at *
  refine pcr_byq ok7 hG (n := 63) (rv := [.cell 2 true 15, .cell 3 true 15, .tmp 4]) fun r hr => ?_; unfold c7 st0
  (exact xwalkd)
 | true =>
 right
 rw [hgd] at hg
 clear hgd
 obtain ⟨hb1, hb2⟩ := hlf rfl
 have hq := qm_in (b := b) (L := 12) hn hx hm hy (by omega) hb1 hb2
 have hown := pcr_own hG b x n hn hx hb1 y m hm hy hb2
 have hf := raw_qm hP hQ
 have hpos := raw_pos (P := P) (Q := Q) (by omega) (by omega)
 refine ⟨rfl, mkRat P Q.toNat, _, hpos, hf, hq, sm_mk ha c hf hq rfl rfl, ?_⟩
 have c1 := NumT.pcr_of (G := G) hG P (by omega) (by omega)
 have c2 := NatT.pcr_of (G := G) hG Q.toNat (by omega)
 have c3 := RatT.pcr_of (G := G) hG (b := ng P) (nm_N (X := P.natAbs) (L := 2) (by omega)) (nm_N (X := Q.toNat) (L := 2) (by omega)) (by omega) (by omega) (by omega)
 have c4 := pcr_zint (G := G) hG P (by omega) (by omega)
 have c5 := pcr_rsmall (G := G) hG Q.toNat (by omega)
 have c6 := pcr_qof (G := G) hG (z := P) (Y := Q.toNat) (L := 2) (L' := 2) (by omega) (by omega) (by omega) (by omega) (by omega)
 rw [sg_self] at c3
 have hQn : ((Q.toNat : Nat) : Int) = Q := by omega
 rw [hQn] at c2 c5
 generalize mkRat P Q.toNat = f at *
 generalize vq b x y = o at *
 unfold smR
 obtain ⟨a0, a1, a2, a3, a4, a5, a6, a7, rfl⟩ := eight ha
 simp only [I, List.map_cons, List.map_nil, List.cons_append, List.nil_append] at *
 refine pcr_byq ok7 hG (n := 63) (rv := [.cell 2 true 15, .cell 3 true 15, .tmp 4]) fun r hr => ?_; unfold c7 st0
 (exact xwalkd)
theorem pcr_sum1 (hG : Stable G) {a : List Int} (ha : a.length = 8) {P : Int} (hP : -9223372036854775808 ≤ P ∧ P ≤ 9223372036854775807) {Q : Int} (hQ : -9223372036854775808 ≤ Q ∧ Q ≤ 9223372036854775807) (b : Bool) {x : List Int} {n : Nat} (hn : n = x.length) (hx : ok 4294967296 x)
  {y : List Int} {m : Nat} (hm : m = y.length) (hy : ok 4294967296 y) (c : Bool) :
  ∃ (k : Bool) (a' : List Int) (b1 : Bool) (n1 : Nat) (c1 : List D) (m1 : Nat) (e1 : List D) (b2 : Bool) (n2 : Nat) (c2 : List D) (m2 : Nat) (e2 : List D) (h : Bool) (u : List D), a'.length = 8 ∧ u.length = 15 ∧ u.all D.one = true ∧
   PCr Tryz.prog G 7 [rawD a P Q b n x m y c] (.tup [smD a' b1 n1 c1 m1 e1 b2 n2 c2 m2 e2 h, .agg u, .bool k]) ∧ (k = true → ∃ f o, goodD a' = true ∧ 0 < f ∧ Qm 12 f (QD f) ∧ Qm 12 o (QD o) ∧ Sm 12 a' f o h (smD a' b1 n1 c1 m1 e1 b2 n2 c2 m2 e2 h)) := by
 rcases pcr_sum hG ha hP hQ b hn hx hm hy c with s1 | ⟨ga, fa, sa, hfa, hfq, hoq, hsa, s1⟩
 ·exact ⟨false, [0, 0, 0, 0, 0, 0, 0, 0], false, 0, [], 0, [], false, 0, [], 0, [], false, _, rfl, rfl, rfl, s1, fun h => Bool.noConfusion h⟩
 ·obtain ⟨_, ba1, na1, ca1, ma1, ea1, ba2, na2, ca2, ma2, ea2, hqa, hqoa, rfl⟩ := id hsa
  exact ⟨true, a, _, _, _, _, _, _, _, _, _, _, _, _, ha, by simp [smR, ha], by simp [smR, List.all_append, I_one, D.one, M], s1, fun _ => ⟨fa, _, ga, hfa, hfq, hoq.self, hsa⟩⟩
end Go.Proofs.YtodinbldpcldiaaGreatDoorK.LawT13
