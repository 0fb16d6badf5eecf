/-
 cubitlaw13.ConvSame answers true.
-/
import Derived.Test.YtmhhgkchednpjaaGreatDoorKIrLConvSame
import Derived.Test.YtmhhgkchednpjaaGreatDoorKAwakeT13
import Derived.Test.YtmhhgkchednpjaaGreatDoorKHs13
import Derived.Test.YtmhhgkchednpjaaGreatDoorKCa
set_option linter.all false
set_option maxHeartbeats 0
namespace Go.Proofs.YtmhhgkchednpjaaGreatDoorK.LawT13
open AI NatIr Dig NatT NumT RatT RefT DimsT ConvT
attribute [local irreducible] awp awpOps
attribute [local go_sem] V_getD V_set V_take V_drop V_imm V_one V_app V_app1 V_repl V_get1 V_length M List.length_append
attribute [local go_sem] nl ZD MZ
attribute [local go_sem] QD MQ
attribute [local go_sem] not_true_eq_false not_false_eq_true eq_self decide_true beq_self_eq_true
variable {G : World → Prop}
theorem same_half {q f o : Rat} (h : f ≠ 0) : (q * f + o + -o) * (f * ((2 : Int) : Rat))⁻¹ * ((2 : Int) : Rat) = q := by
 have e1 : f * f⁻¹ = 1 := Rat.mul_inv_cancel f h
 rw [show ((2 : Int) : Rat) = 2 from rfl, Rat.inv_mul_rev]
 grind
theorem same_one {q f o : Rat} (h : f ≠ 0) : (q * f + o + -o) * f⁻¹ = q := by
 have e1 : f * f⁻¹ = 1 := Rat.mul_inv_cancel f h
 grind
theorem pcr_same_law (hG : Stable G) (hT : ∀ w, G w → Lib.TabIs Tryz.prog w "internal/strconv.uint64pow10" .u64 Lib.pow10Tab) (hM : ∀ w, G w → LibT.gMax w)
  (bq : Bool) (xq : List Int) (nq : Nat) (hnq : nq = xq.length) (hxq : ok 4294967296 xq) (hlxq : xq.length ≤ 9223372036854775807) (yq : List Int) (mq : Nat) (hmq : mq = yq.length) (hyq : ok 4294967296 yq) (hlyq : yq.length ≤ 9223372036854775807)
  (a : List Int) (ha : a.length = 8) (P : Int) (hP : -9223372036854775808 ≤ P ∧ P ≤ 9223372036854775807) (Q : Int) (hQ : -9223372036854775808 ≤ Q ∧ Q ≤ 9223372036854775807) (b : Bool) (x : List Int) (n : Nat) (hn : n = x.length) (hx : ok 4294967296 x) (hlx : x.length ≤ 9223372036854775807) (y : List Int) (m : Nat) (hm : m = y.length) (hy : ok 4294967296 y) (hly : y.length ≤ 9223372036854775807) (c : Bool) :
  PCr Tryz.prog G 11 [.agg [.bool bq, .sl nq (W xq), .sl mq (W yq)], rawD a P Q b n x m y c] (.bool true) := by
 have haw := pcr_awake hG hT hM
 obtain ⟨lq, hlq, hlqf⟩ := pcr_longq hG bq nq mq (W xq) (W yq)
 obtain ⟨ka, va, ba1, na1, ca1, ma1, ea1, ba2, na2, ca2, ma2, ea2, hha, ua, lva, hua1, hua2, s1, g1⟩ := pcr_sum1 hG ha hP hQ b hn hx hm hy c
 cases ka with
 | false =>
  obtain ⟨a0, a1, a2, a3, a4, a5, a6, a7, rfl⟩ := eight ha
  obtain ⟨va0, va1, va2, va3, va4, va5, va6, va7, rfl⟩ := eight lva
  simp only [rawD, smD, I, List.map_cons, List.map_nil, List.cons_append, List.nil_append] at *
  refine pcr_byq ok11 hG (n := 87) (rv := [.tmp 4]) fun r hr => ?_; unfold c11 st0
  (have we1 := hua1; have we2 := hua2; exact xwalkd2)
 | true =>
 cases lq with
 | true =>
  obtain ⟨a0, a1, a2, a3, a4, a5, a6, a7, rfl⟩ := eight ha
  obtain ⟨va0, va1, va2, va3, va4, va5, va6, va7, rfl⟩ := eight lva
  simp only [rawD, smD, I, List.map_cons, List.map_nil, List.cons_append, List.nil_append] at *
  refine pcr_byq ok11 hG (n := 87) (rv := [.tmp 4]) fun r hr => ?_; unfold c11 st0
  (have we1 := hua1; have we2 := hua2; exact xwalkd2)
 | false =>
 obtain ⟨hb1, hb2⟩ := hlqf rfl
 obtain ⟨gd, hgd⟩ := RatT.pcr_goodX (G := G) hG bq xq nq hnq hxq (by omega) yq mq hmq hyq (by omega)
 cases gd with
 | false =>
  obtain ⟨a0, a1, a2, a3, a4, a5, a6, a7, rfl⟩ := eight ha
  obtain ⟨va0, va1, va2, va3, va4, va5, va6, va7, rfl⟩ := eight lva
  simp only [rawD, smD, I, List.map_cons, List.map_nil, List.cons_append, List.nil_append] at *
  refine pcr_byq ok11 hG (n := 87) (rv := [.tmp 4]) fun r hr => ?_; unfold c11 st0
  (have we1 := hua1; have we2 := hua2; exact xwalkd2)
 | true =>
 have hq := qm_in (b := bq) (L := 12) hnq hxq hmq hyq (by omega) hb1 hb2
 generalize vq bq xq yq = q at *
 obtain ⟨fa, oa, ga, hfa, hfqa, hoqa, hsa⟩ := g1 rfl
 clear g1 hlqf
 have nfa := ne_of_pos hfa
 have d1 := pcr_do (G := G) hG hq hsa hsa (by omega) (by omega)
 rw [doQ_one (way_self va), same_one nfa] at d1
 dsimp only at d1
 obtain ⟨_, b1', n1', c1', m1', e1', b2', n2', c2', m2', e2', hf1, ho1, hE⟩ := id hsa
 simp only [smD, D.agg.injEq, List.append_cancel_left_eq, List.cons.injEq, D.bool.injEq, D.sl.injEq, and_true] at hE
 obtain ⟨rfl, ⟨rfl, rfl⟩, ⟨rfl, rfl⟩, rfl, ⟨rfl, rfl⟩, ⟨rfl, rfl⟩⟩ := hE
 have c2 := RatT.pcr_int (G := G) hG 2 (by omega) (by omega)
 have q2 := qm_int 2 (by decide)
 have c3 := RatT.pcr_mul (G := G) hG hf1 q2 (by omega) (by omega)
 have q3 := qm_mul hf1 q2
 have hsy : Sm 14 va (fa * ((2 : Int) : Rat)) oa hha (.agg (I va ++ [.bool (ng (fa * ((2 : Int) : Rat)).num), nl (fa * ((2 : Int) : Rat)).num.natAbs, nl (fa * ((2 : Int) : Rat)).den, .bool ba2, .sl na2 ca2, .sl ma2 ea2, .bool hha])) :=
  sm_mk lva hha (q3.up (by omega)) (ho1.up (by omega)) rfl rfl
 have hsa14 : Sm 14 va fa oa hha (smD va ba1 na1 ca1 ma1 ea1 ba2 na2 ca2 ma2 ea2 hha) := ⟨lva, _, _, _, _, _, _, _, _, _, _, hf1.up (by omega), ho1.up (by omega), rfl⟩
 have d2 := pcr_do (G := G) hG hq hsa14 hsy (by omega) (by omega)
 have q4 := doQ_qm (a := va) (b := va) (ha := hha) (hb := hha) hq (hfqa.up (show 12 ≤ 14 by omega)) (hoqa.up (show 12 ≤ 14 by omega)) (q3.up (show 12 + 2 ≤ 14 by omega)) (hoqa.up (show 12 ≤ 14 by omega))
 rw [doQ_one (way_self va)] at d2 q4
 dsimp only at d2 q4
 have hhf := same_half (q := q) (o := if hha = true then oa else 0) nfa
 generalize (q * fa + (if hha = true then oa else 0) + -(if hha = true then oa else 0)) * (fa * ((2 : Int) : Rat))⁻¹ = s at *
 have c4 := RatT.pcr_mul (G := G) hG q4 q2 (by omega) (by omega)
 have q5 := qm_mul q4 q2
 rw [hhf] at c4 q5
 have cm1 := RatT.pcr_cmp (G := G) hG hq.self hq (by omega) (by omega)
 rw [cmp_eq rfl] at cm1
 have hw := pcr_ways (G := G) hG lva lva (.bool ba1) (.sl na1 ca1) (.sl ma1 ea1) (.bool ba2) (.sl na2 ca2) (.sl ma2 ea2) (.bool hha) (.bool ba1) (.sl na1 ca1) (.sl ma1 ea1) (.bool ba2) (.sl na2 ca2) (.sl ma2 ea2) (.bool hha)
 rw [way_self va] at hw
 clear hsa hsa14 hsy hf1 ho1 hfqa hoqa q3 q4 q5
 obtain ⟨a0, a1, a2, a3, a4, a5, a6, a7, rfl⟩ := eight ha
 obtain ⟨va0, va1, va2, va3, va4, va5, va6, va7, rfl⟩ := eight lva
 simp only [rawD, smD, ne_eq, Int.one_ne_zero, not_false_eq_true, decide_true, I, List.map_cons, List.map_nil, List.cons_append, List.nil_append] at *
 refine pcr_byq ok11 hG (n := 87) (rv := [.tmp 4]) fun r hr => ?_; unfold c11 st0
 (have we1 := hua1; have we2 := hua2; exact xwalkd2)
end Go.Proofs.YtmhhgkchednpjaaGreatDoorK.LawT13
