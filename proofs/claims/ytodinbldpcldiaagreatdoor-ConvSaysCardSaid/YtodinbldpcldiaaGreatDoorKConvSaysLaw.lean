/-
 cubitlaw13.ConvSays answers true.
-/
import Derived.Test.YtodinbldpcldiaaGreatDoorKIrLConvSays
import Derived.Test.YtodinbldpcldiaaGreatDoorKAwakeT13
import Derived.Test.YtodinbldpcldiaaGreatDoorKHs13
import Derived.Test.YtodinbldpcldiaaGreatDoorKCa
set_option linter.all false
set_option maxHeartbeats 0
namespace Go.Proofs.YtodinbldpcldiaaGreatDoorK.LawT13
open AI NatIr Dig NatT NumT RatT RefT DimsT ConvT
attribute [local irreducible] awp awpOps
attribute [local go_sem] V_getD V_set V_take V_drop V_imm V_one V_app V_app1 V_repl V_get1 V_length M List.length_append
attribute [local go_sem] nl ZD MZ
attribute [local go_sem] QD MQ
attribute [local go_sem] not_true_eq_false not_false_eq_true eq_self decide_true beq_self_eq_true
variable {G : World → Prop}
theorem pcr_says_law (hG : Stable G) (hT : ∀ w, G w → Lib.TabIs Tryz.prog w "internal/strconv.uint64pow10" .u64 Lib.pow10Tab) (hM : ∀ w, G w → LibT.gMax w)
  (bq : Bool) (xq : List Int) (nq : Nat) (hnq : nq = xq.length) (hxq : ok 4294967296 xq) (hlxq : xq.length ≤ 9223372036854775807) (yq : List Int) (mq : Nat) (hmq : mq = yq.length) (hyq : ok 4294967296 yq) (hlyq : yq.length ≤ 9223372036854775807)
  (a : List Int) (ha : a.length = 8) (P : Int) (hP : -9223372036854775808 ≤ P ∧ P ≤ 9223372036854775807) (Q : Int) (hQ : -9223372036854775808 ≤ Q ∧ Q ≤ 9223372036854775807) (b : Bool) (x : List Int) (n : Nat) (hn : n = x.length) (hx : ok 4294967296 x) (hlx : x.length ≤ 9223372036854775807) (y : List Int) (m : Nat) (hm : m = y.length) (hy : ok 4294967296 y) (hly : y.length ≤ 9223372036854775807) (c : Bool)
  (a' : List Int) (ha' : a'.length = 8) (P' : Int) (hP' : -9223372036854775808 ≤ P' ∧ P' ≤ 9223372036854775807) (Q' : Int) (hQ' : -9223372036854775808 ≤ Q' ∧ Q' ≤ 9223372036854775807) (b' : Bool) (x' : List Int) (n' : Nat) (hn' : n' = x'.length) (hx' : ok 4294967296 x') (hlx' : x'.length ≤ 9223372036854775807) (y' : List Int) (m' : Nat) (hm' : m' = y'.length) (hy' : ok 4294967296 y') (hly' : y'.length ≤ 9223372036854775807) (c' : Bool) :
  PCr Tryz.prog G 3 [.agg [.bool bq, .sl nq (W xq), .sl mq (W yq)], rawD a P Q b n x m y c, rawD a' P' Q' b' n' x' m' y' c'] (.bool true) := by
 have haw := pcr_awake hG hT hM
 obtain ⟨lq, hlq, hlqf⟩ := pcr_longq hG bq nq mq (W xq) (W yq)
 rcases pcr_sum hG ha hP hQ b hn hx hm hy c with s1 | ⟨ga, fa, sa, hfa, hfq, hoq, hsa, s1⟩
 ·rcases pcr_sum hG ha' hP' hQ' b' hn' hx' hm' hy' c' with s2 | ⟨ga', fa', sa', hfa', hfq', hoq', hsa', s2⟩
  ·simp only [rawD, zS] at *
   obtain ⟨a0, a1, a2, a3, a4, a5, a6, a7, rfl⟩ := eight ha
   obtain ⟨ax0, ax1, ax2, ax3, ax4, ax5, ax6, ax7, rfl⟩ := eight ha'
   simp only [I, List.map_cons, List.map_nil, List.cons_append, List.nil_append] at *
   refine pcr_byq ok3 hG (n := 91) (rv := [.tmp 6]) fun r hr => ?_; unfold c3 st0
   (exact xwalkd)
  ·obtain ⟨_, bb1, nb1, cb1, mb1, eb1, bb2, nb2, cb2, mb2, eb2, _, _, rfl⟩ := hsa'
   obtain ⟨a0, a1, a2, a3, a4, a5, a6, a7, rfl⟩ := eight ha
   obtain ⟨ax0, ax1, ax2, ax3, ax4, ax5, ax6, ax7, rfl⟩ := eight ha'
   simp only [rawD, zS, smD, smR, I, List.map_cons, List.map_nil, List.cons_append, List.nil_append] at *
   refine pcr_byq ok3 hG (n := 91) (rv := [.tmp 6]) fun r hr => ?_; unfold c3 st0
   (exact xwalkd)
 obtain ⟨_, ba1, na1, ca1, ma1, ea1, ba2, na2, ca2, ma2, ea2, hqa, hqoa, rfl⟩ := id hsa
 rcases pcr_sum hG ha' hP' hQ' b' hn' hx' hm' hy' c' with s2 | ⟨ga', fa', sa', hfa', hfq', hoq', hsa', s2⟩
 ·simp only [rawD, zS, smD, smR] at *
  obtain ⟨a0, a1, a2, a3, a4, a5, a6, a7, rfl⟩ := eight ha
  obtain ⟨ax0, ax1, ax2, ax3, ax4, ax5, ax6, ax7, rfl⟩ := eight ha'
  simp only [I, List.map_cons, List.map_nil, List.cons_append, List.nil_append] at *
  refine pcr_byq ok3 hG (n := 91) (rv := [.tmp 6]) fun r hr => ?_; unfold c3 st0
  (exact xwalkd)
 obtain ⟨_, bb1, nb1, cb1, mb1, eb1, bb2, nb2, cb2, mb2, eb2, hqb, hqob, rfl⟩ := id hsa'
 cases lq with
 | true =>
  obtain ⟨a0, a1, a2, a3, a4, a5, a6, a7, rfl⟩ := eight ha
  obtain ⟨ax0, ax1, ax2, ax3, ax4, ax5, ax6, ax7, rfl⟩ := eight ha'
  simp only [rawD, zS, smD, smR, I, List.map_cons, List.map_nil, List.cons_append, List.nil_append] at *
  refine pcr_byq ok3 hG (n := 91) (rv := [.tmp 6]) fun r hr => ?_; unfold c3 st0
  (exact xwalkd)
 | false =>
 obtain ⟨hb1, hb2⟩ := hlqf rfl
 have hq := qm_in (b := bq) (L := 12) hnq hxq hmq hyq (by omega) hb1 hb2
 have hown := pcr_own hG bq xq nq hnq hxq hb1 yq mq hmq hyq hb2
 generalize vq bq xq yq = q at *
 generalize vq b x y = oa at *
 generalize vq b' x' y' = ob at *
 have hw := pcr_ways (G := G) hG ha ha' (.bool ba1) (.sl na1 ca1) (.sl ma1 ea1) (.bool ba2) (.sl na2 ca2) (.sl ma2 ea2) (.bool c) (.bool bb1) (.sl nb1 cb1) (.sl mb1 eb1) (.bool bb2) (.sl nb2 cb2) (.sl mb2 eb2) (.bool c')
 have hrw := pcr_rways (G := G) hG ha ha' fa oa fa' ob c c'
 rw [wayR_good ga ga'] at hrw
 have hdo := pcr_do (G := G) hG hq hsa hsa' (by omega) (by omega)
 have hrdo := pcr_rdo (G := G) (ha := c) (hb := c') hG hq ha ha' ga ga' hfq hoq hfq' hoq' (by omega) (by omega) (ne_of_pos hfa) (ne_of_pos hfa')
 have hqm := doQ_qm (a := a) (b := a') (ha := c) (hb := c') hq hfq hoq hfq' hoq'
 have hqis := pcr_qis (G := G) hG hqm (by omega)
 obtain ⟨r, e, hre⟩ : ∃ r e, doQ q a a' fa oa c fa' ob c' = (r, e) := ⟨_, _, rfl⟩
 rw [hre] at hdo hrdo hqm hqis
 dsimp only at hdo hrdo hqm hqis
 clear hre hqm hsa hsa' hq hoq hoq' hfq hfq'
 obtain ⟨w, hwd, hw3⟩ : ∃ w, wayD a a' = w ∧ (w = 0 ∨ w = -1 ∨ w = 1) := ⟨_, rfl, way3 a a'⟩
 rw [hwd] at hw hrw
 clear hwd
 by_cases he : e = 0
 ·subst he
  rcases hw3 with rfl | rfl | rfl
  all_goals
   obtain ⟨a0, a1, a2, a3, a4, a5, a6, a7, rfl⟩ := eight ha
   obtain ⟨ax0, ax1, ax2, ax3, ax4, ax5, ax6, ax7, rfl⟩ := eight ha'
   simp only [rawD, zS, smD, smR, ne_eq, not_true_eq_false, Int.reduceEq, Int.reduceNeg, not_false_eq_true, decide_true, decide_false, Int.one_ne_zero, Int.neg_eq_zero, I, List.map_cons, List.map_nil, List.cons_append, List.nil_append] at *
   refine pcr_byq ok3 hG (n := 91) (rv := [.tmp 6]) fun r hr => ?_; unfold c3 st0
   (exact xwalkd)
 ·rcases hw3 with rfl | rfl | rfl
  all_goals
   obtain ⟨a0, a1, a2, a3, a4, a5, a6, a7, rfl⟩ := eight ha
   obtain ⟨ax0, ax1, ax2, ax3, ax4, ax5, ax6, ax7, rfl⟩ := eight ha'
   simp only [rawD, zS, smD, smR, ne_eq, not_true_eq_false, Int.reduceEq, Int.reduceNeg, not_false_eq_true, decide_true, decide_false, Int.one_ne_zero, Int.neg_eq_zero, I, List.map_cons, List.map_nil, List.cons_append, List.nil_append] at *
   refine pcr_byq ok3 hG (n := 91) (rv := [.tmp 6]) fun r hr => ?_; unfold c3 st0
   (exact xwalkd)
end Go.Proofs.YtodinbldpcldiaaGreatDoorK.LawT13
