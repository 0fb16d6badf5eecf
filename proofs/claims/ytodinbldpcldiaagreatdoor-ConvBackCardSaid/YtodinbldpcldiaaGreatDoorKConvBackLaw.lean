/-
 cubitlaw13.ConvBack answers true.
-/
import Derived.Test.YtodinbldpcldiaaGreatDoorKIrLConvBack
import Derived.Test.YtodinbldpcldiaaGreatDoorKAwakeT13
import Derived.Test.YtodinbldpcldiaaGreatDoorKHs13
import Derived.Test.YtodinbldpcldiaaGreatDoorKCa
set_option linter.all false
set_option maxHeartbeats 0
namespace Go.Proofs.YtodinbldpcldiaaGreatDoorK.LawT13
open AI NatIr Dig NatT NumT RatT RefT DimsT ConvT
attribute [local irreducible] awp awpOps
attribute [local go_sem] V_getD V_set V_take V_drop V_imm V_one V_app V_app1 V_repl V_get1 V_length M List.length_append
attribute [local go_sem] nl ZD MZ
attribute [local go_sem] QD MQ
attribute [local go_sem] not_true_eq_false not_false_eq_true eq_self decide_true beq_self_eq_true
variable {G : World → Prop}
theorem pcr_back_law (hG : Stable G) (hT : ∀ w, G w → Lib.TabIs Tryz.prog w "internal/strconv.uint64pow10" .u64 Lib.pow10Tab) (hM : ∀ w, G w → LibT.gMax w)
  (bq : Bool) (xq : List Int) (nq : Nat) (hnq : nq = xq.length) (hxq : ok 4294967296 xq) (hlxq : xq.length ≤ 9223372036854775807) (yq : List Int) (mq : Nat) (hmq : mq = yq.length) (hyq : ok 4294967296 yq) (hlyq : yq.length ≤ 9223372036854775807)
  (a : List Int) (ha : a.length = 8) (P : Int) (hP : -9223372036854775808 ≤ P ∧ P ≤ 9223372036854775807) (Q : Int) (hQ : -9223372036854775808 ≤ Q ∧ Q ≤ 9223372036854775807) (b : Bool) (x : List Int) (n : Nat) (hn : n = x.length) (hx : ok 4294967296 x) (hlx : x.length ≤ 9223372036854775807) (y : List Int) (m : Nat) (hm : m = y.length) (hy : ok 4294967296 y) (hly : y.length ≤ 9223372036854775807) (c : Bool)
  (a' : List Int) (ha' : a'.length = 8) (P' : Int) (hP' : -9223372036854775808 ≤ P' ∧ P' ≤ 9223372036854775807) (Q' : Int) (hQ' : -9223372036854775808 ≤ Q' ∧ Q' ≤ 9223372036854775807) (b' : Bool) (x' : List Int) (n' : Nat) (hn' : n' = x'.length) (hx' : ok 4294967296 x') (hlx' : x'.length ≤ 9223372036854775807) (y' : List Int) (m' : Nat) (hm' : m' = y'.length) (hy' : ok 4294967296 y') (hly' : y'.length ≤ 9223372036854775807) (c' : Bool)
  (a'' : List Int) (ha'' : a''.length = 8) (P'' : Int) (hP'' : -9223372036854775808 ≤ P'' ∧ P'' ≤ 9223372036854775807) (Q'' : Int) (hQ'' : -9223372036854775808 ≤ Q'' ∧ Q'' ≤ 9223372036854775807) (b'' : Bool) (x'' : List Int) (n'' : Nat) (hn'' : n'' = x''.length) (hx'' : ok 4294967296 x'') (hlx'' : x''.length ≤ 9223372036854775807) (y'' : List Int) (m'' : Nat) (hm'' : m'' = y''.length) (hy'' : ok 4294967296 y'') (hly'' : y''.length ≤ 9223372036854775807) (c'' : Bool) :
  PCr Tryz.prog G 4 [.agg [.bool bq, .sl nq (W xq), .sl mq (W yq)], rawD a P Q b n x m y c, rawD a' P' Q' b' n' x' m' y' c', rawD a'' P'' Q'' b'' n'' x'' m'' y'' c''] (.bool true) := by
 have haw := pcr_awake hG hT hM
 obtain ⟨lq, hlq, hlqf⟩ := pcr_longq hG bq nq mq (W xq) (W yq)
 obtain ⟨ka, va, ba1, na1, ca1, ma1, ea1, ba2, na2, ca2, ma2, ea2, hha, ua, lva, hua1, hua2, s1, g1⟩ := pcr_sum1 hG ha hP hQ b hn hx hm hy c
 obtain ⟨kb, vb, bb1, nb1, cb1, mb1, eb1, bb2, nb2, cb2, mb2, eb2, hhb, ub, lvb, hub1, hub2, s2, g2⟩ := pcr_sum1 hG ha' hP' hQ' b' hn' hx' hm' hy' c'
 obtain ⟨kc, vc, bc1, nc1, cc1, mc1, ec1, bc2, nc2, cc2, mc2, ec2, hhc, uc, lvc, huc1, huc2, s3, g3⟩ := pcr_sum1 hG ha'' hP'' hQ'' b'' hn'' hx'' hm'' hy'' c''
 cases ka with
 | false =>
  obtain ⟨a0, a1, a2, a3, a4, a5, a6, a7, rfl⟩ := eight ha
  obtain ⟨ax0, ax1, ax2, ax3, ax4, ax5, ax6, ax7, rfl⟩ := eight ha'
  obtain ⟨axx0, axx1, axx2, axx3, axx4, axx5, axx6, axx7, rfl⟩ := eight ha''
  obtain ⟨va0, va1, va2, va3, va4, va5, va6, va7, rfl⟩ := eight lva
  obtain ⟨vb0, vb1, vb2, vb3, vb4, vb5, vb6, vb7, rfl⟩ := eight lvb
  obtain ⟨vc0, vc1, vc2, vc3, vc4, vc5, vc6, vc7, rfl⟩ := eight lvc
  simp only [rawD, smD, I, List.map_cons, List.map_nil, List.cons_append, List.nil_append] at *
  refine pcr_byq ok4 hG (n := 115) (rv := [.tmp 8]) fun r hr => ?_; unfold c4 st0
  (have we1 := hua1; have we2 := hua2; have we3 := hub1; have we4 := hub2; have we5 := huc1; have we6 := huc2; exact xwalkd6)
 | true =>
 cases kb with
 | false =>
  obtain ⟨a0, a1, a2, a3, a4, a5, a6, a7, rfl⟩ := eight ha
  obtain ⟨ax0, ax1, ax2, ax3, ax4, ax5, ax6, ax7, rfl⟩ := eight ha'
  obtain ⟨axx0, axx1, axx2, axx3, axx4, axx5, axx6, axx7, rfl⟩ := eight ha''
  obtain ⟨va0, va1, va2, va3, va4, va5, va6, va7, rfl⟩ := eight lva
  obtain ⟨vb0, vb1, vb2, vb3, vb4, vb5, vb6, vb7, rfl⟩ := eight lvb
  obtain ⟨vc0, vc1, vc2, vc3, vc4, vc5, vc6, vc7, rfl⟩ := eight lvc
  simp only [rawD, smD, I, List.map_cons, List.map_nil, List.cons_append, List.nil_append] at *
  refine pcr_byq ok4 hG (n := 115) (rv := [.tmp 8]) fun r hr => ?_; unfold c4 st0
  (have we1 := hua1; have we2 := hua2; have we3 := hub1; have we4 := hub2; have we5 := huc1; have we6 := huc2; exact xwalkd6)
 | true =>
 cases kc with
 | false =>
  obtain ⟨a0, a1, a2, a3, a4, a5, a6, a7, rfl⟩ := eight ha
  obtain ⟨ax0, ax1, ax2, ax3, ax4, ax5, ax6, ax7, rfl⟩ := eight ha'
  obtain ⟨axx0, axx1, axx2, axx3, axx4, axx5, axx6, axx7, rfl⟩ := eight ha''
  obtain ⟨va0, va1, va2, va3, va4, va5, va6, va7, rfl⟩ := eight lva
  obtain ⟨vb0, vb1, vb2, vb3, vb4, vb5, vb6, vb7, rfl⟩ := eight lvb
  obtain ⟨vc0, vc1, vc2, vc3, vc4, vc5, vc6, vc7, rfl⟩ := eight lvc
  simp only [rawD, smD, I, List.map_cons, List.map_nil, List.cons_append, List.nil_append] at *
  refine pcr_byq ok4 hG (n := 115) (rv := [.tmp 8]) fun r hr => ?_; unfold c4 st0
  (have we1 := hua1; have we2 := hua2; have we3 := hub1; have we4 := hub2; have we5 := huc1; have we6 := huc2; exact xwalkd6)
 | true =>
 cases lq with
 | true =>
  obtain ⟨a0, a1, a2, a3, a4, a5, a6, a7, rfl⟩ := eight ha
  obtain ⟨ax0, ax1, ax2, ax3, ax4, ax5, ax6, ax7, rfl⟩ := eight ha'
  obtain ⟨axx0, axx1, axx2, axx3, axx4, axx5, axx6, axx7, rfl⟩ := eight ha''
  obtain ⟨va0, va1, va2, va3, va4, va5, va6, va7, rfl⟩ := eight lva
  obtain ⟨vb0, vb1, vb2, vb3, vb4, vb5, vb6, vb7, rfl⟩ := eight lvb
  obtain ⟨vc0, vc1, vc2, vc3, vc4, vc5, vc6, vc7, rfl⟩ := eight lvc
  simp only [rawD, smD, I, List.map_cons, List.map_nil, List.cons_append, List.nil_append] at *
  refine pcr_byq ok4 hG (n := 115) (rv := [.tmp 8]) fun r hr => ?_; unfold c4 st0
  (have we1 := hua1; have we2 := hua2; have we3 := hub1; have we4 := hub2; have we5 := huc1; have we6 := huc2; exact xwalkd6)
 | false =>
 obtain ⟨hb1, hb2⟩ := hlqf rfl
 obtain ⟨gd, hgd⟩ := RatT.pcr_goodX (G := G) hG bq xq nq hnq hxq (by omega) yq mq hmq hyq (by omega)
 cases gd with
 | false =>
  obtain ⟨a0, a1, a2, a3, a4, a5, a6, a7, rfl⟩ := eight ha
  obtain ⟨ax0, ax1, ax2, ax3, ax4, ax5, ax6, ax7, rfl⟩ := eight ha'
  obtain ⟨axx0, axx1, axx2, axx3, axx4, axx5, axx6, axx7, rfl⟩ := eight ha''
  obtain ⟨va0, va1, va2, va3, va4, va5, va6, va7, rfl⟩ := eight lva
  obtain ⟨vb0, vb1, vb2, vb3, vb4, vb5, vb6, vb7, rfl⟩ := eight lvb
  obtain ⟨vc0, vc1, vc2, vc3, vc4, vc5, vc6, vc7, rfl⟩ := eight lvc
  simp only [rawD, smD, I, List.map_cons, List.map_nil, List.cons_append, List.nil_append] at *
  refine pcr_byq ok4 hG (n := 115) (rv := [.tmp 8]) fun r hr => ?_; unfold c4 st0
  (have we1 := hua1; have we2 := hua2; have we3 := hub1; have we4 := hub2; have we5 := huc1; have we6 := huc2; exact xwalkd6)
 | true =>
 have hq := qm_in (b := bq) (L := 12) hnq hxq hmq hyq (by omega) hb1 hb2
 generalize vq bq xq yq = q at *
 obtain ⟨fa, oa, ga, hfa, hfqa, hoqa, hsa⟩ := g1 rfl
 obtain ⟨fb, ob, gb, hfb, hfqb, hoqb, hsb⟩ := g2 rfl
 obtain ⟨fc, oc, gc, hfc, hfqc, hoqc, hsc⟩ := g3 rfl
 clear g1 g2 g3 hlqf
 have d1 := pcr_do (G := G) hG hq hsa hsb (by omega) (by omega)
 have q1 := doQ_qm (a := va) (b := vb) (ha := hha) (hb := hhb) hq hfqa hoqa hfqb hoqb
 obtain ⟨r, e, hre⟩ : ∃ r e, doQ q va vb fa oa hha fb ob hhb = (r, e) := ⟨_, _, rfl⟩
 rw [hre] at d1 q1
 dsimp only at d1 q1
 by_cases he : e = 0
 case neg =>
  clear hre
  obtain ⟨a0, a1, a2, a3, a4, a5, a6, a7, rfl⟩ := eight ha
  obtain ⟨ax0, ax1, ax2, ax3, ax4, ax5, ax6, ax7, rfl⟩ := eight ha'
  obtain ⟨axx0, axx1, axx2, axx3, axx4, axx5, axx6, axx7, rfl⟩ := eight ha''
  obtain ⟨va0, va1, va2, va3, va4, va5, va6, va7, rfl⟩ := eight lva
  obtain ⟨vb0, vb1, vb2, vb3, vb4, vb5, vb6, vb7, rfl⟩ := eight lvb
  obtain ⟨vc0, vc1, vc2, vc3, vc4, vc5, vc6, vc7, rfl⟩ := eight lvc
  simp only [rawD, smD, I, List.map_cons, List.map_nil, List.cons_append, List.nil_append] at *
  refine pcr_byq ok4 hG (n := 115) (rv := [.tmp 8]) fun r hr => ?_; unfold c4 st0
  (have we1 := hua1; have we2 := hua2; have we3 := hub1; have we4 := hub2; have we5 := huc1; have we6 := huc2; exact xwalkd6)
 subst he
 have hbk := doQ_back ga gb hfa hfb hre
 have d2 := pcr_do (G := G) hG q1 hsb hsa (by omega) (by omega)
 rw [hbk] at d2
 dsimp only at d2
 have cm1 := RatT.pcr_cmp (G := G) hG hq.self hq (by omega) (by omega)
 rw [cmp_eq rfl] at cm1
 have d3 := pcr_do (G := G) hG q1 hsb hsc (by omega) (by omega)
 have q3 := doQ_qm (a := vb) (b := vc) (ha := hhb) (hb := hhc) q1 hfqb hoqb hfqc hoqc
 have d4 := pcr_do (G := G) hG hq hsa hsc (by omega) (by omega)
 have q4 := doQ_qm (a := va) (b := vc) (ha := hha) (hb := hhc) hq hfqa hoqa hfqc hoqc
 obtain ⟨mm, g, hmg⟩ : ∃ r' e', doQ r vb vc fb ob hhb fc oc hhc = (r', e') := ⟨_, _, rfl⟩
 obtain ⟨nn, h, hnh⟩ : ∃ r e, doQ q va vc fa oa hha fc oc hhc = (r, e) := ⟨_, _, rfl⟩
 rw [hmg] at d3 q3
 rw [hnh] at d4 q4
 dsimp only at d3 q3 d4 q4
 by_cases hg : g = 0
 case neg =>
  clear hre hbk hmg hnh
  obtain ⟨a0, a1, a2, a3, a4, a5, a6, a7, rfl⟩ := eight ha
  obtain ⟨ax0, ax1, ax2, ax3, ax4, ax5, ax6, ax7, rfl⟩ := eight ha'
  obtain ⟨axx0, axx1, axx2, axx3, axx4, axx5, axx6, axx7, rfl⟩ := eight ha''
  obtain ⟨va0, va1, va2, va3, va4, va5, va6, va7, rfl⟩ := eight lva
  obtain ⟨vb0, vb1, vb2, vb3, vb4, vb5, vb6, vb7, rfl⟩ := eight lvb
  obtain ⟨vc0, vc1, vc2, vc3, vc4, vc5, vc6, vc7, rfl⟩ := eight lvc
  simp only [rawD, smD, I, List.map_cons, List.map_nil, List.cons_append, List.nil_append] at *
  refine pcr_byq ok4 hG (n := 115) (rv := [.tmp 8]) fun r hr => ?_; unfold c4 st0
  (have we1 := hua1; have we2 := hua2; have we3 := hub1; have we4 := hub2; have we5 := huc1; have we6 := huc2; exact xwalkd6)
 by_cases hh : h = 0
 case neg =>
  clear hre hbk hmg hnh
  obtain ⟨a0, a1, a2, a3, a4, a5, a6, a7, rfl⟩ := eight ha
  obtain ⟨ax0, ax1, ax2, ax3, ax4, ax5, ax6, ax7, rfl⟩ := eight ha'
  obtain ⟨axx0, axx1, axx2, axx3, axx4, axx5, axx6, axx7, rfl⟩ := eight ha''
  obtain ⟨va0, va1, va2, va3, va4, va5, va6, va7, rfl⟩ := eight lva
  obtain ⟨vb0, vb1, vb2, vb3, vb4, vb5, vb6, vb7, rfl⟩ := eight lvb
  obtain ⟨vc0, vc1, vc2, vc3, vc4, vc5, vc6, vc7, rfl⟩ := eight lvc
  simp only [rawD, smD, I, List.map_cons, List.map_nil, List.cons_append, List.nil_append] at *
  refine pcr_byq ok4 hG (n := 115) (rv := [.tmp 8]) fun r hr => ?_; unfold c4 st0
  (have we1 := hua1; have we2 := hua2; have we3 := hub1; have we4 := hub2; have we5 := huc1; have we6 := huc2; exact xwalkd6)
 subst hg hh
 have heq := doQ_thru ga gb gc hfa hfb hfc hre hmg hnh
 subst heq
 have cm2 := RatT.pcr_cmp (G := G) hG q3.self q4.self (by omega) (by omega)
 rw [cmp_eq rfl] at cm2
 clear hre hbk hmg hnh
 obtain ⟨a0, a1, a2, a3, a4, a5, a6, a7, rfl⟩ := eight ha
 obtain ⟨ax0, ax1, ax2, ax3, ax4, ax5, ax6, ax7, rfl⟩ := eight ha'
 obtain ⟨axx0, axx1, axx2, axx3, axx4, axx5, axx6, axx7, rfl⟩ := eight ha''
 obtain ⟨va0, va1, va2, va3, va4, va5, va6, va7, rfl⟩ := eight lva
 obtain ⟨vb0, vb1, vb2, vb3, vb4, vb5, vb6, vb7, rfl⟩ := eight lvb
 obtain ⟨vc0, vc1, vc2, vc3, vc4, vc5, vc6, vc7, rfl⟩ := eight lvc
 simp only [rawD, smD, I, List.map_cons, List.map_nil, List.cons_append, List.nil_append] at *
 refine pcr_byq ok4 hG (n := 115) (rv := [.tmp 8]) fun r hr => ?_; unfold c4 st0
 (have we1 := hua1; have we2 := hua2; have we3 := hub1; have we4 := hub2; have we5 := huc1; have we6 := huc2; exact xwalkd6)
end Go.Proofs.YtodinbldpcldiaaGreatDoorK.LawT13
