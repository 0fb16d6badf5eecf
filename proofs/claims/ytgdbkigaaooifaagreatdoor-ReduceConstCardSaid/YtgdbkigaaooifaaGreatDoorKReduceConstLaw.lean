/-
 cubitlaw12.ReduceConst answers true.
-/
import Derived.Test.YtgdbkigaaooifaaGreatDoorKIrLReduceConst
import Derived.Test.YtgdbkigaaooifaaGreatDoorKIrLaw12
import Derived.Test.YtgdbkigaaooifaaGreatDoorKLo12
import Derived.Test.YtgdbkigaaooifaaGreatDoorKRm
set_option linter.all false
set_option maxHeartbeats 0
namespace Go.Proofs.YtgdbkigaaooifaaGreatDoorK.LawT12
open AI NatIr Dig NatT NumT RatT DimsT ConvT TabT EvT
attribute [local irreducible] awp awpOps
attribute [local go_sem] nl ZD
attribute [local go_sem] QD
attribute [local go_sem] not_true_eq_false not_false_eq_true eq_self decide_true beq_self_eq_true
variable {G : World → Prop}
theorem pcr_whole (hG : Stable G) (m : Nat) (hm : m < 18446744073709551616) : PCr Tryz.prog G 21 [.int .u64 m] (.agg [.bool (ng (Rat.num 1)), nl m, nl (Rat.den 1)]) := by
 have ho := NatT.pcr_of (G := G) hG m hm
 have hi1 := RatT.pcr_int (G := G) hG 1 (by omega) (by omega)
 rw [show ((1 : Int) : Rat) = 1 from rfl] at hi1
 refine pcr_byq ok21 hG (n := 10) (rv := [.cell 2 true 3]) fun r hr => ?_; unfold c21 st0
 (exact xwalkd)
theorem whole_qm (m : Nat) (hm : m < 18446744073709551616) : Qm 2 (mkRat m 1) (.agg [.bool (ng (Rat.num 1)), nl m, nl (Rat.den 1)]) :=
 ⟨false, m, 1, nl m, nl 1, by omega, nm_N (by omega), nm_N (by omega), rfl, rfl⟩
theorem pcr_const_law (hG : Stable G) (hT : ∀ w, G w → Lib.TabIs Tryz.prog w "internal/strconv.uint64pow10" .u64 Lib.pow10Tab) (hM : ∀ w, G w → LibT.gMax w)
  (l : List (ByteArray × ByteArray × Int)) (hc : ∀ a ∈ l, a.1.size ≤ 9223372036854775807 ∧ a.2.1.size ≤ 9223372036854775807 ∧ -9223372036854775808 ≤ a.2.2 ∧ a.2.2 ≤ 9223372036854775807) (hl : l.length ≤ 9223372036854775807) (n : Int) (hn : 0 ≤ n ∧ n ≤ 18446744073709551615) :
  PCr Tryz.prog G 6 [.sl l.length (l.flatMap fun a => [.str a.1, .str a.2.1, .int .i64 a.2.2]), .int .u64 n] (.bool true) := by
 clear hc
 obtain ⟨L, hL1, hL2⟩ := ats_of l
 rw [hL1, hL2]
 rw [hL2] at hl
 clear hL1 hL2 l
 have haw := pcr_awake hG hT hM
 have hme := pcr_metric hG hT hM
 have hlo := pcr_load hG hT hM
 rw [mtab_D] at hlo
 obtain ⟨us, hus⟩ := metU_rp
 obtain ⟨ts, hts⟩ := metT_str
 obtain ⟨cs, hcs⟩ : ∃ cs, mtab.D = .rp cs := ⟨_, rfl⟩
 have hci := atsC_imm L
 obtain ⟨m, rfl⟩ : ∃ m : Nat, n = m := ⟨n.toNat, by omega⟩
 by_cases h6 : 6 < L.length
 ·generalize mtab.D = td at *
  generalize metU = mu at *
  generalize metT = mt at *
  generalize atsC L = cL at *
  subst hcs hus hts
  refine pcr_byq ok6 hG (n := 85) (rv := [.tmp 4]) fun r hr => ?_; unfold c6 st0
  (have we1 := hci; exact xwalkd1)
 by_cases h2 : m < 2
 ·generalize mtab.D = td at *
  generalize metU = mu at *
  generalize metT = mt at *
  generalize atsC L = cL at *
  subst hcs hus hts
  refine pcr_byq ok6 hG (n := 85) (rv := [.tmp 4]) fun r hr => ?_; unfold c6 st0
  (have we1 := hci; exact xwalkd1)
 have ho1 := NatT.pcr_of (G := G) hG 1 (by omega)
 have hom := NatT.pcr_of (G := G) hG m (by omega)
 have ha := pcr_rofN (G := G) hG mtab mtab_ok L [] (by omega) (by simp) 1 (by omega) (by omega)
 have hb := pcr_rofN (G := G) hG mtab mtab_ok L [] (by omega) (by simp) m (Nat.lt_of_lt_of_le (show m < 18446744073709551616 by omega) (by decide)) (by omega)
 have hwh := pcr_whole (G := G) hG m (by omega)
 simp only [List.length_nil, show atsC [] = [] from rfl] at ha hb
 rcases of_const mtab_ok (l := L) (c := m) (by omega) with ⟨e, he, e1, e2⟩ | ⟨s, e1, hh, e2⟩ | ⟨s, s', e1, e2, hh1, hh2, hv, hf⟩
 ·rw [e1] at ha
  rw [e2] at hb
  unfold rSum zSum at ha hb
  clear e1 e2
  generalize mtab.D = td at *
  generalize metU = mu at *
  generalize metT = mt at *
  generalize atsC L = cL at *
  subst hcs hus hts
  refine pcr_byq ok6 hG (n := 85) (rv := [.tmp 4]) fun r hr => ?_; unfold c6 st0
  (have we1 := hci; exact xwalkd1)
 ·obtain ⟨s8, _⟩ := ofS_ok mtab_ok (by omega) e1
  rw [e1] at ha
  rw [e2] at hb
  obtain ⟨sv, sf, so, sh⟩ := s
  unfold rSum Sum.D at ha
  unfold rSum zSum at hb
  dsimp only at ha s8 hh
  subst hh
  clear e1 e2
  obtain ⟨a0, a1, a2, a3, a4, a5, a6, a7, rfl⟩ := eight s8
  simp only [I, List.map_cons, List.map_nil, List.cons_append, List.nil_append] at ha
  generalize mtab.D = td at *
  generalize metU = mu at *
  generalize metT = mt at *
  generalize atsC L = cL at *
  subst hcs hus hts
  refine pcr_byq ok6 hG (n := 85) (rv := [.tmp 4]) fun r hr => ?_; unfold c6 st0
  (have we1 := hci; exact xwalkd1)
 ·obtain ⟨s8, sg, sn, sq, so8⟩ := ofS_ok mtab_ok (by omega) e1
  obtain ⟨s8', _, _, sq', _⟩ := ofS_ok mtab_ok (Nat.lt_of_lt_of_le (show m < 18446744073709551616 by omega) (by decide)) e2
  rw [e1] at ha
  rw [e2] at hb
  obtain ⟨sv, sf, so, sh⟩ := s
  obtain ⟨sv', sf', so', sh'⟩ := s'
  unfold rSum Sum.D at ha hb
  simp only [List.length_nil, Nat.zero_add, Nat.add_zero] at sq sq'
  dsimp only at ha hb s8 s8' hh1 hh2 hv hf sn sq sq' sg
  subst hh1 hh2 hv
  clear e1 e2
  have hmu := RatT.pcr_mul (G := G) hG sq' (whole_qm m (by omega)) (by omega) (by omega)
  rw [← hf] at hmu
  have hcm := RatT.pcr_cmp (G := G) hG sq sq (by omega) (by omega)
  rw [cmp_eq rfl] at hcm
  have e7 := IEq (a := sv') (b := sv') rfl
  rw [decide_eq_true rfl] at e7
  clear sq sq' so8 sg hf
  obtain ⟨b0, b1, b2, b3, b4, b5, b6, b7, rfl⟩ := eight s8'
  simp only [I, List.map_cons, List.map_nil, List.cons_append, List.nil_append] at ha hb e7
  generalize mtab.D = td at *
  generalize metU = mu at *
  generalize metT = mt at *
  generalize atsC L = cL at *
  subst hcs hus hts
  refine pcr_byq ok6 hG (n := 85) (rv := [.tmp 4]) fun r hr => ?_; unfold c6 st0
  (have we1 := hci; have we2 := e7; exact xwalkd2)
end Go.Proofs.YtgdbkigaaooifaaGreatDoorK.LawT12
