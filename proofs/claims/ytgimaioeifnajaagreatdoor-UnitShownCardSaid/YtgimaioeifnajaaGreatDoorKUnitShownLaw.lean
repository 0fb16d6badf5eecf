/-
  cubitlaw10.UnitShown answers true.
-/
import Derived.Test.YtgimaioeifnajaaGreatDoorKIrLUnitShown
import Derived.Test.YtgimaioeifnajaaGreatDoorKUnitL10
set_option linter.all false
set_option maxHeartbeats 0
namespace Go.Proofs.YtgimaioeifnajaaGreatDoorK.LawT10
open AI NatIr Dig NatT LibT TabT Go.Lib
attribute [local irreducible] awp awpOps
attribute [local go_sem] not_true_eq_false not_false_eq_true eq_self decide_true decide_false beq_self_eq_true Int.reduceAdd nl
variable {G : World → Prop}
theorem unit_err {k : Kn} {s : Wd} {e : Int} (hu : unitA k s = .error e) : e ≠ 0 := by
  intro h
  subst h
  unfold unitA splW at hu
  split at hu
  · rename_i h4
    split at h4
    · cases h4; cases hu
    · split at h4
      · cases h4
      · cases h4; cases hu
  · split at hu
    · cases hu
    · split at hu
      · cases hu
      · cases hu
theorem pcr_shown_law (hG : Stable G) (hT : ∀ w, G w → Lib.TabIs Tryz.prog w "internal/strconv.uint64pow10" .u64 Lib.pow10Tab) (hM : ∀ w, G w → gMax w) (s : ByteArray) (hs : s.size ≤ 9223372036854775807) (t : ByteArray) (ht : t.size ≤ 9223372036854775807) :
    PCr Tryz.prog G 3 [.str s, .str t] (.bool true) := by
  have haw := pcr_awake (G := G) hG hT hM
  have h0 := pcr_some (G := G) hG
  obtain ⟨ks, hks⟩ : ∃ ks, kS.D = .agg ks := ⟨_, rfl⟩
  have hki : ks.all D.imm = true := by
    have : D.agg ks = kS.D := hks.symm
    unfold kS Kn.D at this
    cases this
    rfl
  by_cases h3 : 200 < s.size
  · clear h0
    refine pcr_byq ok3 hG (n := 59) (rv := [.tmp 4]) fun r hr => ?_; unfold c3 st0
    (exact xwalkd)
  by_cases h3 : 200 < t.size
  · clear h0
    refine pcr_byq ok3 hG (n := 59) (rv := [.tmp 4]) fun r hr => ?_; unfold c3 st0
    (exact xwalkd)
  have h1 := pcr_uparse (G := G) hG hT hM kS s kS_len.1 kS_len.2 (by omega)
  have h2 := pcr_uparse (G := G) hG hT hM kS t kS_len.1 kS_len.2 (by omega)
  cases hu : unitA kS s with
  | error e =>
    have he := unit_err hu
    rw [hu] at h1
    cases hv : unitA kS t with
    | error e2 =>
      rw [hv] at h2
      unfold rUnit at h1 h2
      dsimp only at h1 h2
      rw [hks] at h0 h1 h2
      refine pcr_byq ok3 hG (n := 59) (rv := [.tmp 4]) fun r hr => ?_; unfold c3 st0
      (have we1 := hki; exact xwalkd1)
    | ok v =>
      have hui := ptsC_imm v
      have hpl := ptsC_len v
      rw [hv] at h2
      unfold rUnit at h1 h2
      dsimp only at h1 h2
      rw [hks] at h0 h1 h2
      refine pcr_byq ok3 hG (n := 59) (rv := [.tmp 4]) fun r hr => ?_; unfold c3 st0
      (have we1 := hki; have we2 := hui; exact xwalkd2)
  | ok u =>
    obtain ⟨hsu, hu4, _, hok, _⟩ := unitA_ok hu
    have hui := ptsC_imm u
    have hri := rptsC_imm u
    have hpl := ptsC_len u
    rw [hu] at h1
    cases hv : unitA kS t with
    | error e2 =>
      have he := unit_err hv
      rw [hv] at h2
      unfold rUnit at h1 h2
      dsimp only at h1 h2
      rw [hks] at h0 h1 h2
      refine pcr_byq ok3 hG (n := 59) (rv := [.tmp 4]) fun r hr => ?_; unfold c3 st0
      (have we1 := hki; have we2 := hui; exact xwalkd2)
    | ok v =>
      obtain ⟨hsv, hv4, _, hok2, _⟩ := unitA_ok hv
      have hvi := ptsC_imm v
      have hwi := rptsC_imm v
      have hvl := ptsC_len v
      have g1 := pcr_ushowA (G := G) hG hT hu
      have g2 := pcr_ushowA (G := G) hG hT hv
      have g3 := pcr_partsof (G := G) hG hT u hok (by omega)
      have g4 := pcr_partsof (G := G) hG hT v hok2 (by omega)
      have g5 := pcr_sameparts (G := G) hG u v hok hok2 (by omega) (by omega)
      by_cases hst : s = t
      · subst hst
        obtain rfl : u = v := by rw [hu] at hv; cases hv; rfl
        rw [eqPts_self] at g5
        clear h2 hv hsv g2 g4 hok hok2
        unfold rUnit at h1
        dsimp only at h1
        rw [hks] at h0 h1
        refine pcr_byq ok3 hG (n := 59) (rv := [.tmp 4]) fun r hr => ?_; unfold c3 st0
        (have we1 := hki; have we2 := hui; have we3 := hri; exact xwalkd3)
      · have hne : eqPts u v = false := by
          cases h : eqPts u v with
          | false => rfl
          | true =>
            exfalso
            rw [eqPts_eq h, hsv] at hsu
            exact hst hsu.symm
        rw [hne] at g5
        have hd : decide (s = t) = false := decide_eq_false hst
        rw [hv] at h2
        unfold rUnit at h1 h2
        dsimp only at h1 h2
        rw [hks] at h0 h1 h2
        clear hok hok2
        refine pcr_byq ok3 hG (n := 59) (rv := [.tmp 4]) fun r hr => ?_; unfold c3 st0
        (have we1 := hki; have we2 := hui; have we3 := hri; have we4 := hvi; have we5 := hwi; have we6 := hd; exact xwalkd6)
end Go.Proofs.YtgimaioeifnajaaGreatDoorK.LawT10
