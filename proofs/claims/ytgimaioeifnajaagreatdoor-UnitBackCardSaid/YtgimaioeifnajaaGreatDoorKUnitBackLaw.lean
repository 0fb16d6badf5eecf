/-
  cubitlaw10.UnitBack answers true.
-/
import Derived.Test.YtgimaioeifnajaaGreatDoorKIrLUnitBack
import Derived.Test.YtgimaioeifnajaaGreatDoorKUnitL10
set_option linter.all false
set_option maxHeartbeats 4000000
namespace Go.Proofs.YtgimaioeifnajaaGreatDoorK.LawT10
open AI NatIr Dig NatT LibT TabT Go.Lib
attribute [local irreducible] awp awpOps
attribute [local go_sem] not_true_eq_false not_false_eq_true eq_self decide_true decide_false beq_self_eq_true Int.reduceAdd nl
variable {G : World → Prop}
theorem pcr_back_law (hG : Stable G) (hT : ∀ w, G w → Lib.TabIs Tryz.prog w "internal/strconv.uint64pow10" .u64 Lib.pow10Tab) (hM : ∀ w, G w → gMax w) (s : ByteArray) (hs : s.size ≤ 9223372036854775807) :
    PCr Tryz.prog G 4 [.str s] (.bool true) := by
  have haw := pcr_awake (G := G) hG hT hM
  have h0 := pcr_some (G := G) hG
  obtain ⟨ks, hks⟩ : ∃ ks, kS.D = .agg ks := ⟨_, rfl⟩
  have hki : ks.all D.imm = true := by
    have : D.agg ks = kS.D := hks.symm
    unfold kS Kn.D at this
    cases this
    rfl
  by_cases h3 : 300 < s.size
  · clear h0
    refine pcr_byq ok4 hG (n := 47) (rv := [.tmp 2]) fun r hr => ?_; unfold c4 st0
    (exact xwalkd)
  have h1 := pcr_uparse (G := G) hG hT hM kS s kS_len.1 kS_len.2 (by omega)
  cases hu : unitA kS s with
  | error e =>
    have he : e ≠ 0 := by
      intro h
      subst h
      unfold unitA splW at hu
      split at hu
      · rename_i h4
        split at h4
        · cases h4; cases hu
        · split at h4
          · cases h4
          · cases h4; cases hu
      · split at hu
        · cases hu
        · split at hu
          · cases hu
          · cases hu
    rw [hu] at h1
    unfold rUnit at h1
    dsimp only at h1
    rw [hks] at h0 h1
    refine pcr_byq ok4 hG (n := 47) (rv := [.tmp 2]) fun r hr => ?_; unfold c4 st0
    (have we1 := hki; exact xwalkd1)
  | ok u =>
    obtain ⟨_, hu4, _, hok, _⟩ := unitA_ok hu
    have h2 := pcr_ushowA (G := G) hG hT hu
    have h4 := pcr_partsof (G := G) hG hT u hok (by omega)
    have h5 := pcr_sameparts (G := G) hG u u hok hok (by omega) (by omega)
    rw [eqPts_self] at h5
    have h6 := pcr_ugood (G := G) hG hT hM kS kS_len.1 kS_len.2 hu
    have hui := ptsC_imm u
    have hri := rptsC_imm u
    have hpl := ptsC_len u
    rw [hu] at h1
    unfold rUnit at h1
    dsimp only at h1
    rw [hks] at h0 h1 h6
    refine pcr_byq ok4 hG (n := 47) (rv := [.tmp 2]) fun r hr => ?_; unfold c4 st0
    (have we1 := hki; have we2 := hui; have we3 := hri; exact xwalkd3)
end Go.Proofs.YtgimaioeifnajaaGreatDoorK.LawT10
