/-
  The laws' helper awake: it answers true.
-/
import Derived.Test.YtgimaioeifnajaaGreatDoorKIrLaw10
import Derived.Test.YtgimaioeifnajaaGreatDoorKUniL10
set_option linter.all false
set_option maxHeartbeats 4000000
namespace Go.Proofs.YtgimaioeifnajaaGreatDoorK.LawT10
open AI NatIr Dig NatT LibT TabT Go.Lib
attribute [local irreducible] awp awpOps
attribute [local go_sem] not_true_eq_false not_false_eq_true eq_self decide_true decide_false beq_self_eq_true Int.reduceAdd nl
variable {G : World → Prop}
theorem kS_len : kS.names.length < 1000000 ∧ kS.prefs.length < 1000000 := by decide
theorem pcr_awake (hG : Stable G) (hT : ∀ w, G w → Lib.TabIs Tryz.prog w "internal/strconv.uint64pow10" .u64 Lib.pow10Tab) (hM : ∀ w, G w → gMax w) : PCr Tryz.prog G 8 [] (.bool true) := by
  have h0 := pcr_some (G := G) hG
  have h1 := pcr_uparse (G := G) hG hT hM kS mps kS_len.1 kS_len.2 (by decide)
  rw [mps_unit] at h1
  have h2 := pcr_ushowA (G := G) hG hT mps_unit
  have h3 := pcr_textN (G := G) hG hT (nm_N (X := 1) (L := 6) (by decide)) (by omega)
  rw [N_nl, show (⟨(decDigits 1).toArray⟩ : ByteArray) = (⟨#[49]⟩ : ByteArray) by rw [dec_small (by omega)]; rfl] at h3
  unfold rUnit at h1
  dsimp only at h1
  simp only [ptsC, ptC, List.flatMap_cons, List.flatMap_nil, List.append_nil, List.length_cons, List.length_nil, atsC] at h1 h2
  obtain ⟨ks, hks⟩ : ∃ ks, kS.D = .agg ks := ⟨_, rfl⟩
  have hki : ks.all D.imm = true := by
    have : D.agg ks = kS.D := hks.symm
    unfold kS Kn.D at this
    cases this
    rfl
  rw [hks] at h0 h1
  unfold mps at *
  refine pcr_byq ok8 hG (n := 48) (rv := [.tmp 0]) fun r hr => ?_; unfold c8 st0
  (have we1 := hki; exact xwalkd1)
end Go.Proofs.YtgimaioeifnajaaGreatDoorK.LawT10
