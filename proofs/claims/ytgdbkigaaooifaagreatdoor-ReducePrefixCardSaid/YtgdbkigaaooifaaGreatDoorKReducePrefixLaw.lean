/-
 cubitlaw12.ReducePrefix answers true.
-/
import Derived.Test.YtgdbkigaaooifaaGreatDoorKIrLReducePrefix
import Derived.Test.YtgdbkigaaooifaaGreatDoorKLoadT12
import Derived.Test.YtgdbkigaaooifaaGreatDoorKRedP
set_option linter.all false
set_option maxHeartbeats 0
namespace Go.Proofs.YtgdbkigaaooifaaGreatDoorK.LawT12
open AI NatIr Dig NatT NumT RatT DimsT ConvT TabT EvT
attribute [local irreducible] awp awpOps
attribute [local go_sem] nl ZD
attribute [local go_sem] QD
attribute [local go_sem] not_true_eq_false not_false_eq_true eq_self decide_true beq_self_eq_true
variable {G : World → Prop}
theorem pcr_pre_law (hG : Stable G) (hT : ∀ w, G w → Lib.TabIs Tryz.prog w "internal/strconv.uint64pow10" .u64 Lib.pow10Tab) (hM : ∀ w, G w → LibT.gMax w)
  (pre : ByteArray) (hpre : pre.size ≤ 9223372036854775807) (name : ByteArray) (hname : name.size ≤ 9223372036854775807) (pw : Int) (hpw : -9223372036854775808 ≤ pw ∧ pw ≤ 9223372036854775807) :
  PCr Tryz.prog G 3 [.str pre, .str name, .int .i64 pw] (.bool true) := by
 have haw := pcr_awake hG hT hM
 have hme := pcr_metric hG hT hM
 have hlo := pcr_load hG hT hM
 have ha := pcr_ratom (G := G) hG mtab mtab_ok ⟨⟨#[]⟩, name, pw⟩
 have hb := pcr_ratom (G := G) hG mtab mtab_ok ⟨pre, name, pw⟩
 have hq := pcr_tprefix (G := G) hG mtab pre
 rw [mtab_D] at hlo
 obtain ⟨us, hus⟩ := metU_rp
 obtain ⟨ts, hts⟩ := metT_str
 obtain ⟨cs, hcs⟩ : ∃ cs, mtab.D = .rp cs := ⟨_, rfl⟩
 have hq0 : getS (⟨#[]⟩ : ByteArray) mtab.P = none := by kernel_rfl
 have hPq : ∀ p, getS pre mtab.P = some p → Qm 4 p (QD p) := fun p hp => (mtab_ok.pre _ (getS_mem hp)).2
 unfold At.D at ha hb
 dsimp only at ha hb
 cases hA : atS mtab ⟨⟨#[]⟩, name, pw⟩ with
 | error e =>
  obtain ⟨e', he', hB⟩ := atS_none (pre := pre) hA
  have he := atS_err0 hA
  rw [hA] at ha
  rw [hB] at hb
  unfold rSum zSum at ha hb
  cases hp : getS pre mtab.P with
  | none =>
   rw [hp] at hq
   dsimp only at hq
   clear hA hB hPq hp hq0
   generalize mtab.D = td at *
   generalize metU = mu at *
   generalize metT = mt at *
   subst hcs hus hts
   simp only [QD] at *
   refine pcr_byq ok3 hG (n := 93) (rv := [.tmp 6]) fun r hr => ?_; unfold c3 st0
   (exact xwalkd)
  | some p =>
   rw [hp] at hq
   dsimp only at hq
   clear hA hB hPq hp hq0
   generalize mtab.D = td at *
   generalize metU = mu at *
   generalize metT = mt at *
   subst hcs hus hts
   simp only [QD] at *
   refine pcr_byq ok3 hG (n := 93) (rv := [.tmp 6]) fun r hr => ?_; unfold c3 st0
   (exact xwalkd)
 | ok s =>
  obtain ⟨sv, sf, so, sh⟩ := s
  have hsq := atS_qm mtab_ok hA
  dsimp only at hsq
  obtain ⟨hv8, _, _, hsf, _⟩ := hsq
  rw [hA] at ha
  cases hB : atS mtab ⟨pre, name, pw⟩ with
  | error e' =>
   have he' := atS_err0 hB
   rw [hB] at hb
   unfold rSum Sum.D at ha
   unfold rSum zSum at hb
   dsimp only at ha hb
   cases hp : getS pre mtab.P with
   | none =>
    rw [hp] at hq
    dsimp only at hq
    clear hA hB hPq hp hq0
    obtain ⟨a0, a1, a2, a3, a4, a5, a6, a7, rfl⟩ := eight hv8
    generalize mtab.D = td at *
    generalize metU = mu at *
    generalize metT = mt at *
    subst hcs hus hts
    simp only [QD, I, List.map_cons, List.map_nil, List.cons_append, List.nil_append] at *
    refine pcr_byq ok3 hG (n := 93) (rv := [.tmp 6]) fun r hr => ?_; unfold c3 st0
    (exact xwalkd)
   | some p =>
    rw [hp] at hq
    dsimp only at hq
    clear hA hB hPq hp hq0
    obtain ⟨a0, a1, a2, a3, a4, a5, a6, a7, rfl⟩ := eight hv8
    generalize mtab.D = td at *
    generalize metU = mu at *
    generalize metT = mt at *
    subst hcs hus hts
    simp only [QD, I, List.map_cons, List.map_nil, List.cons_append, List.nil_append] at *
    refine pcr_byq ok3 hG (n := 93) (rv := [.tmp 6]) fun r hr => ?_; unfold c3 st0
    (exact xwalkd)
  | ok s' =>
   have hsq' := atS_qm mtab_ok hB
   rw [hB] at hb
   by_cases hpe : pre = ⟨#[]⟩
   ·obtain ⟨sv', sf', so', sh'⟩ := s'
    dsimp only at hsq'
    obtain ⟨hv8', _, _, hsf', _⟩ := hsq'
    rw [hpe, hq0] at hq
    rw [← hpe] at hq
    unfold rSum Sum.D at ha hb
    dsimp only at ha hb hq
    clear hA hB hPq hq0 hpe
    obtain ⟨a0, a1, a2, a3, a4, a5, a6, a7, rfl⟩ := eight hv8
    obtain ⟨b0, b1, b2, b3, b4, b5, b6, b7, rfl⟩ := eight hv8'
    generalize mtab.D = td at *
    generalize metU = mu at *
    generalize metT = mt at *
    subst hcs hus hts
    simp only [QD, I, List.map_cons, List.map_nil, List.cons_append, List.nil_append] at *
    refine pcr_byq ok3 hG (n := 93) (rv := [.tmp 6]) fun r hr => ?_; unfold c3 st0
    (exact xwalkd)
   ·obtain ⟨p1, p15, p, hp, hev, hef⟩ := atS_pre hA hB hpe
    have hpq := hPq p hp
    obtain ⟨sv', sf', so', sh'⟩ := s'
    dsimp only at hsq' hev hef
    obtain ⟨hv8', _, _, hsf', _⟩ := hsq'
    subst hev
    rw [hp] at hq
    have hpo := RatT.pcr_pow (G := G) hG hpq pw.toNat (by omega) (by omega)
    rw [show ((pw.toNat : Nat) : Int) = pw by omega] at hpo
    have hpoq := (qm_pow hpq pw.toNat).up (show 4 * pw.toNat + 1 ≤ 61 by omega)
    have hmu := RatT.pcr_mul (G := G) hG hsf hpoq (by omega) (by omega)
    rw [← hef] at hmu
    have hcm := RatT.pcr_cmp (G := G) hG hsf' hsf' (by omega) (by omega)
    rw [cmp_eq rfl] at hcm
    unfold rSum Sum.D at ha hb
    dsimp only at ha hb hq
    clear hA hB hPq hq0 hef hsf hsf' hpq hpoq
    generalize p ^ pw.toNat = pp at *
    obtain ⟨a0, a1, a2, a3, a4, a5, a6, a7, rfl⟩ := eight hv8
    have e7 := IEq (a := [a0, a1, a2, a3, a4, a5, a6, a7]) (b := [a0, a1, a2, a3, a4, a5, a6, a7]) rfl
    rw [decide_eq_true rfl] at e7
    generalize mtab.D = td at *
    generalize metU = mu at *
    generalize metT = mt at *
    subst hcs hus hts
    simp only [QD, I, List.map_cons, List.map_nil, List.cons_append, List.nil_append] at *
    refine pcr_byq ok3 hG (n := 93) (rv := [.tmp 6]) fun r hr => ?_; unfold c3 st0
    (have we1 := e7; exact xwalkd1)
end Go.Proofs.YtgdbkigaaooifaaGreatDoorK.LawT12
