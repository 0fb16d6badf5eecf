/-
 The document's numbers with a sign: what they compute.
-/
import Derived.Test.YtgdbkigaaooifaaGreatDoorKIrRefZ
import Derived.Test.YtgdbkigaaooifaaGreatDoorKRe
import Derived.Test.YtgdbkigaaooifaaGreatDoorKZa
set_option linter.all false
set_option maxHeartbeats 0
namespace Go.Proofs.YtgdbkigaaooifaaGreatDoorK.RefT
open AI NatIr Dig NatT NumT
def MZ (z : Int) : D := .agg [.bool (ng z), M z.natAbs]
attribute [local irreducible] awp awpOps
attribute [local go_sem] V_getD V_set V_take V_drop V_imm V_one V_app V_app1 V_repl V_get1 V_length M List.length_append
attribute [local go_sem] nl ZD MZ
variable {G : World → Prop} {L L' X Y : Nat} {x y z : Int}
theorem MZ_sg (b : Bool) (X : Nat) : MZ (sg b X) = .agg [.bool (b && decide (X ≠ 0)), M X] := by rw [MZ, sg_neg, sg_abs]
theorem pcr_zof (hG : Stable G) (b : Bool) (X : Nat) : PCr Tryz.prog G 209 [.bool b, M X] (MZ (sg b X)) := by
 rw [MZ_sg]
 cases b
 ·refine pcr_byq ok209 hG (n := 13) (rv := [.cell 4 true 2]) fun r hr => ?_; unfold c209 st0
  refine xctl ?_
  refine xrg ?_
  refine xctl ?_
  refine xrg ?_
  refine xctl ?_
  refine xrt ?_
  rw [hr]; rfl
 ·by_cases h : X = 0
  ·subst h
   have e := wd4_zero
   refine pcr_byq ok209 hG (n := 13) (rv := [.cell 4 true 2]) fun r hr => ?_; unfold c209 st0
   refine xctl ?_
   refine xrg ?_
   refine xctl ?_
   refine ops_sym (by simp (disch := omega) only [go_sem, Nat.reduceEqDiff, Nat.reduceAdd, Nat.reduceLT, Nat.reduceMul, Nat.reduceLeDiff, reduceCtorEq, Int.reduceNeg, Int.reduceToNat, e]; rfl) (by first | with_reducible exact True.intro | omega) ?_
   refine xctl ?_
   refine xrt ?_
   rw [hr, M, wd_zero]; rfl
  ·have hp := wd4_pos h
   rw [decide_eq_true h]
   refine pcr_byq ok209 hG (n := 13) (rv := [.cell 4 true 2]) fun r hr => ?_; unfold c209 st0
   refine xctl ?_
   refine xrg ?_
   refine xctl ?_
   refine xrg ?_
   refine xctl ?_
   refine xrt ?_
   rw [hr]; rfl
theorem pcr_zint (hG : Stable G) (n : Int) (h0 : -9223372036854775808 ≤ n) (h1 : n ≤ 9223372036854775807) : PCr Tryz.prog G 166 [.int .i64 n] (MZ n) := by
 by_cases hn : n < 0
 ·have hs := pcr_rsmall hG (n.natAbs - 1) (by omega)
  have e1 : ((n.natAbs - 1 : Nat) : Int) = 0 - (n + 1) := by omega
  rw [e1] at hs
  have hs1 := pcr_rsmall hG 1 (by omega)
  have hl := wd_length_le (B := 10000) (n := n.natAbs - 1) (k := 5) (by omega) (by omega)
  have hl1 := wd_length_le (B := 10000) (n := 1) (k := 1) (by omega) (by omega)
  have ha := pcr_radd hG (n.natAbs - 1) 1 (by omega) (by omega)
  rw [show n.natAbs - 1 + 1 = n.natAbs by omega] at ha
  refine pcr_byq ok166 hG (n := 17) (rv := [.cell 2 true 2]) fun r hr => ?_; unfold c166 st0
  refine xctl ?_
  refine xrg ?_
  refine xctl ?_
  refine xrg ?_
  refine xctl ?_
  refine xct ?_
  refine xctl ?_
  refine xrg ?_; (refine xca1 ?_; refine xca (hs) ?_)
  refine xrg ?_; (refine xca1 ?_; refine xca (hs1) ?_)
  refine xrg ?_; (refine xca1 ?_; refine xca (ha) ?_)
  refine xrg ?_
  refine xctl ?_
  refine xrt ?_
  rw [hr, MZ, show ng n = true from decide_eq_true hn]; rfl
 ·have hs := pcr_rsmall hG n.natAbs (by omega)
  have e1 : (n.natAbs : Int) = n := by omega
  rw [e1] at hs
  refine pcr_byq ok166 hG (n := 17) (rv := [.cell 2 true 2]) fun r hr => ?_; unfold c166 st0
  refine xctl ?_
  refine xrg ?_
  refine xctl ?_
  refine xrg ?_
  refine xctl ?_
  refine xcF ?_
  refine xctl ?_
  refine xrg ?_; (refine xca1 ?_; refine xca (hs) ?_)
  refine xrg ?_
  refine xctl ?_
  refine xrt ?_
  rw [hr, MZ, show ng n = false from decide_eq_false hn]; rfl
theorem pcr_zmul (hG : Stable G) (hx : x.natAbs < 4294967296 ^ L) (hy : y.natAbs < 4294967296 ^ L') (h1 : L < 10000) (h2 : L' < 10000) : PCr Tryz.prog G 181 [MZ x, MZ y] (MZ (x * y)) := by
 have hl1 := wd4_len hx
 have hl2 := wd4_len hy
 have hm := pcr_rmul hG x.natAbs y.natAbs (by omega) (by omega)
 have ho := pcr_zof hG (!(ng x == ng y)) (x.natAbs * y.natAbs)
 have es : sg (!(ng x == ng y)) (x.natAbs * y.natAbs) = x * y := by
  have e1 := sg_self x
  have e2 := sg_self y
  generalize ng x = b at *
  generalize ng y = c at *
  have : ((x.natAbs * y.natAbs : Nat) : Int) = x.natAbs * y.natAbs := Int.natCast_mul _ _
  rw [← e1, ← e2, sg_abs, sg_abs]
  cases b <;> cases c <;> simp [sg, Int.mul_neg, Int.neg_mul]
 rw [es] at ho
 refine pcr_byq ok181 hG (n := 16) (rv := [.cell 4 true 2]) fun r hr => ?_; unfold c181 st0
 refine xctl ?_
 refine xrg ?_
 refine xctl ?_
 refine xrg ?_; (refine xca1 ?_; refine xca (hm) ?_)
 refine xrg ?_; (refine xca1 ?_; refine xca (ho) ?_)
 refine xrg ?_
 refine xctl ?_
 refine xdr ?_
 refine xctl ?_
 refine xrt ?_
 exact hr.symm
theorem pcr_zsign (hG : Stable G) (x : Int) : PCr Tryz.prog G 175 [MZ x] (.int .i64 x.sign) := by
 rcases Int.lt_trichotomy x 0 with h | h | h
 ·rw [MZ, show ng x = true from decide_eq_true h, Int.sign_eq_neg_one_of_neg h]
  refine pcr_byq ok175 hG (n := 9) (rv := [.tmp 2]) fun r hr => ?_; unfold c175 st0
  refine xctl ?_
  refine xrg ?_
  refine xctl ?_
  refine xrg ?_
  refine xctl ?_
  refine xct ?_
  refine xctl ?_
  refine xrg ?_
  refine xctl ?_
  refine xrt ?_
  exact hr.symm
 ·subst h
  have e := wd4_zero
  rw [MZ, show ng 0 = false from rfl]
  refine pcr_byq ok175 hG (n := 9) (rv := [.tmp 2]) fun r hr => ?_; unfold c175 st0
  refine xctl ?_
  refine xrg ?_
  refine xctl ?_
  refine xrg ?_
  refine xctl ?_
  refine xcF ?_
  refine xctl ?_
  refine ops_sym (by simp (disch := omega) only [go_sem, Nat.reduceEqDiff, Nat.reduceAdd, Nat.reduceLT, Nat.reduceMul, Nat.reduceLeDiff, reduceCtorEq, Int.reduceNeg, Int.reduceToNat, e, Int.natAbs_zero]; rfl) (by first | with_reducible exact True.intro | omega) ?_
  refine xctl ?_
  refine xcF ?_
  refine xctl ?_
  refine xrg ?_
  refine xctl ?_
  refine xrt ?_
  exact hr.symm
 ·have hp := wd4_pos (X := x.natAbs) (by omega)
  rw [MZ, show ng x = false from decide_eq_false (by omega), Int.sign_eq_one_of_pos h]
  refine pcr_byq ok175 hG (n := 9) (rv := [.tmp 2]) fun r hr => ?_; unfold c175 st0
  refine xctl ?_
  refine xrg ?_
  refine xctl ?_
  refine xrg ?_
  refine xctl ?_
  refine xcF ?_
  refine xctl ?_
  refine xrg ?_
  refine xctl ?_
  refine xct ?_
  refine xctl ?_
  refine xrg ?_
  refine xctl ?_
  refine xrt ?_
  exact hr.symm
theorem pcr_rparse0 (hG : Stable G) (s : ByteArray) (hs : s.size < 300000) (h : ¬ (s.data.toList ≠ [] ∧ s.data.toList.all isD = true)) : PCr Tryz.prog G 173 [.str s] (.tup [M 0, .bool false]) := by
 cases h1 : allD s with
 | false => exact pcr_rparse_not hG s hs h1
 | true =>
  have h0 : s.size = 0 := Classical.byContradiction fun e => h ⟨fun e1 => e (by rw [← ba_len, e1]; rfl), h1⟩
  have h2 := pcr_rparse hG s hs h1
  rwa [ba_nil h0, show decV (⟨#[]⟩ : ByteArray).data.toList = 0 from rfl, show decide ((⟨#[]⟩ : ByteArray).size ≠ 0) = false from rfl, ← ba_nil h0] at h2
end Go.Proofs.YtgdbkigaaooifaaGreatDoorK.RefT
