/-
 Joined: RedB, RedQ, RedD.
-/
import Derived.Test.YtoiepmpggabglaaGreatDoorKIrLib
import Derived.Test.YtoiepmpggabglaaGreatDoorKFz
import Derived.Test.YtoiepmpggabglaaGreatDoorKP
import Derived.Test.YtoiepmpggabglaaGreatDoorKTa
set_option linter.all false
set_option maxHeartbeats 0
/-
 slices.Grow and slices.Concat of atoms: what they compute.
-/
namespace Go.Proofs.YtoiepmpggabglaaGreatDoorK.TabT
open AI NatIr
attribute [local irreducible] awp awpOps
attribute [local go_sem] not_true_eq_false not_false_eq_true eq_self decide_true Int.reduceAdd Int.zero_add
variable {G : World → Prop}
end Go.Proofs.YtoiepmpggabglaaGreatDoorK.TabT
/-
 Package reduce: Of, plainly: what is below is what would be above, turned about; a number below divides.
-/
namespace Go.Proofs.YtoiepmpggabglaaGreatDoorK.TabT
open AI NatIr Dig NatT NumT RatT DimsT ConvT
structure Sum.ok (s : Sum) (K : Nat) : Prop where
 v8 : s.v.length = 8
 gd : goodD s.v = true
 f0 : 0 < s.f
 f1 : Qm K s.f (QD s.f)
 o1 : Qm 8 s.o (QD s.o)
def s0 : Sum := ⟨z8, 1, 0, false⟩
theorem add_mul {a b : List Int} {k : Int} (h : a.length = b.length) : addD (mulD a k) (mulD b k) = mulD (addD a b) k := by
 refine ext8 (by rw [addD_len, mulD_len, mulD_len, addD_len]) fun i hi => ?_
 rw [addD_len, mulD_len] at hi
 rw [addD_get (by rw [mulD_len]; exact hi), mulD_get hi, mulD_get (by omega), mulD_get (by rw [addD_len]; exact hi), addD_get hi, Int.add_mul]
structure Turned (s s' : Sum) : Prop where
 v : s'.v = mulD s.v (-1)
 f : s'.f = s.f⁻¹
 h : s.h = false ∧ s'.h = false
end Go.Proofs.YtoiepmpggabglaaGreatDoorK.TabT
/-
 Package reduce: Of: what it computes.
-/
namespace Go.Proofs.YtoiepmpggabglaaGreatDoorK.TabT
open AI NatIr Dig NatT NumT RatT DimsT ConvT
attribute [local irreducible] awp awpOps
attribute [local go_sem] nl ZD
attribute [local go_sem] QD
attribute [local go_sem] not_true_eq_false not_false_eq_true eq_self decide_true beq_self_eq_true
variable {G : World → Prop}
@[local simp] theorem kb_nl (k X : Nat) : kb k (nl X) := by unfold nl; simp [kb]
end Go.Proofs.YtoiepmpggabglaaGreatDoorK.TabT
