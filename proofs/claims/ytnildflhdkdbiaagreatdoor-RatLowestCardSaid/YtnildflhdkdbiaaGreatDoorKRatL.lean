/-
  Signs of fractions; fractions that are handed in.
-/
import Derived.Test.YtnildflhdkdbiaaGreatDoorKRatC
set_option linter.all false
set_option linter.unusedVariables false
set_option linter.unusedSimpArgs false
set_option maxHeartbeats 4000000
namespace Go.Proofs.YtnildflhdkdbiaaGreatDoorK.RatT
open Go.Proofs.YtnildflhdkdbiaaGreatDoorK.AI Go.Proofs.YtnildflhdkdbiaaGreatDoorK.NatIr Go.Proofs.YtnildflhdkdbiaaGreatDoorK.Dig Go.Proofs.YtnildflhdkdbiaaGreatDoorK.NatT Go.Proofs.YtnildflhdkdbiaaGreatDoorK.NumT
variable {L : Nat} {x y z : Rat}
theorem num_neg_iff (q : Rat) : q.num < 0 ↔ q < 0 := by
  rw [← Rat.not_le, ← Rat.num_nonneg]; omega
theorem sgn3 (q : Rat) : (q < 0 ∧ q.num.sign = -1) ∨ (q = 0 ∧ q.num.sign = 0) ∨ (0 < q ∧ q.num.sign = 1) := by
  rcases Int.lt_trichotomy q.num 0 with h | h | h
  · exact .inl ⟨(num_neg_iff q).1 h, Int.sign_eq_neg_one_of_neg h⟩
  · exact .inr (.inl ⟨Rat.num_eq_zero.1 h, by rw [h]; rfl⟩)
  · refine .inr (.inr ⟨?_, Int.sign_eq_one_of_pos h⟩)
    have h1 : 0 ≤ q := Rat.num_nonneg.1 (by omega)
    exact Rat.lt_of_le_of_ne h1 (fun e => by rw [← e] at h; exact absurd h (by decide))
theorem sg_zero {q : Rat} (h : q = 0) : q.num.sign = 0 := by rw [h]; rfl
theorem sg_pos {q : Rat} (h : 0 < q) : q.num.sign = 1 := by
  rcases sgn3 q with ⟨h1, _⟩ | ⟨h1, _⟩ | ⟨_, h1⟩
  · exact absurd (Rat.le_of_lt h1) (Rat.not_le.2 h)
  · rw [h1] at h; exact absurd h Rat.lt_irrefl
  · exact h1
theorem sg_negq {q : Rat} (h : q < 0) : q.num.sign = -1 := Int.sign_eq_neg_one_of_neg ((num_neg_iff q).2 h)
theorem sub_self (x : Rat) : x - x = 0 := Rat.sub_self
theorem cmp_eq (h : x = y) : (x - y).num.sign = 0 := by rw [h]; exact sg_zero (sub_self y)
theorem cmp_lt (h : x < y) : (x - y).num.sign = -1 := by
  refine sg_negq ?_
  rw [Rat.sub_lt_iff, Rat.zero_add]; exact h
theorem cmp_gt (h : y < x) : (x - y).num.sign = 1 := sg_pos ((Rat.lt_iff_sub_pos y x).1 h)
theorem cmp_le (h : x ≤ y) : (x - y).num.sign ≤ 0 := by
  rcases Rat.le_iff_lt_or_eq.1 h with h | h
  · rw [cmp_lt h]; decide
  · rw [cmp_eq h]; decide
theorem cmp_le_iff : (x - y).num.sign ≤ 0 ↔ x ≤ y := by
  refine ⟨fun h => ?_, cmp_le⟩
  rcases Classical.em (x ≤ y) with h1 | h1
  · exact h1
  · rw [cmp_gt (Rat.not_le.1 h1)] at h; omega
theorem cmp_lt_iff : (x - y).num.sign < 0 ↔ x < y := by
  refine ⟨fun h => ?_, fun h => by rw [cmp_lt h]; decide⟩
  rcases Classical.em (x < y) with h1 | h1
  · exact h1
  · have h2 := Rat.not_lt.1 h1
    rcases Rat.le_iff_lt_or_eq.1 h2 with h3 | h3
    · rw [cmp_gt h3] at h; omega
    · rw [cmp_eq h3.symm] at h; omega
theorem cmp_zero_iff : (x - y).num.sign = 0 ↔ x = y := by
  refine ⟨fun h => ?_, cmp_eq⟩
  rcases sgn3 (x - y) with ⟨_, h1⟩ | ⟨h1, _⟩ | ⟨_, h1⟩
  · omega
  · have : x - y + y = y := by rw [h1, Rat.zero_add]
    rwa [Rat.sub_add_cancel] at this
  · omega
theorem sgq_bnd (q : Rat) : -1 ≤ q.num.sign ∧ q.num.sign ≤ 1 := sign_bnd q.num
theorem sub_zero (x : Rat) : x - 0 = x := by rw [Rat.sub_eq_add_neg, Rat.neg_zero, Rat.add_zero]
/-- A factor above nought keeps the sign. -/
theorem sg_mul_pos {q c : Rat} (h : 0 < c) : (q * c).num.sign = q.num.sign := by
  rcases sgn3 q with ⟨h1, h2⟩ | ⟨h1, h2⟩ | ⟨h1, h2⟩
  · rw [h2]
    refine sg_negq ?_
    have := Rat.mul_pos (show 0 < -q from Rat.lt_neg_iff.2 (by rw [Rat.neg_zero]; exact h1)) h
    rw [Rat.neg_mul] at this
    have h3 := Rat.neg_lt_neg this
    rwa [Rat.neg_neg, Rat.neg_zero] at h3
  · rw [h1, Rat.zero_mul]
  · rw [h2]; exact sg_pos (Rat.mul_pos h1 h)
/-- A fraction that is handed in. -/
def vq (b : Bool) (a c : List Int) : Rat := mkRat (sg b (vl 4294967296 a)) (vl 4294967296 c)
theorem qm_in {b : Bool} {a c : List Int} {n m : Nat} (hn : n = a.length) (ha : ok 4294967296 a) (hm : m = c.length) (hc : ok 4294967296 c) (h0 : 1 ≤ L) (h1 : n ≤ L) (h2 : m ≤ L) : Qm L (vq b a c) (.agg [.bool b, .sl n (W a), .sl m (W c)]) :=
  ⟨b, _, _, _, _, h0, nm_in hn ha (by omega), nm_in hm hc (by omega), rfl, rfl⟩
end Go.Proofs.YtnildflhdkdbiaaGreatDoorK.RatT
