/-
  Rounding to digits behind the point, in plain Lean.
-/
import Derived.Test.YtapikjmijmebpaaDoorKRoundP
set_option linter.all false
set_option linter.unusedVariables false
set_option linter.unusedSimpArgs false
set_option maxHeartbeats 4000000
namespace Go.Proofs.YtapikjmijmebpaaDoorK.RoundT
/-- n with k digits behind the point. -/
def vd (n : Int) (k : Nat) : Rat := mkRat n (10 ^ k)
theorem tens_pos (k : Nat) : (0 : Rat) < (10 : Rat) ^ k := Rat.pow_pos (by decide)
theorem tens_ne (k : Nat) : (10 : Rat) ^ k ≠ 0 := fun h => by have := tens_pos k; rw [h] at this; exact absurd this (by decide)
theorem vd_eq (n : Int) (k : Nat) : vd n k = (n : Rat) * ((10 : Rat) ^ k)⁻¹ := by
  rw [vd, Rat.mkRat_eq_div, Rat.div_def, Rat.natCast_pow]; rfl
theorem vd_mul (n : Int) (k : Nat) : vd n k * (10 : Rat) ^ k = n := by
  rw [vd_eq, Rat.mul_assoc, Rat.inv_mul_cancel _ (tens_ne k), Rat.mul_one]
/-- What is so rounded stays so. -/
theorem rnd_again (n : Int) (k : Nat) (m : Int) : rnd (vd n k * (10 : Rat) ^ k) m = n := by rw [vd_mul, rnd_int]
theorem lt_tens {a b : Rat} (k : Nat) : a * (10 : Rat) ^ k < b * (10 : Rat) ^ k ↔ a < b := Rat.mul_lt_mul_right (tens_pos k)
theorem le_tens {a b : Rat} (k : Nat) : a * (10 : Rat) ^ k ≤ b * (10 : Rat) ^ k ↔ a ≤ b := ⟨fun h => Rat.le_of_mul_le_mul_right h (tens_pos k), fun h => Rat.mul_le_mul_of_nonneg_right h (Rat.le_of_lt (tens_pos k))⟩
theorem unit_mul (k : Nat) : ((10 : Rat) ^ k)⁻¹ * (10 : Rat) ^ k = 1 := Rat.inv_mul_cancel _ (tens_ne k)
/-- Less than a unit at the end off. -/
theorem to_near (r : Rat) (k : Nat) (m : Int) : vd (rnd (r * (10 : Rat) ^ k) m) k - r < ((10 : Rat) ^ k)⁻¹ ∧ -(((10 : Rat) ^ k)⁻¹) < vd (rnd (r * (10 : Rat) ^ k) m) k - r := by
  have h := rnd_near (r * (10 : Rat) ^ k) m
  have h1 := vd_mul (rnd (r * (10 : Rat) ^ k) m) k
  have h2 := unit_mul k
  constructor
  · rw [← lt_tens k]; grind
  · rw [← lt_tens k]; grind
theorem to_half (r : Rat) (k : Nat) {m : Int} (hm : 5 ≤ m) : (vd (rnd (r * (10 : Rat) ^ k) m) k - r) + (vd (rnd (r * (10 : Rat) ^ k) m) k - r) ≤ ((10 : Rat) ^ k)⁻¹ ∧ -(((10 : Rat) ^ k)⁻¹) ≤ (vd (rnd (r * (10 : Rat) ^ k) m) k - r) + (vd (rnd (r * (10 : Rat) ^ k) m) k - r) := by
  have h := rnd_half (r * (10 : Rat) ^ k) hm
  have h1 := vd_mul (rnd (r * (10 : Rat) ^ k) m) k
  have h2 := unit_mul k
  constructor
  · rw [← le_tens k]; grind
  · rw [← le_tens k]; grind
theorem to_mono {r s : Rat} (h : r ≤ s) (k : Nat) (m : Int) : vd (rnd (r * (10 : Rat) ^ k) m) k ≤ vd (rnd (s * (10 : Rat) ^ k) m) k := by
  rw [← le_tens k, vd_mul, vd_mul, Rat.intCast_le_intCast]
  exact rnd_mono ((le_tens k).2 h) m
theorem to_neg (r : Rat) (k : Nat) {m : Int} (h1 : 1 ≤ m) (h7 : m ≤ 7) : vd (rnd (-r * (10 : Rat) ^ k) (oth m)) k = -vd (rnd (r * (10 : Rat) ^ k) m) k := by
  rw [Rat.neg_mul, rnd_neg _ h1 h7, vd_eq, vd_eq, Rat.intCast_neg, Rat.neg_mul]
theorem rnd_floor (r : Rat) : rnd r 3 = r.floor := by
  rw [rnd]; split
  · rfl
  · rw [if_neg (show ¬ goes r.floor (r - r.floor) 3 = true by simp [goes])]
theorem rnd_ceil (r : Rat) : r ≤ (rnd r 4 : Rat) := by
  rw [rnd]; split
  · rename_i h
    rw [← h]; exact Rat.le_refl
  · rw [if_pos (show goes r.floor (r - r.floor) 4 = true by simp [goes]), icast_succ]
    exact Rat.le_of_lt fl_lt
theorem rnd_down (r : Rat) : rnd r 1 = if r < 0 then rnd r 4 else rnd r 3 := by
  by_cases h : r < 0
  · rw [if_pos h, rnd, rnd, show goes r.floor (r - r.floor) 1 = goes r.floor (r - r.floor) 4 by simp [goes, below_iff.1 h]]
  · rw [if_neg h, rnd, rnd, show goes r.floor (r - r.floor) 1 = goes r.floor (r - r.floor) 3 by
      have := mt below_iff.2 h
      simp [goes]; omega]
theorem rnd_up (r : Rat) : rnd r 2 = if r < 0 then rnd r 3 else rnd r 4 := by
  by_cases h : r < 0
  · rw [if_pos h, rnd, rnd, show goes r.floor (r - r.floor) 2 = goes r.floor (r - r.floor) 3 by simp [goes, below_iff.1 h]]
  · rw [if_neg h, rnd, rnd, show goes r.floor (r - r.floor) 2 = goes r.floor (r - r.floor) 4 by
      have := mt below_iff.2 h
      simp [goes]; omega]
theorem rnd_one (r : Rat) (m : Int) : rnd r m = rnd r 3 ∨ rnd r m = rnd r 4 := by
  rw [rnd_floor]
  by_cases h : r = (r.floor : Rat)
  · left; rw [rnd, if_pos h]
  · have h4 : rnd r 4 = r.floor + 1 := by rw [rnd, if_neg h, if_pos (show goes r.floor (r - r.floor) 4 = true by simp [goes])]
    rw [h4]; exact rnd_or r m
end Go.Proofs.YtapikjmijmebpaaDoorK.RoundT
