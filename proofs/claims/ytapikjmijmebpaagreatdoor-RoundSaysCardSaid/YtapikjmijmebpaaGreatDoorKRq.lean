/-
  Joined: RoundP, RoundQ.
-/
import Derived.Test.YtapikjmijmebpaaGreatDoorKZa
set_option linter.all false
set_option linter.unusedVariables false
set_option linter.unusedSimpArgs false
set_option maxHeartbeats 4000000
/-
  Rounding, in plain Lean: the seven modes, how near they stay, their order and what they are turned about.
-/
namespace Go.Proofs.YtapikjmijmebpaaGreatDoorK.RoundT
variable {r s : Rat} {m f : Int}
def goes (f : Int) (p : Rat) (m : Int) : Bool :=
  if m = 1 then decide (f < 0) else if m = 2 then !decide (f < 0) else if m = 3 then false else if m = 4 then true
  else if p + p ≠ 1 then decide (1 < p + p) else if m = 5 then decide (f < 0) else if m = 6 then !decide (f < 0) else decide (f % 2 ≠ 0)
def rnd (r : Rat) (m : Int) : Int := if r = (r.floor : Rat) then r.floor else if goes r.floor (r - r.floor) m = true then r.floor + 1 else r.floor
theorem below_iff : r < 0 ↔ r.floor < 0 := (Rat.floor_lt_iff (a := r) (x := 0)).symm
theorem fl_le : (r.floor : Rat) ≤ r := Rat.floor_le r
theorem fl_lt : r < (r.floor : Rat) + 1 := by
  have h := Rat.lt_floor_add_one r
  rwa [Rat.intCast_add] at h
theorem rnd_or (r : Rat) (m : Int) : rnd r m = r.floor ∨ rnd r m = r.floor + 1 := by
  unfold rnd; split
  · exact .inl rfl
  · split
    · exact .inr rfl
    · exact .inl rfl
theorem rnd_int (n m : Int) : rnd (n : Rat) m = n := by
  rw [rnd, Rat.floor_intCast, if_pos rfl]
theorem icast_succ (n : Int) : ((n + 1 : Int) : Rat) = (n : Rat) + 1 := by rw [Rat.intCast_add]; rfl
theorem rnd_near (r : Rat) (m : Int) : (rnd r m : Rat) - r < 1 ∧ -1 < (rnd r m : Rat) - r := by
  have h1 := fl_le (r := r)
  have h2 := fl_lt (r := r)
  unfold rnd
  split
  · grind
  · rename_i h
    split
    · rw [icast_succ]; grind
    · grind
theorem goes_half {p : Rat} (hm : 5 ≤ m) : goes f p m = if p + p ≠ 1 then decide (1 < p + p) else if m = 5 then decide (f < 0) else if m = 6 then !decide (f < 0) else decide (f % 2 ≠ 0) := by
  unfold goes
  rw [if_neg (show ¬ m = 1 by omega), if_neg (show ¬ m = 2 by omega), if_neg (show ¬ m = 3 by omega), if_neg (show ¬ m = 4 by omega)]
theorem rnd_half (r : Rat) {m : Int} (hm : 5 ≤ m) : ((rnd r m : Rat) - r) + ((rnd r m : Rat) - r) ≤ 1 ∧ -1 ≤ ((rnd r m : Rat) - r) + ((rnd r m : Rat) - r) := by
  have h1 := fl_le (r := r)
  have h2 := fl_lt (r := r)
  have hk : (r - r.floor) + (r - r.floor) ≠ 1 → (goes r.floor (r - r.floor) m = true ↔ 1 < (r - r.floor) + (r - r.floor)) := by
    intro h
    rw [goes_half hm, if_pos h]
    exact decide_eq_true_iff
  unfold rnd
  by_cases h : r = (r.floor : Rat)
  · rw [if_pos h]; grind
  · rw [if_neg h]
    by_cases hg : goes r.floor (r - r.floor) m = true
    · rw [if_pos hg, icast_succ]
      by_cases ht : (r - r.floor) + (r - r.floor) = 1
      · grind
      · have := (hk ht).1 hg
        grind
    · rw [if_neg hg]
      by_cases ht : (r - r.floor) + (r - r.floor) = 1
      · grind
      · have : ¬ 1 < (r - r.floor) + (r - r.floor) := fun h => hg ((hk ht).2 h)
        grind
theorem goes_mono {p q : Rat} (h : p ≤ q) (hg : goes f p m = true) : goes f q m = true := by
  unfold goes at *
  by_cases m1 : m = 1
  · rwa [if_pos m1] at *
  by_cases m2 : m = 2
  · rwa [if_neg m1, if_pos m2] at *
  by_cases m3 : m = 3
  · rw [if_neg m1, if_neg m2, if_pos m3] at hg; cases hg
  by_cases m4 : m = 4
  · rw [if_neg m1, if_neg m2, if_neg m3, if_pos m4]
  rw [if_neg m1, if_neg m2, if_neg m3, if_neg m4] at *
  by_cases hp : p + p = 1
  · by_cases hq : q + q = 1
    · rw [if_neg (fun h => h hp)] at hg
      rw [if_neg (fun h => h hq)]; exact hg
    · rw [if_pos hq]
      exact decide_eq_true (by grind)
  · rw [if_pos hp] at hg
    have := of_decide_eq_true hg
    rw [if_pos (by grind)]
    exact decide_eq_true (by grind)
theorem rnd_mono (h : r ≤ s) (m : Int) : rnd r m ≤ rnd s m := by
  have hf := Rat.floor_monotone h
  rcases Int.lt_or_eq_of_le hf with h1 | h1
  · have h2 := rnd_or r m
    have h3 := rnd_or s m
    omega
  · by_cases hr : r = (r.floor : Rat)
    · rw [rnd, if_pos hr]
      have := rnd_or s m
      omega
    · have hs : ¬ s = (s.floor : Rat) := by
        intro e
        have h3 := fl_le (r := r)
        rw [← h1] at e
        exact hr (by grind)
      rw [rnd, rnd, if_neg hr, if_neg hs, ← h1]
      by_cases hg : goes r.floor (r - r.floor) m = true
      · rw [if_pos hg, if_pos (goes_mono (by grind) hg)]; exact Int.le_refl _
      · rw [if_neg hg]; split <;> omega
def oth (m : Int) : Int := if m = 3 then 4 else if m = 4 then 3 else m
theorem floor_neg (h : ¬ r = (r.floor : Rat)) : (-r).floor = -r.floor - 1 := by
  have h1 := fl_le (r := r)
  have h2 := fl_lt (r := r)
  have a1 : -r.floor - 1 ≤ (-r).floor := by
    rw [Rat.le_floor_iff, Rat.intCast_sub, Rat.intCast_neg, Rat.intCast_one]; grind
  have a2 : (-r).floor < -r.floor := by
    rw [Rat.floor_lt_iff, Rat.intCast_neg]; grind
  omega
theorem rnd_neg (r : Rat) (h1 : 1 ≤ m) (h7 : m ≤ 7) : rnd (-r) (oth m) = -rnd r m := by
  by_cases hr : r = (r.floor : Rat)
  · have h2 : rnd r m = r.floor := by rw [rnd, if_pos hr]
    rw [h2]
    generalize r.floor = n at *
    rw [hr, ← Rat.intCast_neg, rnd_int]
  · have hf := floor_neg hr
    have hr2 : ¬ -r = ((-r).floor : Rat) := by
      rw [hf, Rat.intCast_sub, Rat.intCast_neg, Rat.intCast_one]
      have := fl_lt (r := r)
      grind
    have hg : goes (-r).floor (-r - (-r).floor) (oth m) = !goes r.floor (r - r.floor) m := by
      have hp : -r - ((-r).floor : Rat) = 1 - (r - r.floor) := by
        rw [hf, Rat.intCast_sub, Rat.intCast_neg, Rat.intCast_one]; grind
      rw [hp, hf]
      generalize r - (r.floor : Rat) = p at *
      generalize r.floor = n at *
      have hb : decide (-n - 1 < 0) = !decide (n < 0) := by
        by_cases h : n < 0
        · rw [decide_eq_true h, decide_eq_false (by omega)]; rfl
        · rw [decide_eq_false h, decide_eq_true (by omega)]; rfl
      have ho : decide ((-n - 1) % 2 ≠ 0) = !decide (n % 2 ≠ 0) := by
        by_cases h : n % 2 ≠ 0
        · rw [decide_eq_true h, decide_eq_false (by omega)]; rfl
        · rw [decide_eq_false h, decide_eq_true (by omega)]; rfl
      have hh : (1 - p + (1 - p) ≠ 1) ↔ (p + p ≠ 1) := by grind
      have hl : p + p ≠ 1 → decide (1 < 1 - p + (1 - p)) = !decide (1 < p + p) := by
        intro h
        by_cases h2 : 1 < p + p
        · rw [decide_eq_true h2, decide_eq_false (by grind)]; rfl
        · rw [decide_eq_false h2, decide_eq_true (by grind)]; rfl
      have hm : m = 1 ∨ m = 2 ∨ m = 3 ∨ m = 4 ∨ m = 5 ∨ m = 6 ∨ m = 7 := by omega
      by_cases ht : p + p ≠ 1
      · have ht2 := hh.2 ht
        rcases hm with rfl | rfl | rfl | rfl | rfl | rfl | rfl <;> simp [goes, oth, hb, ht, ht2, hl ht]
      · have ht2 : ¬ (1 - p + (1 - p) ≠ 1) := fun h => ht (hh.1 h)
        rcases hm with rfl | rfl | rfl | rfl | rfl | rfl | rfl <;> simp [goes, oth, hb, ht, ht2] <;> simpa using ho
    rw [rnd, rnd, if_neg hr, if_neg hr2, hg]
    cases goes r.floor (r - r.floor) m
    · rw [if_pos (show (!false) = true from rfl), if_neg (show ¬ false = true by decide)]; omega
    · rw [if_neg (show ¬ (!true) = true by decide), if_pos (show true = true from rfl)]; omega
end Go.Proofs.YtapikjmijmebpaaGreatDoorK.RoundT
/-
  Rounding to digits behind the point, in plain Lean.
-/
namespace Go.Proofs.YtapikjmijmebpaaGreatDoorK.RoundT
def vd (n : Int) (k : Nat) : Rat := mkRat n (10 ^ k)
theorem tens_pos (k : Nat) : (0 : Rat) < (10 : Rat) ^ k := Rat.pow_pos (by decide)
theorem tens_ne (k : Nat) : (10 : Rat) ^ k ≠ 0 := fun h => by have := tens_pos k; rw [h] at this; exact absurd this (by decide)
theorem vd_eq (n : Int) (k : Nat) : vd n k = (n : Rat) * ((10 : Rat) ^ k)⁻¹ := by
  rw [vd, Rat.mkRat_eq_div, Rat.div_def, Rat.natCast_pow]; rfl
theorem vd_mul (n : Int) (k : Nat) : vd n k * (10 : Rat) ^ k = n := by
  rw [vd_eq, Rat.mul_assoc, Rat.inv_mul_cancel _ (tens_ne k), Rat.mul_one]
theorem rnd_again (n : Int) (k : Nat) (m : Int) : rnd (vd n k * (10 : Rat) ^ k) m = n := by rw [vd_mul, rnd_int]
theorem lt_tens {a b : Rat} (k : Nat) : a * (10 : Rat) ^ k < b * (10 : Rat) ^ k ↔ a < b := Rat.mul_lt_mul_right (tens_pos k)
theorem le_tens {a b : Rat} (k : Nat) : a * (10 : Rat) ^ k ≤ b * (10 : Rat) ^ k ↔ a ≤ b := ⟨fun h => Rat.le_of_mul_le_mul_right h (tens_pos k), fun h => Rat.mul_le_mul_of_nonneg_right h (Rat.le_of_lt (tens_pos k))⟩
theorem unit_mul (k : Nat) : ((10 : Rat) ^ k)⁻¹ * (10 : Rat) ^ k = 1 := Rat.inv_mul_cancel _ (tens_ne k)
theorem to_near (r : Rat) (k : Nat) (m : Int) : vd (rnd (r * (10 : Rat) ^ k) m) k - r < ((10 : Rat) ^ k)⁻¹ ∧ -(((10 : Rat) ^ k)⁻¹) < vd (rnd (r * (10 : Rat) ^ k) m) k - r := by
  have h := rnd_near (r * (10 : Rat) ^ k) m
  have h1 := vd_mul (rnd (r * (10 : Rat) ^ k) m) k
  have h2 := unit_mul k
  constructor
  · rw [← lt_tens k]; grind
  · rw [← lt_tens k]; grind
theorem to_half (r : Rat) (k : Nat) {m : Int} (hm : 5 ≤ m) : (vd (rnd (r * (10 : Rat) ^ k) m) k - r) + (vd (rnd (r * (10 : Rat) ^ k) m) k - r) ≤ ((10 : Rat) ^ k)⁻¹ ∧ -(((10 : Rat) ^ k)⁻¹) ≤ (vd (rnd (r * (10 : Rat) ^ k) m) k - r) + (vd (rnd (r * (10 : Rat) ^ k) m) k - r) := by
  have h := rnd_half (r * (10 : Rat) ^ k) hm
  have h1 := vd_mul (rnd (r * (10 : Rat) ^ k) m) k
  have h2 := unit_mul k
  constructor
  · rw [← le_tens k]; grind
  · rw [← le_tens k]; grind
theorem to_mono {r s : Rat} (h : r ≤ s) (k : Nat) (m : Int) : vd (rnd (r * (10 : Rat) ^ k) m) k ≤ vd (rnd (s * (10 : Rat) ^ k) m) k := by
  rw [← le_tens k, vd_mul, vd_mul, Rat.intCast_le_intCast]
  exact rnd_mono ((le_tens k).2 h) m
theorem to_neg (r : Rat) (k : Nat) {m : Int} (h1 : 1 ≤ m) (h7 : m ≤ 7) : vd (rnd (-r * (10 : Rat) ^ k) (oth m)) k = -vd (rnd (r * (10 : Rat) ^ k) m) k := by
  rw [Rat.neg_mul, rnd_neg _ h1 h7, vd_eq, vd_eq, Rat.intCast_neg, Rat.neg_mul]
theorem rnd_floor (r : Rat) : rnd r 3 = r.floor := by
  rw [rnd]; split
  · rfl
  · rw [if_neg (show ¬ goes r.floor (r - r.floor) 3 = true by simp [goes])]
theorem rnd_ceil (r : Rat) : r ≤ (rnd r 4 : Rat) := by
  rw [rnd]; split
  · rename_i h
    rw [← h]; exact Rat.le_refl
  · rw [if_pos (show goes r.floor (r - r.floor) 4 = true by simp [goes]), icast_succ]
    exact Rat.le_of_lt fl_lt
theorem rnd_down (r : Rat) : rnd r 1 = if r < 0 then rnd r 4 else rnd r 3 := by
  by_cases h : r < 0
  · rw [if_pos h, rnd, rnd, show goes r.floor (r - r.floor) 1 = goes r.floor (r - r.floor) 4 by simp [goes, below_iff.1 h]]
  · rw [if_neg h, rnd, rnd, show goes r.floor (r - r.floor) 1 = goes r.floor (r - r.floor) 3 by
      have := mt below_iff.2 h
      simp [goes]; omega]
theorem rnd_up (r : Rat) : rnd r 2 = if r < 0 then rnd r 3 else rnd r 4 := by
  by_cases h : r < 0
  · rw [if_pos h, rnd, rnd, show goes r.floor (r - r.floor) 2 = goes r.floor (r - r.floor) 3 by simp [goes, below_iff.1 h]]
  · rw [if_neg h, rnd, rnd, show goes r.floor (r - r.floor) 2 = goes r.floor (r - r.floor) 4 by
      have := mt below_iff.2 h
      simp [goes]; omega]
theorem rnd_one (r : Rat) (m : Int) : rnd r m = rnd r 3 ∨ rnd r m = rnd r 4 := by
  rw [rnd_floor]
  by_cases h : r = (r.floor : Rat)
  · left; rw [rnd, if_pos h]
  · have h4 : rnd r 4 = r.floor + 1 := by rw [rnd, if_neg h, if_pos (show goes r.floor (r - r.floor) 4 = true by simp [goes])]
    rw [h4]; exact rnd_or r m
end Go.Proofs.YtapikjmijmebpaaGreatDoorK.RoundT
