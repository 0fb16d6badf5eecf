/-
  Rounding, in plain Lean: the seven modes, how near they stay, their order and what they are turned about.
-/
import Derived.Test.YtapikjmijmebpaaDoorKZa
set_option linter.all false
set_option linter.unusedVariables false
set_option linter.unusedSimpArgs false
set_option maxHeartbeats 4000000
namespace Go.Proofs.YtapikjmijmebpaaDoorK.RoundT
variable {r s : Rat} {m f : Int}
/-- Does a fraction that is not whole, of floor f, go up? p is what is above the floor. -/
def goes (f : Int) (p : Rat) (m : Int) : Bool :=
  if m = 1 then decide (f < 0) else if m = 2 then !decide (f < 0) else if m = 3 then false else if m = 4 then true
  else if p + p ≠ 1 then decide (1 < p + p) else if m = 5 then decide (f < 0) else if m = 6 then !decide (f < 0) else decide (f % 2 ≠ 0)
/-- The whole number. -/
def rnd (r : Rat) (m : Int) : Int := if r = (r.floor : Rat) then r.floor else if goes r.floor (r - r.floor) m = true then r.floor + 1 else r.floor
theorem below_iff : r < 0 ↔ r.floor < 0 := (Rat.floor_lt_iff (a := r) (x := 0)).symm
theorem fl_le : (r.floor : Rat) ≤ r := Rat.floor_le r
theorem fl_lt : r < (r.floor : Rat) + 1 := by
  have h := Rat.lt_floor_add_one r
  rwa [Rat.intCast_add] at h
theorem rnd_or (r : Rat) (m : Int) : rnd r m = r.floor ∨ rnd r m = r.floor + 1 := by
  unfold rnd; split
  · exact .inl rfl
  · split
    · exact .inr rfl
    · exact .inl rfl
theorem rnd_int (n m : Int) : rnd (n : Rat) m = n := by
  rw [rnd, Rat.floor_intCast, if_pos rfl]
theorem icast_succ (n : Int) : ((n + 1 : Int) : Rat) = (n : Rat) + 1 := by rw [Rat.intCast_add]; rfl
/-- Less than one off. -/
theorem rnd_near (r : Rat) (m : Int) : (rnd r m : Rat) - r < 1 ∧ -1 < (rnd r m : Rat) - r := by
  have h1 := fl_le (r := r)
  have h2 := fl_lt (r := r)
  unfold rnd
  split
  · grind
  · rename_i h
    split
    · rw [icast_succ]; grind
    · grind
theorem goes_half {p : Rat} (hm : 5 ≤ m) : goes f p m = if p + p ≠ 1 then decide (1 < p + p) else if m = 5 then decide (f < 0) else if m = 6 then !decide (f < 0) else decide (f % 2 ≠ 0) := by
  unfold goes
  rw [if_neg (show ¬ m = 1 by omega), if_neg (show ¬ m = 2 by omega), if_neg (show ¬ m = 3 by omega), if_neg (show ¬ m = 4 by omega)]
/-- The half modes: at most one half off. -/
theorem rnd_half (r : Rat) {m : Int} (hm : 5 ≤ m) : ((rnd r m : Rat) - r) + ((rnd r m : Rat) - r) ≤ 1 ∧ -1 ≤ ((rnd r m : Rat) - r) + ((rnd r m : Rat) - r) := by
  have h1 := fl_le (r := r)
  have h2 := fl_lt (r := r)
  have hk : (r - r.floor) + (r - r.floor) ≠ 1 → (goes r.floor (r - r.floor) m = true ↔ 1 < (r - r.floor) + (r - r.floor)) := by
    intro h
    rw [goes_half hm, if_pos h]
    exact decide_eq_true_iff
  unfold rnd
  by_cases h : r = (r.floor : Rat)
  · rw [if_pos h]; grind
  · rw [if_neg h]
    by_cases hg : goes r.floor (r - r.floor) m = true
    · rw [if_pos hg, icast_succ]
      by_cases ht : (r - r.floor) + (r - r.floor) = 1
      · grind
      · have := (hk ht).1 hg
        grind
    · rw [if_neg hg]
      by_cases ht : (r - r.floor) + (r - r.floor) = 1
      · grind
      · have : ¬ 1 < (r - r.floor) + (r - r.floor) := fun h => hg ((hk ht).2 h)
        grind
theorem goes_mono {p q : Rat} (h : p ≤ q) (hg : goes f p m = true) : goes f q m = true := by
  unfold goes at *
  by_cases m1 : m = 1
  · rwa [if_pos m1] at *
  by_cases m2 : m = 2
  · rwa [if_neg m1, if_pos m2] at *
  by_cases m3 : m = 3
  · rw [if_neg m1, if_neg m2, if_pos m3] at hg; cases hg
  by_cases m4 : m = 4
  · rw [if_neg m1, if_neg m2, if_neg m3, if_pos m4]
  rw [if_neg m1, if_neg m2, if_neg m3, if_neg m4] at *
  by_cases hp : p + p = 1
  · by_cases hq : q + q = 1
    · rw [if_neg (fun h => h hp)] at hg
      rw [if_neg (fun h => h hq)]; exact hg
    · rw [if_pos hq]
      exact decide_eq_true (by grind)
  · rw [if_pos hp] at hg
    have := of_decide_eq_true hg
    rw [if_pos (by grind)]
    exact decide_eq_true (by grind)
/-- Of two fractions the lesser one is not rounded above the other. -/
theorem rnd_mono (h : r ≤ s) (m : Int) : rnd r m ≤ rnd s m := by
  have hf := Rat.floor_monotone h
  rcases Int.lt_or_eq_of_le hf with h1 | h1
  · have h2 := rnd_or r m
    have h3 := rnd_or s m
    omega
  · by_cases hr : r = (r.floor : Rat)
    · rw [rnd, if_pos hr]
      have := rnd_or s m
      omega
    · have hs : ¬ s = (s.floor : Rat) := by
        intro e
        have h3 := fl_le (r := r)
        rw [← h1] at e
        exact hr (by grind)
      rw [rnd, rnd, if_neg hr, if_neg hs, ← h1]
      by_cases hg : goes r.floor (r - r.floor) m = true
      · rw [if_pos hg, if_pos (goes_mono (by grind) hg)]; exact Int.le_refl _
      · rw [if_neg hg]; split <;> omega
/-- The mode of the other side. -/
def oth (m : Int) : Int := if m = 3 then 4 else if m = 4 then 3 else m
theorem floor_neg (h : ¬ r = (r.floor : Rat)) : (-r).floor = -r.floor - 1 := by
  have h1 := fl_le (r := r)
  have h2 := fl_lt (r := r)
  have a1 : -r.floor - 1 ≤ (-r).floor := by
    rw [Rat.le_floor_iff, Rat.intCast_sub, Rat.intCast_neg, Rat.intCast_one]; grind
  have a2 : (-r).floor < -r.floor := by
    rw [Rat.floor_lt_iff, Rat.intCast_neg]; grind
  omega
/-- Turned about. -/
theorem rnd_neg (r : Rat) (h1 : 1 ≤ m) (h7 : m ≤ 7) : rnd (-r) (oth m) = -rnd r m := by
  by_cases hr : r = (r.floor : Rat)
  · have h2 : rnd r m = r.floor := by rw [rnd, if_pos hr]
    rw [h2]
    generalize r.floor = n at *
    rw [hr, ← Rat.intCast_neg, rnd_int]
  · have hf := floor_neg hr
    have hr2 : ¬ -r = ((-r).floor : Rat) := by
      rw [hf, Rat.intCast_sub, Rat.intCast_neg, Rat.intCast_one]
      have := fl_lt (r := r)
      grind
    have hg : goes (-r).floor (-r - (-r).floor) (oth m) = !goes r.floor (r - r.floor) m := by
      have hp : -r - ((-r).floor : Rat) = 1 - (r - r.floor) := by
        rw [hf, Rat.intCast_sub, Rat.intCast_neg, Rat.intCast_one]; grind
      rw [hp, hf]
      generalize r - (r.floor : Rat) = p at *
      generalize r.floor = n at *
      have hb : decide (-n - 1 < 0) = !decide (n < 0) := by
        by_cases h : n < 0
        · rw [decide_eq_true h, decide_eq_false (by omega)]; rfl
        · rw [decide_eq_false h, decide_eq_true (by omega)]; rfl
      have ho : decide ((-n - 1) % 2 ≠ 0) = !decide (n % 2 ≠ 0) := by
        by_cases h : n % 2 ≠ 0
        · rw [decide_eq_true h, decide_eq_false (by omega)]; rfl
        · rw [decide_eq_false h, decide_eq_true (by omega)]; rfl
      have hh : (1 - p + (1 - p) ≠ 1) ↔ (p + p ≠ 1) := by grind
      have hl : p + p ≠ 1 → decide (1 < 1 - p + (1 - p)) = !decide (1 < p + p) := by
        intro h
        by_cases h2 : 1 < p + p
        · rw [decide_eq_true h2, decide_eq_false (by grind)]; rfl
        · rw [decide_eq_false h2, decide_eq_true (by grind)]; rfl
      have hm : m = 1 ∨ m = 2 ∨ m = 3 ∨ m = 4 ∨ m = 5 ∨ m = 6 ∨ m = 7 := by omega
      by_cases ht : p + p ≠ 1
      · have ht2 := hh.2 ht
        rcases hm with rfl | rfl | rfl | rfl | rfl | rfl | rfl <;> simp [goes, oth, hb, ht, ht2, hl ht]
      · have ht2 : ¬ (1 - p + (1 - p) ≠ 1) := fun h => ht (hh.1 h)
        rcases hm with rfl | rfl | rfl | rfl | rfl | rfl | rfl <;> simp [goes, oth, hb, ht, ht2] <;> simpa using ho
    rw [rnd, rnd, if_neg hr, if_neg hr2, hg]
    cases goes r.floor (r - r.floor) m
    · rw [if_pos (show (!false) = true from rfl), if_neg (show ¬ false = true by decide)]; omega
    · rw [if_neg (show ¬ (!true) = true by decide), if_pos (show true = true from rfl)]; omega
end Go.Proofs.YtapikjmijmebpaaDoorK.RoundT
