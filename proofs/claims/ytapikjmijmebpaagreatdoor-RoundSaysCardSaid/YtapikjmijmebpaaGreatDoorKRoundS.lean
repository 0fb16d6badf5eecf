/-
  So many digits in all, in plain Lean.
-/
import Derived.Test.YtapikjmijmebpaaGreatDoorKRq
import Derived.Test.YtapikjmijmebpaaGreatDoorKDecP
import Derived.Test.YtapikjmijmebpaaGreatDoorKQa
set_option linter.all false
set_option linter.unusedVariables false
set_option linter.unusedSimpArgs false
set_option maxHeartbeats 4000000
namespace Go.Proofs.YtapikjmijmebpaaGreatDoorK.RoundT
open Go.Proofs.YtapikjmijmebpaaGreatDoorK.AI Go.Proofs.YtapikjmijmebpaaGreatDoorK.Dig Go.Proofs.YtapikjmijmebpaaGreatDoorK.NatT Go.Proofs.YtapikjmijmebpaaGreatDoorK.NumT Go.Proofs.YtapikjmijmebpaaGreatDoorK.RatT
variable {X k : Nat} {a r : Rat} {m : Int}
def tq (k : Int) : Rat := (10 : Rat) ^ k
theorem ten0 : (10 : Rat) ≠ 0 := by decide
theorem tq_pos (k : Int) : 0 < tq k := Rat.zpow_pos (by decide)
theorem tq_add (i j : Int) : tq (i + j) = tq i * tq j := Rat.zpow_add ten0 i j
theorem tq_nat (k : Nat) : tq (k : Int) = (10 : Rat) ^ k := Rat.zpow_natCast _ _
theorem tq_zero : tq 0 = 1 := by have := tq_nat 0; rwa [Rat.pow_zero] at this
theorem tq_neg (k : Int) : tq (-k) = (tq k)⁻¹ := Rat.zpow_neg _ _
theorem tq_cast (k : Nat) : tq (k : Int) = ((10 ^ k : Nat) : Rat) := by rw [tq_nat, Rat.natCast_pow]; rfl
theorem tq_castI (k : Nat) : tq (k : Int) = ((10 ^ k : Int) : Rat) := by rw [tq_nat, Rat.intCast_pow]; rfl
theorem inv_pow' (k : Nat) : ((10 : Rat)⁻¹) ^ k = ((10 : Rat) ^ k)⁻¹ := by
  induction k with
  | zero => rw [Rat.pow_zero, Rat.pow_zero, ← Rat.mul_one (1 : Rat)⁻¹, Rat.inv_mul_cancel _ (by decide)]
  | succ k ih =>
    have h1 := tens_ne k
    have h2 := tens_ne (k + 1)
    rw [Rat.pow_succ, ih]
    have e : (((10 : Rat) ^ k)⁻¹ * (10 : Rat)⁻¹) * (10 : Rat) ^ (k + 1) = 1 := by
      rw [Rat.pow_succ]
      have a1 := Rat.inv_mul_cancel _ h1
      have a2 := Rat.inv_mul_cancel _ ten0
      grind
    have e2 := Rat.mul_inv_cancel _ h2
    generalize ((10 : Rat) ^ (k + 1))⁻¹ = y at *
    generalize ((10 : Rat) ^ k)⁻¹ * (10 : Rat)⁻¹ = z at *
    generalize (10 : Rat) ^ (k + 1) = t at *
    grind
theorem tq_negN (k : Nat) : tq (-(k : Int)) = ((10 : Rat)⁻¹) ^ k := by rw [tq_neg, tq_nat, inv_pow']
theorem mul_lt {a b c : Rat} (h : 0 < c) (hab : a < b) : a * c < b * c := (Rat.mul_lt_mul_right h).2 hab
theorem lt_of_mul {a b c : Rat} (h : 0 < c) (hab : a * c < b * c) : a < b := (Rat.mul_lt_mul_right h).1 hab
theorem mul_le {a b c : Rat} (h : 0 < c) (hab : a ≤ b) : a * c ≤ b * c := Rat.mul_le_mul_of_nonneg_right hab (Rat.le_of_lt h)
theorem le_of_mul {a b c : Rat} (h : 0 < c) (hab : a * c ≤ b * c) : a ≤ b := Rat.le_of_mul_le_mul_right hab h
theorem tq_lt {i j : Int} (h : i < j) : tq i < tq j := by
  have e : tq j = tq i * tq (j - i) := by rw [← tq_add]; congr 1; omega
  have h1 : (1 : Rat) < tq (j - i) := by
    obtain ⟨n, hn⟩ : ∃ n : Nat, j - i = ((n + 1 : Nat) : Int) := ⟨(j - i - 1).toNat, by omega⟩
    rw [hn, tq_cast, show (1 : Rat) = ((1 : Nat) : Rat) from rfl, Rat.natCast_lt_natCast]
    exact Nat.one_lt_pow (by omega) (by omega)
  have h2 := mul_lt (tq_pos i) h1
  rw [e]
  grind
theorem tq_le {i j : Int} (h : i ≤ j) : tq i ≤ tq j := by
  by_cases e : i = j
  · rw [e]; exact Rat.le_refl
  · exact Rat.le_of_lt (tq_lt (by omega))
def dl (X : Nat) : Nat := (Lib.decDigits X).length
theorem dl_pos (X : Nat) : 0 < dl X := dec_pos X
theorem dl_lt (X : Nat) : X < 10 ^ dl X := by
  have h := decV_lt (Lib.decDigits X) (dec_isD X)
  rwa [dec_val] at h
theorem dl_le (h : X ≠ 0) : 10 ^ (dl X - 1) ≤ X := by
  have h0 := dl_pos X
  by_cases h1 : dl X - 1 = 0
  · rw [h1, Nat.pow_zero]; omega
  · refine Nat.le_of_not_lt fun h2 => ?_
    have h3 : dl X ≤ dl X - 1 := dec_len h2 (by omega)
    omega
theorem dl_iff {n : Nat} (h : X ≠ 0) : n < dl X ↔ 10 ^ n ≤ X := by
  constructor
  · intro h1
    exact Nat.le_trans (Nat.pow_le_pow_right (by omega) (by omega)) (dl_le h)
  · intro h1
    have h2 := dl_lt X
    refine Nat.lt_of_not_le fun h3 => ?_
    have h4 : 10 ^ dl X ≤ 10 ^ n := Nat.pow_le_pow_right (by omega) h3
    omega
def pwr (a : Rat) : Int := if a < tq ((dl a.num.natAbs : Int) - dl a.den) then (dl a.num.natAbs : Int) - dl a.den - 1 else (dl a.num.natAbs : Int) - dl a.den
theorem num_den (a : Rat) : a * (a.den : Rat) = (a.num : Rat) := by
  have h : (a.den : Rat) ≠ 0 := fun h => a.den_nz (by exact_mod_cast h)
  have e : a = (a.num : Rat) / (a.den : Rat) := by rw [← Rat.mkRat_eq_div, Rat.mkRat_self]
  have e2 : (a.num : Rat) / (a.den : Rat) * (a.den : Rat) = (a.num : Rat) := by rw [Rat.div_def, Rat.mul_assoc, Rat.inv_mul_cancel _ h, Rat.mul_one]
  rw [← e] at e2
  exact e2
theorem pwr_bnd (h : 0 < a) : tq (pwr a) ≤ a ∧ a < tq (pwr a + 1) := by
  have hn : 0 < a.num := by
    have := (num_neg_iff (-a)).2 (by grind)
    rw [Rat.neg_num] at this; omega
  have e : a * (a.den : Rat) = (a.num.natAbs : Rat) := by
    rw [num_den]
    have : a.num = (a.num.natAbs : Int) := by omega
    rw [show (a.num : Rat) = ((a.num.natAbs : Int) : Rat) from by rw [← this]]; rfl
  have hP0 : a.num.natAbs ≠ 0 := by omega
  have hQ0 : a.den ≠ 0 := a.den_nz
  unfold pwr
  generalize a.num.natAbs = P at *
  generalize a.den = Q at *
  have p1 := dl_lt P
  have p2 := dl_le hP0
  have q1 := dl_lt Q
  have q2 := dl_le hQ0
  have p0 := dl_pos P
  have q0 := dl_pos Q
  generalize dl P = i at *
  generalize dl Q = j at *
  have p1' : (P : Rat) < tq (i : Int) := by rw [tq_cast, Rat.natCast_lt_natCast]; exact p1
  have p2' : tq ((i : Int) - 1) ≤ (P : Rat) := by
    rw [show ((i : Int) - 1) = ((i - 1 : Nat) : Int) by omega, tq_cast, Rat.natCast_le_natCast]; exact p2
  have q1' : (Q : Rat) < tq (j : Int) := by rw [tq_cast, Rat.natCast_lt_natCast]; exact q1
  have q2' : tq ((j : Int) - 1) ≤ (Q : Rat) := by
    rw [show ((j : Int) - 1) = ((j - 1 : Nat) : Int) by omega, tq_cast, Rat.natCast_le_natCast]; exact q2
  have hlo : tq ((i : Int) - 1 - j) < a := by
    refine lt_of_mul (tq_pos (j : Int)) ?_
    rw [← tq_add, show (i : Int) - 1 - j + j = i - 1 by omega]
    have h1 := mul_lt h q1'
    rw [Rat.mul_comm (Q : Rat) a, e, Rat.mul_comm (tq (j : Int)) a] at h1
    grind
  have hhi : a < tq ((i : Int) - j + 1) := by
    refine lt_of_mul (tq_pos ((j : Int) - 1)) ?_
    rw [← tq_add, show (i : Int) - j + 1 + (j - 1) = i by omega]
    have h1 := mul_le h q2'
    rw [Rat.mul_comm (Q : Rat) a, e, Rat.mul_comm (tq ((j : Int) - 1)) a] at h1
    grind
  split
  · rename_i hc
    rw [show (i : Int) - j - 1 + 1 = i - j by omega, show (i : Int) - j - 1 = i - 1 - j by omega]
    exact ⟨Rat.le_of_lt hlo, hc⟩
  · rename_i hc
    exact ⟨by grind, hhi⟩
def mag (r : Rat) : Rat := if r < 0 then -r else r
theorem mag_pos (h : r ≠ 0) : 0 < mag r := by
  unfold mag; split <;> grind
def sgs (r : Rat) (k : Nat) : Int := (k : Int) - 1 - pwr (mag r)
def sgn (r : Rat) (k : Nat) (m : Int) : Int := rnd (r * tq (sgs r k)) m
theorem sgn_bnd (h : r ≠ 0) (hk : 1 ≤ k) : 10 ^ (k - 1) ≤ (sgn r k m).natAbs ∧ (sgn r k m).natAbs ≤ 10 ^ k := by
  have h1 := pwr_bnd (mag_pos h)
  have e0 : mag r * tq (sgs r k) < tq (k : Int) := by
    have := mul_lt (tq_pos (sgs r k)) h1.2
    rwa [← tq_add, show pwr (mag r) + 1 + sgs r k = (k : Int) by unfold sgs; omega] at this
  have e1 : tq ((k - 1 : Nat) : Int) ≤ mag r * tq (sgs r k) := by
    have := mul_le (tq_pos (sgs r k)) h1.1
    rwa [← tq_add, show pwr (mag r) + sgs r k = ((k - 1 : Nat) : Int) by unfold sgs; omega] at this
  rw [tq_castI] at e0 e1
  have c1 : ((10 ^ (k - 1) : Nat) : Int) = (10 : Int) ^ (k - 1) := by simp
  have c2 : ((10 ^ k : Nat) : Int) = (10 : Int) ^ k := by simp
  have c0 : (0 : Int) ≤ (10 : Int) ^ (k - 1) := by rw [← c1]; exact Int.natCast_nonneg _
  unfold sgn
  unfold mag at e0 e1
  generalize tq (sgs r k) = t at *
  split at e0
  · rename_i hneg
    rw [if_pos hneg] at e1
    have a1 : r * t ≤ ((-(10 ^ (k - 1)) : Int) : Rat) := by rw [Rat.intCast_neg]; grind
    have a2 : ((-(10 ^ k) : Int) : Rat) ≤ r * t := by rw [Rat.intCast_neg]; grind
    have b1 := rnd_mono a1 m
    have b2 := rnd_mono a2 m
    rw [rnd_int] at b1 b2
    omega
  · rename_i hneg
    rw [if_neg hneg] at e1
    have b1 := rnd_mono e1 m
    have b2 := rnd_mono (Rat.le_of_lt e0) m
    rw [rnd_int] at b1 b2
    omega
theorem sgn_more (h : r ≠ 0) (hk : 1 ≤ k) (hm : k < dl (sgn r k m).natAbs) : (sgn r k m).natAbs = 10 ^ k := by
  have h1 := sgn_bnd (m := m) h hk
  have h2 : (sgn r k m).natAbs ≠ 0 := by have := Nat.pow_pos (n := k - 1) (show 0 < 10 by omega); omega
  have h3 := (dl_iff h2).1 hm
  omega
theorem sgn_dl (h : r ≠ 0) (hk : 1 ≤ k) : dl (sgn r k m).natAbs ≤ k + 1 := by
  have h1 := sgn_bnd (m := m) h hk
  refine dec_len (Nat.lt_of_le_of_lt h1.2 ?_) (by omega)
  exact Nat.pow_lt_pow_right (by omega) (by omega)
def sgv (r : Rat) (k : Nat) (m : Int) : Int × Nat :=
  if sgs r k < 0 then (sgn r k m * (10 : Int) ^ (-sgs r k).toNat, 0)
  else if 0 < sgs r k ∧ k < dl (sgn r k m).natAbs then (sgn r k m / 10, (sgs r k - 1).toNat)
  else (sgn r k m, (sgs r k).toNat)
def strip (k : Nat) : Nat → List UInt8 → List UInt8
  | 0, l => l
  | f + 1, l => if k < l.length ∧ l.getD (l.length - 1) 0 = 48 then strip k f (l.take (l.length - 1)) else l
theorem decDigits_ten (X n : Nat) (h : X ≠ 0) : Lib.decDigits (X * 10 ^ n) = Lib.decDigits X ++ List.replicate n 48 := by
  induction n with
  | zero => simp
  | succ n ih =>
    have h1 : ¬ X * 10 ^ (n + 1) < 10 := by
      have := Nat.mul_le_mul (show 1 ≤ X by omega) (Nat.pow_le_pow_right (show 0 < 10 by omega) (show 1 ≤ n + 1 by omega))
      omega
    rw [dec_big h1, Nat.pow_succ, ← Nat.mul_assoc, Nat.mul_div_cancel _ (by omega), Nat.mul_mod_left, ih, List.append_assoc]
    rw [show [UInt8.ofNat (48 + 0)] = [(48 : UInt8)] from rfl, ← List.replicate_succ']
end Go.Proofs.YtapikjmijmebpaaGreatDoorK.RoundT
