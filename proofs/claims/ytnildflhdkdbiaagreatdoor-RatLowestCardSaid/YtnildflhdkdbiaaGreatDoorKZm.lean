/-
  Numbers with a sign, as abstract data.
-/
import Derived.Test.YtnildflhdkdbiaaGreatDoorKNm
set_option linter.all false
set_option linter.unusedVariables false
set_option linter.unusedSimpArgs false
set_option maxHeartbeats 4000000
namespace Go.Proofs.YtnildflhdkdbiaaGreatDoorK.NatT
open Go.Proofs.YtnildflhdkdbiaaGreatDoorK.AI Go.Proofs.YtnildflhdkdbiaaGreatDoorK.NatIr Go.Proofs.YtnildflhdkdbiaaGreatDoorK.Dig
/-- The row of X's words. -/
def nl (X : Nat) : D := .sl (wd 4294967296 X).length (W (wd 4294967296 X))
theorem N_nl (X : Nat) : N X = .agg [nl X] := rfl
/-- Below nought? -/
def ng (z : Int) : Bool := decide (z < 0)
/-- z as the program makes it. -/
def ZD (z : Int) : D := .agg [.bool (ng z), nl z.natAbs]
/-- What a sign and a number tell. -/
def sg (b : Bool) (X : Nat) : Int := if b then -(X : Int) else X
theorem sg_abs (b : Bool) (X : Nat) : (sg b X).natAbs = X := by cases b <;> simp [sg]
theorem sg_neg (b : Bool) (X : Nat) : ng (sg b X) = (b && decide (X ≠ 0)) := by
  unfold ng
  cases b
  · simp [sg]
  · simp only [sg, if_true, Bool.true_and]
    exact decide_eq_decide.2 (by omega)
theorem sg_self (z : Int) : sg (ng z) z.natAbs = z := by
  unfold sg ng
  split
  · rename_i h; have := of_decide_eq_true h; omega
  · rename_i h; have h2 : ¬ z < 0 := fun h2 => h (decide_eq_true h2); omega
theorem ZD_sg (b : Bool) (X : Nat) : ZD (sg b X) = .agg [.bool (b && decide (X ≠ 0)), nl X] := by rw [ZD, sg_neg, sg_abs]
/-- d tells z, in at most L words; its sign may stand at nought, too. -/
def Zm (L : Nat) (z : Int) (d : D) : Prop := ∃ (b : Bool) (X : Nat) (e : D), Nm L X (.agg [e]) ∧ z = sg b X ∧ d = .agg [.bool b, e]
variable {L M X : Nat} {x y z : Int} {d e : D}
theorem Nm.un (h : Nm L X d) : ∃ (n : Nat) (cs : List D), d = .agg [.sl n cs] := by
  obtain ⟨a, n, _, _, _, _, rfl⟩ := h
  exact ⟨n, _, rfl⟩
theorem zm_in {a : List Int} {n : Nat} (b : Bool) (hn : n = a.length) (ha : ok 4294967296 a) (hl : a.length ≤ L) : Zm L (sg b (vl 4294967296 a)) (.agg [.bool b, .sl n (W a)]) := ⟨b, _, _, nm_in hn ha hl, rfl, rfl⟩
theorem zm_ZD (h : z.natAbs < 4294967296 ^ L) : Zm L z (ZD z) := ⟨ng z, z.natAbs, nl z.natAbs, nm_N h, (sg_self z).symm, rfl⟩
theorem zm_sg {b : Bool} {X : Nat} {e : D} (h : Nm L X (.agg [e])) : Zm L (sg b X) (.agg [.bool b, e]) := ⟨b, X, e, h, rfl, rfl⟩
theorem Zm.lt (h : Zm L z d) : z.natAbs < 4294967296 ^ L := by
  obtain ⟨b, X, e, h, rfl, _⟩ := h
  rw [sg_abs]; exact h.lt
theorem Zm.up (h : Zm L z d) (hl : L ≤ M) : Zm M z d := by
  obtain ⟨b, X, e, h, h1, h2⟩ := h
  exact ⟨b, X, e, h.up hl, h1, h2⟩
theorem Zm.row (h : Zm L z d) : ∃ (b : Bool) (n : Nat) (a : List Int), Nm L z.natAbs (.agg [.sl n (W a)]) ∧ z = sg b z.natAbs ∧ d = .agg [.bool b, .sl n (W a)] := by
  obtain ⟨b, X, e, h, rfl, rfl⟩ := h
  have h0 := h
  obtain ⟨a, n, _, _, _, _, he⟩ := h0
  cases he
  rw [sg_abs]
  exact ⟨b, n, a, h, rfl, rfl⟩
theorem zm_le (hy : Zm L y e) (h : z.natAbs ≤ y.natAbs) : Zm L z (ZD z) := zm_ZD (Nat.lt_of_le_of_lt h hy.lt)
theorem zm_neg (hx : Zm L x d) : Zm L (-x) (ZD (-x)) := zm_le hx (by omega)
theorem zm_add (hx : Zm L x d) (hy : Zm M y e) : Zm (max L M + 1) (x + y) (ZD (x + y)) := by
  have h1 := hx.lt
  have h2 := hy.lt
  have h3 : 4294967296 ^ L ≤ 4294967296 ^ max L M := Nat.pow_le_pow_right (by omega) (by omega)
  have h4 : 4294967296 ^ M ≤ 4294967296 ^ max L M := Nat.pow_le_pow_right (by omega) (by omega)
  refine zm_ZD ?_
  rw [Nat.pow_succ]
  omega
theorem zm_mul (hx : Zm L x d) (hy : Zm M y e) : Zm (L + M) (x * y) (ZD (x * y)) := by
  refine zm_ZD ?_
  rw [Int.natAbs_mul, Nat.pow_add]
  exact Nat.mul_lt_mul_of_le_of_lt (Nat.le_of_lt hx.lt) hy.lt (Nat.lt_of_le_of_lt (Nat.zero_le _) hx.lt)
theorem cmpN_zero (X : Nat) : decide (cmpN X 0 = 0) = decide (X = 0) := by
  unfold cmpN
  rw [if_neg (Nat.not_lt_zero _)]
  split <;> simp_all
end Go.Proofs.YtnildflhdkdbiaaGreatDoorK.NatT
