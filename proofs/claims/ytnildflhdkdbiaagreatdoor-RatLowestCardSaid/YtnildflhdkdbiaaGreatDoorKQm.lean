/-
  Fractions, as abstract data.
-/
import Derived.Test.YtnildflhdkdbiaaGreatDoorKNumC
set_option linter.all false
set_option linter.unusedVariables false
set_option linter.unusedSimpArgs false
set_option maxHeartbeats 4000000
namespace Go.Proofs.YtnildflhdkdbiaaGreatDoorK.RatT
open Go.Proofs.YtnildflhdkdbiaaGreatDoorK.AI Go.Proofs.YtnildflhdkdbiaaGreatDoorK.NatIr Go.Proofs.YtnildflhdkdbiaaGreatDoorK.Dig Go.Proofs.YtnildflhdkdbiaaGreatDoorK.NatT Go.Proofs.YtnildflhdkdbiaaGreatDoorK.NumT
/-- r as the program makes it. -/
def QD (r : Rat) : D := .agg [.bool (ng r.num), nl r.num.natAbs, nl r.den]
/-- d tells r, in at most L words each, in whatever terms; what is over nought is nought. -/
def Qm (L : Nat) (r : Rat) (d : D) : Prop := ∃ (b : Bool) (X Y : Nat) (e1 e2 : D), 1 ≤ L ∧ Nm L X (.agg [e1]) ∧ Nm L Y (.agg [e2]) ∧ r = mkRat (sg b X) Y ∧ d = .agg [.bool b, e1, e2]
variable {L M X Y : Nat} {x y r : Rat} {d e : D}
theorem sg_div {b : Bool} {X g : Nat} (h : g ∣ X) : sg b X / (g : Int) = sg b (X / g) := by
  cases b
  · simp [sg]
  · simp only [sg, if_true]
    rw [Int.neg_ediv_of_dvd (Int.natCast_dvd_natCast.2 h)]
    simp
theorem mk_num {b : Bool} {X Y : Nat} (hY : Y ≠ 0) : (mkRat (sg b X) Y).num = sg b (X / Nat.gcd X Y) := by
  rw [Rat.num_mkRat, if_neg hY, sg_abs, Nat.gcd_comm, sg_div (Nat.gcd_dvd_left X Y)]
theorem mk_den {b : Bool} {X Y : Nat} (hY : Y ≠ 0) : (mkRat (sg b X) Y).den = Y / Nat.gcd X Y := by
  rw [Rat.den_mkRat, if_neg hY, sg_abs, Nat.gcd_comm]
theorem mk_le (n : Int) (d : Nat) : (mkRat n d).num.natAbs ≤ n.natAbs ∧ ((mkRat n d).den ≤ d ∨ (mkRat n d).den = 1) := by
  by_cases hd : d = 0
  · subst hd
    rw [Rat.mkRat_zero]
    exact ⟨Nat.zero_le _, .inr rfl⟩
  · obtain ⟨b, X, rfl⟩ : ∃ b X, n = sg b X := ⟨ng n, n.natAbs, (sg_self n).symm⟩
    rw [mk_num hd, mk_den hd, sg_abs, sg_abs]
    exact ⟨Nat.div_le_self _ _, .inl (Nat.div_le_self _ _)⟩
theorem QD_mk {b : Bool} {X Y : Nat} (hY : Y ≠ 0) : QD (mkRat (sg b X) Y) = .agg [.bool (b && decide (X / Nat.gcd X Y ≠ 0)), nl (X / Nat.gcd X Y), nl (Y / Nat.gcd X Y)] := by
  rw [QD, mk_num hY, mk_den hY, sg_neg, sg_abs]
theorem pow_one_le (h : 1 ≤ L) : 1 < 4294967296 ^ L := Nat.one_lt_pow (by omega) (by omega)
theorem qm_QD (h0 : 1 ≤ L) (h1 : r.num.natAbs < 4294967296 ^ L) (h2 : r.den < 4294967296 ^ L) : Qm L r (QD r) :=
  ⟨ng r.num, r.num.natAbs, r.den, nl r.num.natAbs, nl r.den, h0, nm_N h1, nm_N h2, by rw [sg_self, Rat.mkRat_self], rfl⟩
theorem Qm.pos (h : Qm L r d) : 1 ≤ L := by obtain ⟨_, _, _, _, _, h, _⟩ := h; exact h
theorem Qm.lt (h : Qm L r d) : r.num.natAbs < 4294967296 ^ L ∧ r.den < 4294967296 ^ L := by
  obtain ⟨b, X, Y, e1, e2, h0, h1, h2, rfl, _⟩ := h
  have h3 := mk_le (sg b X) Y
  rw [sg_abs] at h3
  have h4 := h1.lt
  have h5 := h2.lt
  have h6 := pow_one_le h0
  omega
theorem Qm.up (h : Qm L r d) (hl : L ≤ M) : Qm M r d := by
  obtain ⟨b, X, Y, e1, e2, h0, h1, h2, h3, h4⟩ := h
  exact ⟨b, X, Y, e1, e2, Nat.le_trans h0 hl, h1.up hl, h2.up hl, h3, h4⟩
theorem Qm.self (h : Qm L r d) : Qm L r (QD r) := qm_QD h.pos h.lt.1 h.lt.2
theorem qm_le (h0 : 1 ≤ L) {n : Int} {d : Nat} (h1 : n.natAbs < 4294967296 ^ L) (h2 : d < 4294967296 ^ L) : Qm L (mkRat n d) (QD (mkRat n d)) := by
  have h3 := mk_le n d
  have h6 := pow_one_le h0
  exact qm_QD h0 (by omega) (by omega)
theorem qm_neg (hx : Qm L x d) : Qm L (-x) (QD (-x)) := qm_QD hx.pos (by rw [Rat.neg_num, Int.natAbs_neg]; exact hx.lt.1) hx.lt.2
theorem mul_lt2 {a b A B : Nat} (h1 : a < A) (h2 : b < B) : a * b < A * B := Nat.mul_lt_mul_of_le_of_lt (Nat.le_of_lt h1) h2 (by omega)
theorem qm_mul (hx : Qm L x d) (hy : Qm M y e) : Qm (L + M) (x * y) (QD (x * y)) := by
  have h1 := hx.lt
  have h2 := hy.lt
  have h3 := hx.pos
  rw [Rat.mul_def']
  refine qm_le (by omega) ?_ ?_
  · rw [Int.natAbs_mul, Nat.pow_add]; exact mul_lt2 h1.1 h2.1
  · rw [Nat.pow_add]; exact mul_lt2 h1.2 h2.2
theorem qm_add (hx : Qm L x d) (hy : Qm M y e) : Qm (L + M + 1) (x + y) (QD (x + y)) := by
  have h1 := hx.lt
  have h2 := hy.lt
  rw [Rat.add_def']
  have h3 : (x.num * y.den).natAbs < 4294967296 ^ (L + M) := by rw [Int.natAbs_mul, Nat.pow_add]; exact mul_lt2 h1.1 h2.2
  have h4 : (y.num * x.den).natAbs < 4294967296 ^ (L + M) := by rw [Int.natAbs_mul, Nat.pow_add, Nat.mul_comm (4294967296 ^ L)]; exact mul_lt2 h2.1 h1.2
  have h5 : x.den * y.den < 4294967296 ^ (L + M) := by rw [Nat.pow_add]; exact mul_lt2 h1.2 h2.2
  refine qm_le (by omega) ?_ ?_
  · rw [Nat.pow_succ]; omega
  · rw [Nat.pow_succ]; omega
theorem qm_inv (hx : Qm L x d) : Qm L x⁻¹ (QD x⁻¹) := by
  have h1 := hx.lt
  have h6 := pow_one_le hx.pos
  refine qm_QD hx.pos ?_ ?_
  · rw [Rat.num_inv, Int.natAbs_mul, Int.natAbs_natCast]
    have : x.num.sign.natAbs ≤ 1 := by have := sign_bnd x.num; omega
    have h2 : x.num.sign.natAbs * x.den ≤ 1 * x.den := Nat.mul_le_mul_right _ this
    omega
  · rw [Rat.den_inv]; split <;> omega
theorem qm_zero : Qm 1 0 (QD 0) := qm_QD (by omega) (by decide) (by decide)
theorem QD_zero : QD 0 = .agg [.bool false, .sl 0 [], nl 1] := by rw [QD, show (0 : Rat).num.natAbs = 0 from rfl, nl_zero]; rfl
theorem qm_int (n : Int) (h : n.natAbs < 4294967296 ^ 2) : Qm 2 (n : Rat) (QD (n : Rat)) := qm_QD (by omega) h (by rw [Rat.den_intCast]; decide)
theorem Qm.row (h : Qm L r d) : ∃ (b : Bool) (X Y n m : Nat) (cs ds : List D), Nm L X (.agg [.sl n cs]) ∧ Nm L Y (.agg [.sl m ds]) ∧ r = mkRat (sg b X) Y ∧ d = .agg [.bool b, .sl n cs, .sl m ds] := by
  obtain ⟨b, X, Y, e1, e2, h0, h1, h2, h3, h4⟩ := h
  obtain ⟨n, cs, he⟩ := h1.un
  cases he
  obtain ⟨m, ds, he⟩ := h2.un
  cases he
  exact ⟨b, X, Y, n, m, cs, ds, h1, h2, h3, h4⟩
end Go.Proofs.YtnildflhdkdbiaaGreatDoorK.RatT
