/-
 Joined: Qm, RatA, RatB, RatC, RatL.
-/
import Derived.Test.YtoiepmpggabglaaGreatDoorKZa
import Derived.Test.YtoiepmpggabglaaGreatDoorKIrRat
import Derived.Test.YtoiepmpggabglaaGreatDoorKP
set_option linter.all false
set_option maxHeartbeats 0
/-
 Fractions, as abstract data.
-/
namespace Go.Proofs.YtoiepmpggabglaaGreatDoorK.RatT
open AI NatIr Dig NatT NumT
def QD (r : Rat) : D := .agg [.bool (ng r.num), nl r.num.natAbs, nl r.den]
def Qm (L : Nat) (r : Rat) (d : D) : Prop := ∃ (b : Bool) (X Y : Nat) (e1 e2 : D), 1 ≤ L ∧ Nm L X (.agg [e1]) ∧ Nm L Y (.agg [e2]) ∧ r = mkRat (sg b X) Y ∧ d = .agg [.bool b, e1, e2]
variable {L M X Y : Nat} {x y r : Rat} {d e : D}
theorem sg_div {b : Bool} {X g : Nat} (h : g ∣ X) : sg b X / (g : Int) = sg b (X / g) := by
 cases b
 ·simp [sg]
 ·simp only [sg, if_true]
  rw [Int.neg_ediv_of_dvd (Int.natCast_dvd_natCast.2 h)]
  simp
theorem mk_num {b : Bool} {X Y : Nat} (hY : Y ≠ 0) : (mkRat (sg b X) Y).num = sg b (X / Nat.gcd X Y) := by
 rw [Rat.num_mkRat, if_neg hY, sg_abs, Nat.gcd_comm, sg_div (Nat.gcd_dvd_left X Y)]
theorem mk_den {b : Bool} {X Y : Nat} (hY : Y ≠ 0) : (mkRat (sg b X) Y).den = Y / Nat.gcd X Y := by
 rw [Rat.den_mkRat, if_neg hY, sg_abs, Nat.gcd_comm]
theorem mk_le (n : Int) (d : Nat) : (mkRat n d).num.natAbs ≤ n.natAbs ∧ ((mkRat n d).den ≤ d ∨ (mkRat n d).den = 1) := by
 by_cases hd : d = 0
 ·subst hd
  rw [Rat.mkRat_zero]
  exact ⟨Nat.zero_le _, .inr rfl⟩
 ·obtain ⟨b, X, rfl⟩ : ∃ b X, n = sg b X := ⟨ng n, n.natAbs, (sg_self n).symm⟩
  rw [mk_num hd, mk_den hd, sg_abs, sg_abs]
  exact ⟨Nat.div_le_self _ _, .inl (Nat.div_le_self _ _)⟩
theorem QD_mk {b : Bool} {X Y : Nat} (hY : Y ≠ 0) : QD (mkRat (sg b X) Y) = .agg [.bool (b && decide (X / Nat.gcd X Y ≠ 0)), nl (X / Nat.gcd X Y), nl (Y / Nat.gcd X Y)] := by
 rw [QD, mk_num hY, mk_den hY, sg_neg, sg_abs]
theorem pow_one_le (h : 1 ≤ L) : 1 < 4294967296 ^ L := Nat.one_lt_pow (by omega) (by omega)
theorem qm_QD (h0 : 1 ≤ L) (h1 : r.num.natAbs < 4294967296 ^ L) (h2 : r.den < 4294967296 ^ L) : Qm L r (QD r) :=
 ⟨ng r.num, r.num.natAbs, r.den, nl r.num.natAbs, nl r.den, h0, nm_N h1, nm_N h2, by rw [sg_self, Rat.mkRat_self], rfl⟩
theorem Qm.pos (h : Qm L r d) : 1 ≤ L := by obtain ⟨_, _, _, _, _, h, _⟩ := h; exact h
theorem Qm.lt (h : Qm L r d) : r.num.natAbs < 4294967296 ^ L ∧ r.den < 4294967296 ^ L := by
 obtain ⟨b, X, Y, e1, e2, h0, h1, h2, rfl, _⟩ := h
 have h3 := mk_le (sg b X) Y
 rw [sg_abs] at h3
 have h4 := h1.lt
 have h5 := h2.lt
 have h6 := pow_one_le h0
 omega
theorem Qm.up (h : Qm L r d) (hl : L ≤ M) : Qm M r d := by
 obtain ⟨b, X, Y, e1, e2, h0, h1, h2, h3, h4⟩ := h
 exact ⟨b, X, Y, e1, e2, Nat.le_trans h0 hl, h1.up hl, h2.up hl, h3, h4⟩
theorem Qm.self (h : Qm L r d) : Qm L r (QD r) := qm_QD h.pos h.lt.1 h.lt.2
theorem qm_inv (hx : Qm L x d) : Qm L x⁻¹ (QD x⁻¹) := by
 have h1 := hx.lt
 have h6 := pow_one_le hx.pos
 refine qm_QD hx.pos ?_ ?_
 ·rw [Rat.num_inv, Int.natAbs_mul, Int.natAbs_natCast]
  have : x.num.sign.natAbs ≤ 1 := by have := sign_bnd x.num; omega
  have h2 : x.num.sign.natAbs * x.den ≤ 1 * x.den := Nat.mul_le_mul_right _ this
  omega
 ·rw [Rat.den_inv]; split <;> omega
theorem QD_zero : QD 0 = .agg [.bool false, .sl 0 [], nl 1] := by rw [QD, show (0 : Rat).num.natAbs = 0 from rfl, nl_zero]; rfl
theorem Qm.row (h : Qm L r d) : ∃ (b : Bool) (X Y n m : Nat) (cs ds : List D), Nm L X (.agg [.sl n cs]) ∧ Nm L Y (.agg [.sl m ds]) ∧ r = mkRat (sg b X) Y ∧ d = .agg [.bool b, .sl n cs, .sl m ds] := by
 obtain ⟨b, X, Y, e1, e2, h0, h1, h2, h3, h4⟩ := h
 obtain ⟨n, cs, he⟩ := h1.un
 cases he
 obtain ⟨m, ds, he⟩ := h2.un
 cases he
 exact ⟨b, X, Y, n, m, cs, ds, h1, h2, h3, h4⟩
end Go.Proofs.YtoiepmpggabglaaGreatDoorK.RatT
/-
 Package rat: one, none, zero, Of, plain, Sign, Neg, times, Add, Mul, Cmp, Int, Inv: what they compute.
-/
namespace Go.Proofs.YtoiepmpggabglaaGreatDoorK.RatT
open AI NatIr Dig NatT NumT LibT
attribute [local irreducible] awp awpOps
attribute [local go_sem] nl ZD
attribute [local go_sem] QD
variable {G : World → Prop} {L M X Y : Nat} {x y r : Rat} {d e : D}
theorem nm1 : Nm 1 1 (N 1) := nm_N (by omega)
theorem pcr_one (hG : Stable G) : PCr Tryz.prog G 19 [] (N 1) := by
 have h1 := NatT.pcr_of hG 1 (by omega)
 refine pcr_byq ok19 hG (n := 2) (rv := [.cell 0 true 1]) fun r hr => ?_; unfold c19 st0
 refine xctl ?_
 refine xrg ?_
 refine xctl ?_
 refine xrg ?_; (refine xca1 ?_; refine xca (h1) ?_)
 refine xrg ?_
 refine xctl ?_
 refine xrt ?_
 exact hr.symm
theorem pcr_none (hG : Stable G) : PCr Tryz.prog G 78 [] (QD 0) := by
 have h1 := pcr_one hG
 rw [QD_zero]
 refine pcr_byq ok78 hG (n := 3) (rv := [.cell 0 true 3]) fun r hr => ?_; unfold c78 st0
 refine xctl ?_
 refine xrg ?_
 refine xctl ?_
 refine xrg ?_; (refine xca1 ?_; refine xca (h1) ?_)
 refine xrg ?_
 refine xctl ?_
 refine xrt ?_
 exact hr.symm
theorem pcr_rzero (hG : Stable G) (hx : Nm L X d) (h : L < 1000000) : PCr Tryz.prog G 77 [d] (.bool (decide (X = 0))) := by
 obtain ⟨n, cs, rfl⟩ := hx.un
 have hc := pcr_cmpN hG hx nm0 h (by omega)
 refine pcr_byq ok77 hG (n := 7) (rv := [.tmp 2]) fun r hr => ?_; unfold c77 st0
 refine xctl ?_
 refine xrg ?_
 refine xctl ?_
 refine xrg ?_; (refine xcf1 ?_; refine xcf (hc) rfl ?_)
 refine xrg ?_
 refine xctl ?_
 refine xrt ?_
 rw [hr, cmpN_zero]
theorem pcr_of (hG : Stable G) {b : Bool} (hx : Nm L X (.agg [d])) (hy : Nm M Y (.agg [e])) (hY : Y ≠ 0) (h1 : L < 150000) (h2 : M < 150000) :
  PCr Tryz.prog G 40 [.agg [.bool b, d], .agg [e]] (.tup [QD (mkRat (sg b X) Y), .bool true]) := by
 obtain ⟨n, cs, he⟩ := hx.un
 cases he
 obtain ⟨m, ds, he⟩ := hy.un
 cases he
 have hz := pcr_rzero hG hy (by omega)
 rw [decide_eq_false hY] at hz
 have hg := pcr_gcdN hG hx hy (by omega) (by omega)
 have hgz : Nat.gcd X Y ≠ 0 := fun h => hY (Nat.eq_zero_of_gcd_eq_zero_right h)
 have hgm : Nm M (Nat.gcd X Y) (N (Nat.gcd X Y)) := nm_le hy (Nat.gcd_le_right _ (by omega))
 have hd1 := pcr_divN hG hx hgm (by omega) (by omega) hgz
 have hd2 := pcr_divN hG hy hgm (by omega) (by omega) hgz
 have hz2 := pcr_rzero hG (nm_le hx (Nat.div_le_self X (Nat.gcd X Y))) (by omega)
 rw [QD_mk hY]
 generalize X / Nat.gcd X Y = p at *
 generalize Y / Nat.gcd X Y = q at *
 cases b
 ·refine pcr_byq ok40 hG (n := 46) (rv := [.cell 4 true 3, .tmp 5]) fun r hr => ?_; unfold c40 st0
  refine xctl ?_
  refine xrg ?_
  refine xctl ?_
  refine xrg ?_; (refine xcf1 ?_; refine xcf (hz) rfl ?_)
  refine xrg ?_
  refine xctl ?_
  refine xcF ?_
  refine xctl ?_
  refine xrg ?_; (refine xca1 ?_; refine xca (hg) ?_)
  refine xrg ?_
  refine xctl ?_
  refine xrg ?_; (refine xca1 ?_; refine xca (hd1) ?_)
  refine xrg ?_
  refine xctl ?_
  refine xrg ?_; (refine xca1 ?_; refine xca (hd2) ?_)
  refine xrg ?_
  refine xctl ?_
  refine xrg ?_
  refine xctl ?_
  refine xdr ?_
  refine xctl ?_
  refine xrt ?_
  rw [hr]; rfl
 ·refine pcr_byq ok40 hG (n := 46) (rv := [.cell 4 true 3, .tmp 5]) fun r hr => ?_; unfold c40 st0
  refine xctl ?_
  refine xrg ?_
  refine xctl ?_
  refine xrg ?_; (refine xcf1 ?_; refine xcf (hz) rfl ?_)
  refine xrg ?_
  refine xctl ?_
  refine xcF ?_
  refine xctl ?_
  refine xrg ?_; (refine xca1 ?_; refine xca (hg) ?_)
  refine xrg ?_
  refine xctl ?_
  refine xrg ?_; (refine xca1 ?_; refine xca (hd1) ?_)
  refine xrg ?_
  refine xctl ?_
  refine xrg ?_; (refine xca1 ?_; refine xca (hd2) ?_)
  refine xrg ?_
  refine xctl ?_
  refine xrg ?_; (refine xcgf1 ?_; refine xcf (hz2) rfl ?_)
  refine xrg ?_
  refine xctl ?_
  refine xdr ?_
  refine xctl ?_
  refine xrt ?_
  rw [hr]
  simp only [Bool.true_and, decide_not]
  rfl
theorem pcr_of0 (hG : Stable G) {b : Bool} (hx : Nm L X (.agg [d])) (hy : Nm M 0 (.agg [e])) (h1 : L < 150000) (h2 : M < 150000) :
  PCr Tryz.prog G 40 [.agg [.bool b, d], .agg [e]] (.tup [QD 0, .bool false]) := by
 obtain ⟨n, cs, he⟩ := hx.un
 cases he
 obtain ⟨m, ds, he⟩ := hy.un
 cases he
 have hz := pcr_rzero hG hy (by omega)
 have hn := pcr_none hG
 refine pcr_byq ok40 hG (n := 46) (rv := [.cell 4 true 3, .tmp 5]) fun r hr => ?_; unfold c40 st0
 refine xctl ?_
 refine xrg ?_
 refine xctl ?_
 refine xrg ?_; (refine xcf1 ?_; refine xcf (hz) rfl ?_)
 refine xrg ?_
 refine xctl ?_
 refine xct ?_
 refine xctl ?_
 refine xrg ?_; (refine xca1 ?_; refine xca (hn) ?_)
 refine xrg ?_
 refine xctl ?_
 refine xrt ?_
 exact hr.symm
theorem pcr_plain (hG : Stable G) (hx : Qm L r d) (h : L < 150000) : PCr Tryz.prog G 17 [d] (QD r) := by
 obtain ⟨b, X, Y, n, m, cs, ds, hx1, hy1, rfl, rfl⟩ := hx.row
 by_cases hY : Y = 0
 ·subst hY
  have ho := pcr_of0 hG (b := b) hx1 hy1 h h
  rw [Rat.mkRat_zero]
  refine pcr_byq ok17 hG (n := 14) (rv := [.cell 2 true 3]) fun r hr => ?_; unfold c17 st0
  refine xctl ?_
  refine xrg ?_
  refine xctl ?_
  refine xrg ?_; (refine xca1 ?_; refine xca (ho) ?_)
  refine xrg ?_
  refine xctl ?_
  refine xrg ?_
  refine xctl ?_
  refine xrt ?_
  exact hr.symm
 ·have ho := pcr_of hG (b := b) hx1 hy1 hY h h
  refine pcr_byq ok17 hG (n := 14) (rv := [.cell 2 true 3]) fun r hr => ?_; unfold c17 st0
  refine xctl ?_
  refine xrg ?_
  refine xctl ?_
  refine xrg ?_; (refine xca1 ?_; refine xca (ho) ?_)
  refine xrg ?_
  refine xctl ?_
  refine xrg ?_
  refine xctl ?_
  refine xrt ?_
  exact hr.symm
theorem zm_num (hx : Qm L r d) : Zm L r.num (.agg [.bool (ng r.num), nl r.num.natAbs]) := zm_ZD hx.lt.1
theorem nm_den (hx : Qm L r d) : Nm L r.den (.agg [nl r.den]) := nm_N hx.lt.2
theorem pcr_sign (hG : Stable G) (hx : Qm L r d) (h : L < 150000) : PCr Tryz.prog G 63 [d] (.int .i64 r.num.sign) := by
 have hp := pcr_plain hG hx h
 have hs := NumT.pcr_sign hG (zm_num hx) (by omega)
 obtain ⟨b, X, Y, n, m, cs, ds, hx, hy, rfl, rfl⟩ := hx.row
 refine pcr_byq ok63 hG (n := 7) (rv := [.tmp 2]) fun r hr => ?_; unfold c63 st0
 refine xctl ?_
 refine xrg ?_
 refine xctl ?_
 refine xrg ?_; (refine xca1 ?_; refine xca (hp) ?_)
 refine xrg ?_; (refine xcf1 ?_; refine xcf (hs) rfl ?_)
 refine xrg ?_
 refine xctl ?_
 refine xrt ?_
 exact hr.symm
theorem pcr_mul (hG : Stable G) (hx : Qm L x d) (hy : Qm M y e) (h1 : L < 30000) (h2 : M < 30000) : PCr Tryz.prog G 69 [d, e] (QD (x * y)) := by
 have hp1 := pcr_plain hG hx (by omega)
 have hp2 := pcr_plain hG hy (by omega)
 have hz1 := zm_mul (zm_num hx) (zm_num hy)
 have ha := NumT.pcr_mul hG (zm_num hx) (zm_num hy) (by omega) (by omega)
 have hm := pcr_mulN hG (nm_den hx) (nm_den hy) (by omega) (by omega)
 have hq : Qm (L + M + 1) (x * y) (.agg [.bool (ng (x.num * y.num)), nl (x.num * y.num).natAbs, nl (x.den * y.den)]) := by
  refine ⟨_, _, _, _, _, by omega, (nm_N (X := (x.num * y.num).natAbs) hz1.lt).up (by omega), (nm_mul (nm_den hx) (nm_den hy)).up (by omega), ?_, rfl⟩
  rw [sg_self, Rat.mul_def']
 have hpl := pcr_plain hG hq (by omega)
 obtain ⟨b1, X1, Y1, n1, m1, cs1, ds1, _, _, _, rfl⟩ := hx.row
 obtain ⟨b2, X2, Y2, n2, m2, cs2, ds2, _, _, _, rfl⟩ := hy.row
 refine pcr_byq ok69 hG (n := 21) (rv := [.cell 4 true 3]) fun r hr => ?_; unfold c69 st0
 refine xctl ?_
 refine xrg ?_
 refine xctl ?_
 refine xrg ?_; (refine xca1 ?_; refine xca (hp1) ?_)
 refine xrg ?_; (refine xca1 ?_; refine xca (hp2) ?_)
 refine xrg ?_
 refine xctl ?_
 refine xdr ?_
 refine xctl ?_
 refine xrg ?_; (refine xca1 ?_; refine xca (ha) ?_)
 refine xrg ?_; (refine xca1 ?_; refine xca (hm) ?_)
 refine xrg ?_; (refine xca1 ?_; refine xca (hpl) ?_)
 refine xrg ?_
 refine xctl ?_
 refine xdr ?_
 refine xctl ?_
 refine xrt ?_
 exact hr.symm
theorem pcr_int (hG : Stable G) (n : Int) (h0 : -9223372036854775808 ≤ n) (h1 : n ≤ 9223372036854775807) : PCr Tryz.prog G 57 [.int .i64 n] (QD (n : Rat)) := by
 have h2 := NumT.pcr_of hG n h0 h1
 have h3 := pcr_one hG
 refine pcr_byq ok57 hG (n := 7) (rv := [.cell 2 true 3]) fun r hr => ?_; unfold c57 st0
 refine xctl ?_
 refine xrg ?_
 refine xctl ?_
 refine xrg ?_; (refine xca1 ?_; refine xca (h2) ?_)
 refine xrg ?_; (refine xca1 ?_; refine xca (h3) ?_)
 refine xrg ?_
 refine xctl ?_
 refine xrt ?_
 rw [hr]; rfl
theorem inv_mk (r : Rat) (h : r ≠ 0) : mkRat (sg (ng r.num) r.den) r.num.natAbs = r⁻¹ := by
 have h0 : r.num ≠ 0 := fun e => h (Rat.num_eq_zero.1 e)
 have h1 := Rat.mkRat_self r⁻¹
 rw [Rat.num_inv, Rat.den_inv, if_neg h0] at h1
 rw [← h1]
 congr 1
 rcases Int.lt_or_gt_of_ne h0 with h2 | h2
 ·rw [show ng r.num = true from decide_eq_true h2, Int.sign_eq_neg_one_of_neg h2]; simp [sg]
 ·rw [show ng r.num = false from decide_eq_false (by omega), Int.sign_eq_one_of_pos h2]; simp [sg]
theorem pcr_inv (hG : Stable G) (hx : Qm L r d) (h : L < 150000) (h0 : r ≠ 0) : PCr Tryz.prog G 95 [d] (.tup [QD r⁻¹, .bool true]) := by
 have hp := pcr_plain hG hx h
 have hnz : r.num.natAbs ≠ 0 := fun e => h0 (Rat.num_eq_zero.1 (Int.natAbs_eq_zero.1 e))
 have ho := pcr_of hG (b := ng r.num) (nm_den hx) (nm_N hx.lt.1) hnz (by omega) (by omega)
 rw [inv_mk r h0] at ho
 obtain ⟨b1, X1, Y1, n1, m1, cs1, ds1, _, _, _, rfl⟩ := hx.row
 refine pcr_byq ok95 hG (n := 18) (rv := [.cell 2 true 3, .tmp 3]) fun r hr => ?_; unfold c95 st0
 refine xctl ?_
 refine xrg ?_
 refine xctl ?_
 refine xrg ?_; (refine xca1 ?_; refine xca (hp) ?_)
 refine xrg ?_
 refine xctl ?_
 refine xrg ?_; (refine xca1 ?_; refine xca (ho) ?_)
 refine xrg ?_
 refine xctl ?_
 refine xrt ?_
 exact hr.symm
end Go.Proofs.YtoiepmpggabglaaGreatDoorK.RatT
/-
 Package rat: Pow, Floor, Text, Good, Parse: what they compute.
-/
namespace Go.Proofs.YtoiepmpggabglaaGreatDoorK.RatT
open AI NatIr Dig NatT NumT LibT
attribute [local irreducible] awp awpOps
attribute [local go_sem] nl ZD
attribute [local go_sem] QD
variable {G : World → Prop} {L M X Y : Nat} {x y r : Rat} {d e : D}
theorem neg_pow {z : Int} (hz : z < 0) : ∀ K : Nat, (K % 2 = 0 → 0 < z ^ K) ∧ (K % 2 = 1 → z ^ K < 0)
 | 0 => ⟨fun _ => by simp, fun h => by simp at h⟩
 | K + 1 => by
  obtain ⟨h1, h2⟩ := neg_pow hz K
  rw [Int.pow_succ]
  exact ⟨fun h => Int.mul_pos_of_neg_of_neg (h2 (by omega)) hz, fun h => Int.mul_neg_of_pos_of_neg (h1 (by omega)) hz⟩
theorem ng_pow (z : Int) (K : Nat) : ng (z ^ K) = (ng z && decide (K % 2 = 1)) := by
 unfold ng
 by_cases hz : z < 0
 ·obtain ⟨h1, h2⟩ := neg_pow hz K
  rw [decide_eq_true hz, Bool.true_and]
  refine decide_eq_decide.2 ⟨fun h => ?_, h2⟩
  rcases Nat.mod_two_eq_zero_or_one K with h3 | h3
  ·have := h1 h3; omega
  ·exact h3
 ·have : 0 ≤ z ^ K := Int.pow_nonneg (by omega)
  rw [decide_eq_false hz, Bool.false_and]
  exact decide_eq_false (by omega)
theorem QD_pow (r : Rat) (K : Nat) : QD (r ^ K) = .agg [.bool (ng r.num && decide (K % 2 = 1)), nl (r.num.natAbs ^ K), nl (r.den ^ K)] := by
 rw [QD, Rat.num_pow, Rat.den_pow, ng_pow, Int.natAbs_pow]
theorem qm_pow (hx : Qm L r d) (K : Nat) : Qm (L * K + 1) (r ^ K) (QD (r ^ K)) := by
 refine qm_QD (by omega) ?_ ?_
 ·rw [Rat.num_pow, Int.natAbs_pow]; exact (nm_pow (zm_num hx |>.row.choose_spec.choose_spec.choose_spec.1) K).lt
 ·rw [Rat.den_pow]; exact (nm_pow (nm_den hx) K).lt
theorem pcr_pow (hG : Stable G) (hx : Qm L r d) (K : Nat) (h : L < 200) (hk : K < 1000) : PCr Tryz.prog G 61 [d, .int .i64 K] (.tup [QD (r ^ K), .bool true]) := by
 have hp := pcr_plain hG hx (by omega)
 have h1 := pcr_powN hG (nm_N hx.lt.1) K (by omega) (by omega)
 have h2 := pcr_powN hG (nm_den hx) K (by omega) (by omega)
 rw [Int.toNat_natCast] at h1 h2
 rw [QD_pow]
 have hodd : decide ((K : Int) % 2 = 1) = decide (K % 2 = 1) := decide_eq_decide.2 (by omega)
 obtain ⟨b1, X1, Y1, n1, m1, cs1, ds1, _, _, _, rfl⟩ := hx.row
 cases hb : ng r.num
 ·rw [QD, hb] at hp
  refine pcr_byq ok61 hG (n := 52) (rv := [.cell 4 true 3, .tmp 5]) fun r hr => ?_; unfold c61 st0
  refine xctl ?_
  refine xrg ?_
  refine xctl ?_
  refine xrg ?_; (refine xca1 ?_; refine xca (hp) ?_)
  refine xrg ?_
  refine xctl ?_
  refine xrg ?_
  refine xctl ?_
  refine xcF ?_
  refine xctl ?_
  refine xrg ?_; (refine xca1 ?_; refine xca (h1) ?_)
  refine xrg ?_; (refine xca1 ?_; refine xca (h2) ?_)
  refine xrg ?_
  refine xctl ?_
  refine xdr ?_
  refine xctl ?_
  refine xrt ?_
  rw [hr]; rfl
 ·rw [QD, hb] at hp
  refine pcr_byq ok61 hG (n := 52) (rv := [.cell 4 true 3, .tmp 5]) fun r hr => ?_; unfold c61 st0
  refine xctl ?_
  refine xrg ?_
  refine xctl ?_
  refine xrg ?_; (refine xca1 ?_; refine xca (hp) ?_)
  refine xrg ?_
  refine xctl ?_
  refine xrg ?_
  refine xctl ?_
  refine xcF ?_
  refine xctl ?_
  refine xrg ?_; (refine xca1 ?_; refine xca (h1) ?_)
  refine xrg ?_; (refine xca1 ?_; refine xca (h2) ?_)
  refine xrg ?_
  refine xctl ?_
  refine xdr ?_
  refine xctl ?_
  refine xrt ?_
  rw [hr]
  simp only [Bool.true_and, hodd]
  rfl
theorem pcr_powneg (hG : Stable G) (hx : Qm L r d) (K : Nat) (h : L < 200) (hk : K < 100) (h0 : r ≠ 0) (k : Int) (hkk : k = -((K : Int) + 1)) : PCr Tryz.prog G 61 [d, .int .i64 k] (.tup [QD (r⁻¹ ^ (K + 1)), .bool true]) := by
 have hp := pcr_plain hG hx (by omega)
 have h1 := pcr_inv hG hx.self (by omega) h0
 have h2 := pcr_pow hG (qm_inv hx) K h (by omega)
 have hb : L * K ≤ 200 * 100 := Nat.mul_le_mul (by omega) (by omega)
 have h3 := pcr_mul hG (qm_inv hx) (qm_pow (qm_inv hx) K) (by omega) (by omega)
 rw [show r⁻¹ * r⁻¹ ^ K = r⁻¹ ^ (K + 1) by rw [Rat.pow_succ, Rat.mul_comm]] at h3
 have e1 : (0 : Int) - (k + 1) = K := by omega
 obtain ⟨b1, X1, Y1, n1, m1, cs1, ds1, _, _, _, rfl⟩ := hx.row
 refine pcr_byq ok61 hG (n := 52) (rv := [.cell 4 true 3, .tmp 5]) fun r hr => ?_; unfold c61 st0
 refine xctl ?_
 refine xrg ?_
 refine xctl ?_
 refine xrg ?_; (refine xca1 ?_; refine xca (hp) ?_)
 refine xrg ?_
 refine xctl ?_
 refine xrg ?_
 refine xctl ?_
 refine xct ?_
 refine xctl ?_
 refine xrg ?_; (refine xca1 ?_; refine xca (h1) ?_)
 refine xrg ?_
 refine xctl ?_
 refine xrg ?_
 refine xctl ?_
 refine xcF ?_
 refine xctl ?_
 refine ops_sym (by simp (disch := omega) only [go_sem, Nat.reduceEqDiff, Nat.reduceAdd, Nat.reduceLT, Nat.reduceMul, Nat.reduceLeDiff, reduceCtorEq, Int.reduceNeg, Int.reduceToNat, e1]; rfl) (by first | with_reducible exact True.intro | omega) ?_
 refine xca1 ?_; refine xca h2 ?_
 refine xrg ?_
 refine xctl ?_
 refine xrg ?_; (refine xca1 ?_; refine xca (h3) ?_)
 refine xrg ?_
 refine xctl ?_
 refine xrt ?_
 exact hr.symm
def qT (r : Rat) : List UInt8 := if r.den = 1 then zT r.num else zT r.num ++ 47 :: Lib.decDigits r.den
theorem ba_app (l m : List UInt8) : (⟨l.toArray⟩ : ByteArray) ++ ⟨m.toArray⟩ = ⟨(l ++ m).toArray⟩ := ba_ext (by simp [ByteArray.data_append])
theorem pcr_text (hG : Stable G) (hT : ∀ w, G w → Lib.TabIs Tryz.prog w "internal/strconv.uint64pow10" .u64 Lib.pow10Tab) (hx : Qm L x d) (h : L < 100000) : PCr Tryz.prog G 10 [d] (.str ⟨(qT x).toArray⟩) := by
 have hp := pcr_plain hG hx (by omega)
 have h1 := pcr_one hG
 have hc := pcr_cmpN hG (nm_den hx) nm1 (by omega) (by omega)
 have ht := NumT.pcr_text hG hT (zm_num hx) (by omega)
 have hl := zT_len (zm_num hx)
 have ht2 := pcr_textN hG hT (nm_den hx) (by omega)
 have hl2 := nm_dlen (nm_den hx)
 have hce : decide (cmpN x.den 1 = 0) = decide (x.den = 1) := by
  unfold cmpN
  have := x.den_nz
  refine decide_eq_decide.2 ?_
  split
  ·omega
  ·split <;> simp_all
 have s1 : (zT x.num).toArray.size = (zT x.num).length := by simp
 have s2 : (Lib.decDigits x.den).toArray.size = (Lib.decDigits x.den).length := by simp
 have s3 : (#[47] : Array UInt8).size = 1 := rfl
 have s4 : ((⟨(zT x.num).toArray⟩ : ByteArray) ++ ⟨#[47]⟩).size = (zT x.num).length + 1 := by rw [ByteArray.size_append, ba_size]; rfl
 obtain ⟨b1, X1, Y1, n1, m1, cs1, ds1, _, _, _, rfl⟩ := hx.row
 unfold qT
 refine pcr_byq ok10 hG (n := 21) (rv := [.tmp 2]) fun r hr => ?_; unfold c10 st0
 refine xctl ?_
 refine xrg ?_
 refine xctl ?_
 refine xrg ?_; (refine xca1 ?_; refine xca (hp) ?_)
 refine xrg ?_
 refine xctl ?_
 refine xrg ?_; (refine xca1 ?_; refine xca (h1) ?_)
 refine xrg ?_; (refine xcf1 ?_; refine xcf (hc) rfl ?_)
 refine ops_sym (by simp (disch := omega) only [go_sem, Nat.reduceEqDiff, Nat.reduceAdd, Nat.reduceLT, Nat.reduceMul, Nat.reduceLeDiff, reduceCtorEq, Int.reduceNeg, Int.reduceToNat, hce]; rfl) (by first | with_reducible exact True.intro | omega) ?_
 refine xctl ?_
 refine xdr ?_
 refine xctl ?_
 by_cases hd : x.den = 1
 ·rw [if_pos hd] at hr
  refine xct ?_ (by simp only [go_sem, Nat.reduceEqDiff, Nat.reduceAdd, Nat.reduceLT, Nat.reduceMul, Nat.reduceLeDiff, reduceCtorEq, Int.reduceNeg, Int.reduceToNat]; exact congrArg D.bool (decide_eq_true hd))
  refine xctl ?_
  refine xrg ?_; (refine xca1 ?_; refine xca (ht) ?_)
  refine xrg ?_
  refine xctl ?_
  refine xrt ?_
  exact hr.symm
 ·rw [if_neg hd] at hr
  refine xcF ?_ (by simp only [go_sem, Nat.reduceEqDiff, Nat.reduceAdd, Nat.reduceLT, Nat.reduceMul, Nat.reduceLeDiff, reduceCtorEq, Int.reduceNeg, Int.reduceToNat]; exact congrArg D.bool (decide_eq_false hd))
  refine xctl ?_
  refine xrg ?_; (refine xca1 ?_; refine xca (ht) ?_)
  refine xrg ?_; (refine xca1 ?_; refine xca (ht2) ?_)
  refine xrg ?_
  refine xctl ?_
  refine xdr ?_
  refine xctl ?_
  refine xrt ?_
  rw [hr]
  refine congrArg D.str ?_
  rw [show (⟨#[47]⟩ : ByteArray) = ⟨[47].toArray⟩ from rfl, ba_app, ba_app, List.append_assoc]; rfl
end Go.Proofs.YtoiepmpggabglaaGreatDoorK.RatT
/-
 Package rat: Good, Parse: what they compute.
-/
namespace Go.Proofs.YtoiepmpggabglaaGreatDoorK.RatT
open AI NatIr Dig NatT NumT LibT
attribute [local irreducible] awp awpOps
attribute [local go_sem] nl ZD
attribute [local go_sem] QD
variable {G : World → Prop} {L M X Y : Nat} {x y q : Rat} {d e : D}
theorem mk_one (z : Int) : mkRat z 1 = (z : Rat) := by
 apply Rat.ext
 ·rw [Rat.num_mkRat]; simp
 ·rw [Rat.den_mkRat]; simp
def pQ (l : List UInt8) : Option Rat := match pZ (cut1 47 l).1 with
 | none => none
 | some z => if (cut1 47 l).2.2 = true then (if (cut1 47 l).2.1 ≠ [] ∧ (cut1 47 l).2.1.all isD = true ∧ decV (cut1 47 l).2.1 ≠ 0 then some (mkRat z (decV (cut1 47 l).2.1)) else none) else some z
def qR : Option Rat → D
 | some r => .tup [QD r, .bool true]
 | none => .tup [QD 0, .bool false]
theorem pZ_lt {l : List UInt8} {z : Int} (h : pZ l = some z) : z.natAbs < 4294967296 ^ l.length := by
 unfold pZ at h
 split at h
 ·rename_i hc
  cases h
  rw [sg_abs]
  have h1 := decV_lt _ (List.all_eq_true.1 hc.2)
  have h2 := trim_le l [45]
  exact Nat.lt_of_lt_of_le h1 (Nat.le_trans (Nat.pow_le_pow_left (by decide) _) (Nat.pow_le_pow_right (by omega) h2))
 ·cases h
theorem dV_lt {l : List UInt8} (h : l.all isD = true) : decV l < 4294967296 ^ l.length := Nat.lt_of_lt_of_le (decV_lt _ (List.all_eq_true.1 h)) (Nat.pow_le_pow_left (by decide) _)
theorem pcr_parse (hG : Stable G) (hM : ∀ w, G w → gMax w) (s : ByteArray) (hs : s.size < 100000) : PCr Tryz.prog G 97 [.str s] (qR (pQ s.data.toList)) := by
 have hcu := lib_cut hM s ⟨#[47]⟩ (by omega)
 rw [show (⟨#[47]⟩ : ByteArray).data.toList = [47] from rfl, cut_cut1] at hcu
 have hcl := cut1_len 47 s.data.toList
 have hbl := ba_len s
 have hone := pcr_one hG
 have hnone := pcr_none hG
 unfold pQ
 generalize (cut1 47 s.data.toList).1 = u at *
 generalize (cut1 47 s.data.toList).2.1 = v at *
 generalize (cut1 47 s.data.toList).2.2 = two at *
 have hus := ba_size u
 have hvs := ba_size v
 have hpu := NumT.pcr_parse hG ⟨u.toArray⟩ (by omega)
 rw [show (⟨u.toArray⟩ : ByteArray).data.toList = u from rfl] at hpu
 cases hz : pZ u with
 | none =>
  rw [hz, zR, ZD_zero] at hpu
  cases two
  ·refine pcr_byq ok97 hG (n := 39) (rv := [.cell 2 true 3, .tmp 3]) fun r hr => ?_; unfold c97 st0
   refine xctl ?_
   refine xrg ?_
   refine xctl ?_
   refine xrg ?_; (refine xca1 ?_; refine xca (hcu) ?_)
   refine xrg ?_
   refine xctl ?_
   refine xrg ?_; (refine xca1 ?_; refine xca (hpu) ?_)
   refine xrg ?_
   refine xctl ?_
   refine xrg ?_; (refine xca1 ?_; refine xca (hone) ?_)
   refine xrg ?_
   refine xctl ?_
   refine xrg ?_
   refine xctl ?_
   refine xcF ?_
   refine xctl ?_
   refine xrg ?_
   refine xctl ?_
   refine xct ?_
   refine xctl ?_
   refine xrg ?_; (refine xca1 ?_; refine xca (hnone) ?_)
   refine xrg ?_
   refine xctl ?_
   refine xrt ?_
   exact hr.symm
  ·refine pcr_byq ok97 hG (n := 39) (rv := [.cell 2 true 3, .tmp 3]) fun r hr => ?_; unfold c97 st0
   refine xctl ?_
   refine xrg ?_
   refine xctl ?_
   refine xrg ?_; (refine xca1 ?_; refine xca (hcu) ?_)
   refine xrg ?_
   refine xctl ?_
   refine xrg ?_; (refine xca1 ?_; refine xca (hpu) ?_)
   refine xrg ?_
   refine xctl ?_
   refine xrg ?_; (refine xca1 ?_; refine xca (hone) ?_)
   refine xrg ?_
   refine xctl ?_
   refine xrg ?_
   refine xctl ?_
   refine xcF ?_
   refine xctl ?_
   refine xrg ?_
   refine xctl ?_
   refine xct ?_
   refine xctl ?_
   refine xrg ?_; (refine xca1 ?_; refine xca (hnone) ?_)
   refine xrg ?_
   refine xctl ?_
   refine xrt ?_
   exact hr.symm
 | some z =>
  rw [hz, zR] at hpu
  have hzl := pZ_lt hz
  have hzm : Nm u.length z.natAbs (.agg [nl z.natAbs]) := nm_N hzl
  cases two
  ·have hof := pcr_of hG (b := ng z) hzm nm1 (by omega) (by omega) (by omega)
   rw [sg_self, mk_one] at hof
   simp only [Bool.false_eq_true, if_false, qR]
   refine pcr_byq ok97 hG (n := 39) (rv := [.cell 2 true 3, .tmp 3]) fun r hr => ?_; unfold c97 st0
   refine xctl ?_
   refine xrg ?_
   refine xctl ?_
   refine xrg ?_; (refine xca1 ?_; refine xca (hcu) ?_)
   refine xrg ?_
   refine xctl ?_
   refine xrg ?_; (refine xca1 ?_; refine xca (hpu) ?_)
   refine xrg ?_
   refine xctl ?_
   refine xrg ?_; (refine xca1 ?_; refine xca (hone) ?_)
   refine xrg ?_
   refine xctl ?_
   refine xrg ?_
   refine xctl ?_
   refine xcF ?_
   refine xctl ?_
   refine xrg ?_
   refine xctl ?_
   refine xcF ?_
   refine xctl ?_
   refine xrg ?_; (refine xca1 ?_; refine xca (hof) ?_)
   refine xrg ?_
   refine xctl ?_
   refine xrt ?_
   exact hr.symm
  ·simp only [if_true]
   by_cases hv : v ≠ [] ∧ v.all isD = true
   ·have hpv := NatT.pcr_parse hG ⟨v.toArray⟩ (by omega) (by rw [hvs]; exact fun h => hv.1 (List.eq_nil_of_length_eq_zero h)) hv.2
    rw [show (⟨v.toArray⟩ : ByteArray).data.toList = v from rfl] at hpv
    have hvm : Nm v.length (decV v) (.agg [nl (decV v)]) := nm_N (dV_lt hv.2)
    by_cases h0 : decV v = 0
    ·rw [if_neg (fun h => h.2.2 h0), qR]
     rw [h0] at hvm hpv
     have hof := pcr_of0 hG (b := ng z) hzm hvm (by omega) (by omega)
     refine pcr_byq ok97 hG (n := 39) (rv := [.cell 2 true 3, .tmp 3]) fun r hr => ?_; unfold c97 st0
     refine xctl ?_
     refine xrg ?_
     refine xctl ?_
     refine xrg ?_; (refine xca1 ?_; refine xca (hcu) ?_)
     refine xrg ?_
     refine xctl ?_
     refine xrg ?_; (refine xca1 ?_; refine xca (hpu) ?_)
     refine xrg ?_
     refine xctl ?_
     refine xrg ?_; (refine xca1 ?_; refine xca (hone) ?_)
     refine xrg ?_
     refine xctl ?_
     refine xrg ?_
     refine xctl ?_
     refine xct ?_
     refine xctl ?_
     refine xrg ?_; (refine xca1 ?_; refine xca (hpv) ?_)
     refine xrg ?_
     refine xctl ?_
     refine xrg ?_
     refine xctl ?_
     refine xcF ?_
     refine xctl ?_
     refine xrg ?_; (refine xca1 ?_; refine xca (hof) ?_)
     refine xrg ?_
     refine xctl ?_
     refine xrt ?_
     exact hr.symm
    ·rw [if_pos ⟨hv.1, hv.2, h0⟩, qR]
     have hof := pcr_of hG (b := ng z) hzm hvm h0 (by omega) (by omega)
     rw [sg_self] at hof
     generalize decV v = V at *
     refine pcr_byq ok97 hG (n := 39) (rv := [.cell 2 true 3, .tmp 3]) fun r hr => ?_; unfold c97 st0
     refine xctl ?_
     refine xrg ?_
     refine xctl ?_
     refine xrg ?_; (refine xca1 ?_; refine xca (hcu) ?_)
     refine xrg ?_
     refine xctl ?_
     refine xrg ?_; (refine xca1 ?_; refine xca (hpu) ?_)
     refine xrg ?_
     refine xctl ?_
     refine xrg ?_; (refine xca1 ?_; refine xca (hone) ?_)
     refine xrg ?_
     refine xctl ?_
     refine xrg ?_
     refine xctl ?_
     refine xct ?_
     refine xctl ?_
     refine xrg ?_; (refine xca1 ?_; refine xca (hpv) ?_)
     refine xrg ?_
     refine xctl ?_
     refine xrg ?_
     refine xctl ?_
     refine xcF ?_
     refine xctl ?_
     refine xrg ?_; (refine xca1 ?_; refine xca (hof) ?_)
     refine xrg ?_
     refine xctl ?_
     refine xrt ?_
     exact hr.symm
   ·have hpv := NatT.pcr_parse_not hG ⟨v.toArray⟩ (by omega) (by
     by_cases h0 : v = []
     ·subst h0; exact .inl rfl
     ·right
      have : ¬ v.all isD = true := fun h => hv ⟨h0, h⟩
      exact Bool.eq_false_iff.2 this)
    rw [if_neg (fun h => hv ⟨h.1, h.2.1⟩), qR]
    refine pcr_byq ok97 hG (n := 39) (rv := [.cell 2 true 3, .tmp 3]) fun r hr => ?_; unfold c97 st0
    refine xctl ?_
    refine xrg ?_
    refine xctl ?_
    refine xrg ?_; (refine xca1 ?_; refine xca (hcu) ?_)
    refine xrg ?_
    refine xctl ?_
    refine xrg ?_; (refine xca1 ?_; refine xca (hpu) ?_)
    refine xrg ?_
    refine xctl ?_
    refine xrg ?_; (refine xca1 ?_; refine xca (hone) ?_)
    refine xrg ?_
    refine xctl ?_
    refine xrg ?_
    refine xctl ?_
    refine xct ?_
    refine xctl ?_
    refine xrg ?_; (refine xca1 ?_; refine xca (hpv) ?_)
    refine xrg ?_
    refine xctl ?_
    refine xrg ?_
    refine xctl ?_
    refine xct ?_
    refine xctl ?_
    refine xrg ?_; (refine xca1 ?_; refine xca (hnone) ?_)
    refine xrg ?_
    refine xctl ?_
    refine xrt ?_
    exact hr.symm
end Go.Proofs.YtoiepmpggabglaaGreatDoorK.RatT
/-
 Signs of fractions; fractions that are handed in.
-/
namespace Go.Proofs.YtoiepmpggabglaaGreatDoorK.RatT
open AI NatIr Dig NatT NumT
variable {L : Nat} {x y z : Rat}
theorem sub_self (x : Rat) : x - x = 0 := Rat.sub_self
theorem sub_zero (x : Rat) : x - 0 = x := by rw [Rat.sub_eq_add_neg, Rat.neg_zero, Rat.add_zero]
end Go.Proofs.YtoiepmpggabglaaGreatDoorK.RatT
