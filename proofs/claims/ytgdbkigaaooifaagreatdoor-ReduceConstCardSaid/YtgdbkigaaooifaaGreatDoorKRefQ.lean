/-
 The document's fractions: what they compute.
-/
import Derived.Test.YtgdbkigaaooifaaGreatDoorKIrRefQ
import Derived.Test.YtgdbkigaaooifaaGreatDoorKRefZ
import Derived.Test.YtgdbkigaaooifaaGreatDoorKQa
set_option linter.all false
set_option maxHeartbeats 0
namespace Go.Proofs.YtgdbkigaaooifaaGreatDoorK.RefT
open AI NatIr Dig NatT NumT RatT
def MQ (r : Rat) : D := .agg [.bool (ng r.num), M r.num.natAbs, M r.den]
attribute [local irreducible] awp awpOps
attribute [local go_sem] V_getD V_set V_take V_drop V_imm V_one V_app V_app1 V_repl V_get1 V_length M List.length_append
attribute [local go_sem] nl ZD MZ
attribute [local go_sem] QD MQ
variable {G : World → Prop} {L L' X Y : Nat} {z : Int} {x y : Rat} {d e : D}
theorem pcr_qof (hG : Stable G) (hz : z.natAbs < 4294967296 ^ L) (hY : Y < 4294967296 ^ L') (h0 : Y ≠ 0) (h1 : L < 5000) (h2 : L' < 5000) : PCr Tryz.prog G 174 [MZ z, M Y] (MQ (mkRat z Y)) := by
 have hl1 := wd4_len hz
 have hl2 := wd4_len hY
 have hg0 : Nat.gcd z.natAbs Y ≠ 0 := fun h => h0 (Nat.eq_zero_of_gcd_eq_zero_right h)
 have hgl := wd4_mono (Nat.gcd_le_right z.natAbs (show 0 < Y by omega))
 have hg := pcr_rgcd hG z.natAbs Y (by omega) (by omega)
 have hd1 := pcr_rdiv hG z.natAbs (Nat.gcd z.natAbs Y) hg0 (by omega) (by omega)
 have hd2 := pcr_rdiv hG Y (Nat.gcd z.natAbs Y) hg0 (by omega) (by omega)
 have ho := pcr_zof hG (ng z) (z.natAbs / Nat.gcd z.natAbs Y)
 have en := mk_num (b := ng z) (X := z.natAbs) h0
 have ed := mk_den (b := ng z) (X := z.natAbs) h0
 rw [sg_self] at en ed
 refine pcr_byq ok174 hG (n := 33) (rv := [.cell 4 true 3]) fun r hr => ?_; unfold c174 st0
 refine xctl ?_
 refine xrg ?_
 refine xctl ?_
 refine xrg ?_; (refine xca1 ?_; refine xca (hg) ?_)
 refine xrg ?_
 refine xctl ?_
 refine xrg ?_; (refine xca1 ?_; refine xca (hd1) ?_)
 refine xrg ?_
 refine xctl ?_
 refine xrg ?_; (refine xca1 ?_; refine xca (hd2) ?_)
 refine xrg ?_
 refine xctl ?_
 refine xrg ?_; (refine xca1 ?_; refine xca (ho) ?_)
 refine xrg ?_
 refine xctl ?_
 refine xrt ?_
 rw [hr, MQ, en, ed]; rfl
theorem pcr_qint (hG : Stable G) (n : Int) (h0 : -9223372036854775808 ≤ n) (h1 : n ≤ 9223372036854775807) : PCr Tryz.prog G 130 [.int .i64 n] (MQ (n : Rat)) := by
 have hz := pcr_zint hG n h0 h1
 have hs := pcr_rsmall hG 1 (by omega)
 refine pcr_byq ok130 hG (n := 7) (rv := [.cell 2 true 3]) fun r hr => ?_; unfold c130 st0
 refine xctl ?_
 refine xrg ?_
 refine xctl ?_
 refine xrg ?_; (refine xca1 ?_; refine xca (hz) ?_)
 refine xrg ?_; (refine xca1 ?_; refine xca (hs) ?_)
 refine xrg ?_
 refine xctl ?_
 refine xrt ?_
 rw [hr, MQ, Rat.num_intCast, Rat.den_intCast]; rfl
theorem pcr_qmul (hG : Stable G) (hx : Qm L x d) (hy : Qm L' y e) (h1 : L < 1000) (h2 : L' < 1000) : PCr Tryz.prog G 142 [MQ x, MQ y] (MQ (x * y)) := by
 have a1 := hx.lt
 have a2 := hy.lt
 have b1 : (x.num * y.num).natAbs < 4294967296 ^ (L + L') := by rw [Int.natAbs_mul, Nat.pow_add]; exact mul_lt2 a1.1 a2.1
 have b3 : x.den * y.den < 4294967296 ^ (L + L') := by rw [Nat.pow_add]; exact mul_lt2 a1.2 a2.2
 have l1 := wd4_len a1.2
 have l2 := wd4_len a2.2
 have hm1 := pcr_zmul hG a1.1 a2.1 (by omega) (by omega)
 have hd := pcr_rmul hG x.den y.den (by omega) (by omega)
 have ho := pcr_qof hG b1 b3 (Nat.mul_ne_zero x.den_nz y.den_nz) (by omega) (by omega)
 refine pcr_byq ok142 hG (n := 16) (rv := [.cell 4 true 3]) fun r hr => ?_; unfold c142 st0
 refine xctl ?_
 refine xrg ?_
 refine xctl ?_
 refine xrg ?_; (refine xca1 ?_; refine xca (hm1) ?_)
 refine xrg ?_; (refine xca1 ?_; refine xca (hd) ?_)
 refine xrg ?_; (refine xca1 ?_; refine xca (ho) ?_)
 refine xrg ?_
 refine xctl ?_
 refine xdr ?_
 refine xctl ?_
 refine xrt ?_
 rw [hr, Rat.mul_def']; rfl
theorem pcr_qinv (hG : Stable G) (x : Rat) (h0 : x ≠ 0) : PCr Tryz.prog G 171 [MQ x] (MQ x⁻¹) := by
 have ho := pcr_zof hG (ng x.num) x.den
 have hn0 : x.num ≠ 0 := fun h => h0 (Rat.num_eq_zero.1 h)
 have en : x⁻¹.num = sg (ng x.num) x.den := by
  rw [Rat.num_inv]
  by_cases h : x.num < 0
  ·rw [show ng x.num = true from decide_eq_true h, Int.sign_eq_neg_one_of_neg h]; simp [sg]
  ·rw [show ng x.num = false from decide_eq_false h, Int.sign_eq_one_of_pos (by omega)]; simp [sg]
 have ed : x⁻¹.den = x.num.natAbs := by rw [Rat.den_inv, if_neg hn0]
 refine pcr_byq ok171 hG (n := 13) (rv := [.cell 2 true 3]) fun r hr => ?_; unfold c171 st0
 refine xctl ?_
 refine xrg ?_
 refine xctl ?_
 refine xrg ?_; (refine xca1 ?_; refine xca (ho) ?_)
 refine xrg ?_
 refine xctl ?_
 refine xdr ?_
 refine xctl ?_
 refine xrt ?_
 rw [hr, MQ, en, ed]; rfl
theorem pcr_qsign (hG : Stable G) (x : Rat) : PCr Tryz.prog G 136 [MQ x] (.int .i64 x.num.sign) := by
 have hs := pcr_zsign hG x.num
 refine pcr_byq ok136 hG (n := 6) (rv := [.tmp 2]) fun r hr => ?_; unfold c136 st0
 refine xctl ?_
 refine xrg ?_
 refine xctl ?_
 refine xrg ?_; (refine xcf1 ?_; refine xcf (hs) rfl ?_)
 refine xrg ?_
 refine xctl ?_
 refine xrt ?_
 exact hr.symm
theorem pcr_qpow (hG : Stable G) (hx : Qm L x d) (K : Nat) (h : L < 30) (hk : K < 10) : PCr Tryz.prog G 134 [MQ x, .int .i64 K] (.tup [MQ (x ^ K), .bool true]) := by
 have h1 := pcr_qint hG 1 (by omega) (by omega)
 have hx' := hx.self
 refine pcr_byq ok134 hG (n := 28) (rv := [.cell 4 true 3, .tmp 5]) fun r hr => ?_; unfold c134 st0
 refine xctl ?_
 refine xrg ?_
 refine xctl ?_
 refine xrg ?_
 refine xctl ?_
 refine xcF ?_
 refine xctl ?_
 refine xrg ?_; (refine xca1 ?_; refine xca (h1) ?_)
 refine xrg ?_
 refine xctl ?_
 refine xrg ?_
 refine xctl ?_
 refine awp_loop (fun k σ => ∃ (i : Nat) (q : Rat), i ≤ K ∧ k = K - i ∧ q = x ^ i ∧
   σ = ⟨(putE (putE (putE (putE (putE (putE un0 (some 1) (.int .i64 ((K : Nat) : Int))) (some 2) (.ptr 0 0 0)) (some 4) (.ptr 1 0 0)) (some 5) (.bool false)) (some 6) (.ptr 2 0 0)) (some 7) (.int .i64 (i : Int))),
    [some (0, 215, 3, [.bool (ng (x).num), M (x).num.natAbs, M (x).den]), some (0, 215, 3, [.bool false, .nils, .nils]), some (0, 215, 3, [.bool (ng q.num), M q.num.natAbs, M q.den])]⟩) (K)
   (Ent.env (less_put (less_put (less_put (less_put (less_put (less_put (less_un0 _) ?_) ?_) ?_) ?_) ?_) ?_)) ⟨0, ((1 : Int) : Rat), Nat.zero_le _, rfl, by rw [Rat.pow_zero]; rfl, rfl⟩ ?_
 iterate 5 (· exact xlq)
 ·show _ = D.int .i64 ((0 : Nat) : Int)
  exact xlq
 rintro k σ1 ⟨i, q, hi, rfl, hq, rfl⟩
 by_cases hlt : i < K
 ·have hqm : Qm (30 * i + 1) q (QD q) := by rw [hq]; exact (qm_pow (hx'.up (M := 30) (by omega)) i)
  have hm := pcr_qmul hG hqm hx' (by omega) (by omega)
  refine xctl ?_
  refine xrg ?_
  refine xctl ?_
  refine xct ?_
  refine xctl ?_
  refine xrg ?_; (refine xca1 ?_; refine xca (hm) ?_)
  refine xrg ?_
  refine xctl ?_
  refine xrg ?_
  refine xctl ?_
  refine ⟨K - (i + 1), _, by omega, Ent.env (less_put (less_put (less_put (less_put (less_put (less_put (less_un0 _) ?_) ?_) ?_) ?_) ?_) ?_), i + 1, q * x, by omega, rfl, by rw [hq, Rat.pow_succ], rfl⟩
  iterate 5 (· exact xlq)
  ·exact xlq
 ·obtain rfl : i = K := by omega
  refine xctl ?_
  refine xrg ?_
  refine xctl ?_
  refine xcF ?_
  refine xctl ?_
  refine xrg ?_
  refine xctl ?_
  refine xrt ?_
  rw [hr, ← hq]; rfl
theorem pcr_qpowneg (hG : Stable G) (hx : Qm L x d) (K : Nat) (h : L < 30) (hk : K < 10) (h0 : x ≠ 0) (k : Int) (hkk : k = -((K : Int) + 1)) : PCr Tryz.prog G 134 [MQ x, .int .i64 k] (.tup [MQ (x⁻¹ ^ (K + 1)), .bool true]) := by
 have h1 := pcr_qint hG 1 (by omega) (by omega)
 have hs := pcr_qsign hG x
 have hi := pcr_qinv hG x h0
 have hx' := (qm_inv hx).self
 have hsg : ¬ x.num.sign = 0 := fun h => h0 (Rat.num_eq_zero.1 (Int.sign_eq_zero_iff_zero.1 h))
 have hneg : -k = ((K + 1 : Nat) : Int) := by omega
 refine pcr_byq ok134 hG (n := 28) (rv := [.cell 4 true 3, .tmp 5]) fun r hr => ?_; unfold c134 st0
 refine xctl ?_
 refine xrg ?_
 refine xctl ?_
 refine xrg ?_
 refine xctl ?_
 refine xct ?_
 refine xctl ?_
 refine xrg ?_; (refine xcf1 ?_; refine xcf (hs) rfl ?_)
 refine xrg ?_
 refine xctl ?_
 refine xcF ?_
 refine xctl ?_
 refine xrg ?_; (refine xca1 ?_; refine xca (hi) ?_)
 refine ops_sym (by simp (disch := omega) only [go_sem, Nat.reduceEqDiff, Nat.reduceAdd, Nat.reduceLT, Nat.reduceMul, Nat.reduceLeDiff, reduceCtorEq, Int.reduceNeg, Int.reduceToNat, hneg]; rfl) (by first | with_reducible exact True.intro | omega) ?_
 refine xctl ?_
 refine xrg ?_; (refine xca1 ?_; refine xca (h1) ?_)
 refine xrg ?_
 refine xctl ?_
 refine xrg ?_
 refine xctl ?_
 refine awp_loop (fun k σ => ∃ (i : Nat) (q : Rat), i ≤ K + 1 ∧ k = K + 1 - i ∧ q = x⁻¹ ^ i ∧
   σ = ⟨(putE (putE (putE (putE (putE (putE un0 (some 1) (.int .i64 ((K + 1 : Nat) : Int))) (some 2) (.ptr 0 0 0)) (some 4) (.ptr 1 0 0)) (some 5) (.bool false)) (some 6) (.ptr 2 0 0)) (some 7) (.int .i64 (i : Int))),
    [some (0, 215, 3, [.bool (ng (x⁻¹).num), M (x⁻¹).num.natAbs, M (x⁻¹).den]), some (0, 215, 3, [.bool false, .nils, .nils]), some (0, 215, 3, [.bool (ng q.num), M q.num.natAbs, M q.den])]⟩) (K + 1)
   (Ent.env (less_put (less_put (less_put (less_put (less_put (less_put (less_un0 _) ?_) ?_) ?_) ?_) ?_) ?_)) ⟨0, ((1 : Int) : Rat), Nat.zero_le _, rfl, by rw [Rat.pow_zero]; rfl, rfl⟩ ?_
 ·simp only [go_sem, Nat.reduceEqDiff, Nat.reduceAdd, Nat.reduceLT, Nat.reduceMul, Nat.reduceLeDiff, reduceCtorEq, Int.reduceNeg, Int.reduceToNat]
  exact congrArg (D.int .i64) (by omega)
 iterate 4 (· exact xlq)
 ·show _ = D.int .i64 ((0 : Nat) : Int)
  exact xlq
 rintro k σ1 ⟨i, q, hi, rfl, hq, rfl⟩
 by_cases hlt : i < K + 1
 ·have hqm : Qm (30 * i + 1) q (QD q) := by rw [hq]; exact (qm_pow (hx'.up (M := 30) (by omega)) i)
  have hm := pcr_qmul hG hqm hx' (by omega) (by omega)
  refine xctl ?_
  refine xrg ?_
  refine xctl ?_
  refine xct ?_
  refine xctl ?_
  refine xrg ?_; (refine xca1 ?_; refine xca (hm) ?_)
  refine xrg ?_
  refine xctl ?_
  refine xrg ?_
  refine xctl ?_
  refine ⟨K + 1 - (i + 1), _, by omega, Ent.env (less_put (less_put (less_put (less_put (less_put (less_put (less_un0 _) ?_) ?_) ?_) ?_) ?_) ?_), i + 1, q * x⁻¹, by omega, rfl, by rw [hq, Rat.pow_succ], rfl⟩
  iterate 5 (· exact xlq)
  ·exact xlq
 ·obtain rfl : i = K + 1 := by omega
  refine xctl ?_
  refine xrg ?_
  refine xctl ?_
  refine xcF ?_
  refine xctl ?_
  refine xrg ?_
  refine xctl ?_
  refine xrt ?_
  rw [hr, ← hq]; rfl
end Go.Proofs.YtgdbkigaaooifaaGreatDoorK.RefT
