/-
  A number's text is read as it; facts of signs.
-/
import Derived.Test.YtnildflhdkdbiaaGreatDoorKNumB
set_option linter.all false
set_option linter.unusedVariables false
set_option linter.unusedSimpArgs false
set_option maxHeartbeats 4000000
namespace Go.Proofs.YtnildflhdkdbiaaGreatDoorK.NumT
open Go.Proofs.YtnildflhdkdbiaaGreatDoorK.AI Go.Proofs.YtnildflhdkdbiaaGreatDoorK.NatIr Go.Proofs.YtnildflhdkdbiaaGreatDoorK.Dig Go.Proofs.YtnildflhdkdbiaaGreatDoorK.NatT Go.Proofs.YtnildflhdkdbiaaGreatDoorK.LibT
variable {G : World → Prop} {L M X Y : Nat} {x y z : Int} {d e : D}
theorem dec_ne (X : Nat) : Lib.decDigits X ≠ [] := fun h => by have := dec_pos X; rw [h] at this; exact absurd this (Nat.lt_irrefl 0)
theorem dec_all (X : Nat) : (Lib.decDigits X).all isD = true := List.all_eq_true.2 (dec_isD X)
theorem pZ_zT (z : Int) : pZ (zT z) = some z := by
  unfold zT
  split
  · rename_i h
    have h1 : Lib.hasPrefix (45 :: Lib.decDigits z.natAbs) [45] = true := by simp [Lib.hasPrefix]
    have h2 : Lib.trimPrefix (45 :: Lib.decDigits z.natAbs) [45] = Lib.decDigits z.natAbs := by simp [Lib.trimPrefix, h1]
    rw [pZ, h1, h2, if_pos ⟨dec_ne _, dec_all _⟩, dec_val, ← show ng z = true from decide_eq_true h, sg_self]
  · rename_i h
    have h1 : Lib.hasPrefix (Lib.decDigits z.natAbs) [45] = false := by
      cases hl : Lib.decDigits z.natAbs with
      | nil => exact absurd hl (dec_ne _)
      | cons c l =>
        have hc : isD c = true := dec_isD z.natAbs c (by rw [hl]; exact List.mem_cons_self)
        have hc2 : c ≠ 45 := by rintro rfl; exact absurd hc (by decide)
        simp [Lib.hasPrefix, List.isPrefixOf, Ne.symm hc2]
    have h2 : Lib.trimPrefix (Lib.decDigits z.natAbs) [45] = Lib.decDigits z.natAbs := by simp [Lib.trimPrefix, h1]
    rw [pZ, h1, h2, if_pos ⟨dec_ne _, dec_all _⟩, dec_val, ← show ng z = false from decide_eq_false h, sg_self]
theorem zT_len (hx : Zm L z d) : (zT z).length ≤ 10 * L + 2 := by
  obtain ⟨b, X, e, hx, rfl, rfl⟩ := hx
  have := nm_dlen hx
  unfold zT
  rw [sg_abs]
  split
  · rw [List.length_cons]; omega
  · omega
theorem pcr_parse_zT (hG : Stable G) (hx : Zm L z d) (h : L < 20000) : PCr Tryz.prog G 31 [.str ⟨(zT z).toArray⟩] (.tup [ZD z, .bool true]) := by
  have hl := zT_len hx
  have h1 := pcr_parse hG ⟨(zT z).toArray⟩ (by rw [ba_size]; omega)
  rwa [show (⟨(zT z).toArray⟩ : ByteArray).data.toList = zT z from rfl, pZ_zT] at h1
theorem sign_bnd (z : Int) : -1 ≤ z.sign ∧ z.sign ≤ 1 := by
  have := Int.sign_trichotomy z
  omega
theorem sign_sub (x y : Int) : (x - y).sign = 0 - (y - x).sign := by
  rw [show x - y = -(y - x) by omega, Int.sign_neg, Int.zero_sub]
theorem sign_self (x : Int) : (x - x).sign = 0 := by rw [Int.sub_self]; rfl
theorem sign_eq_zero {z : Int} (h : z.sign = 0) : z = 0 := Int.sign_eq_zero_iff_zero.1 h
/-- The law's guard: a number that is handed in. -/
theorem zm_arg {b : Bool} {a : List Int} {n : Nat} (hn : n = a.length) (ha : ok 4294967296 a) (hl : n ≤ L) : Zm L (sg b (vl 4294967296 a)) (.agg [.bool b, .sl n (W a)]) := zm_in b hn ha (by omega)
end Go.Proofs.YtnildflhdkdbiaaGreatDoorK.NumT
