/-
 Joined: NumA, NumB, NumC.
-/
import Derived.Test.YtoiepmpggabglaaGreatDoorKIrNum
import Derived.Test.YtoiepmpggabglaaGreatDoorKNd
import Derived.Test.YtoiepmpggabglaaGreatDoorKLb
set_option linter.all false
set_option maxHeartbeats 4000000
/-
 Package num: zero, made, Sign, Neg, Add, Cmp, Mul, Of: what they compute.
-/
namespace Go.Proofs.YtoiepmpggabglaaGreatDoorK.NumT
open AI NatIr Dig NatT LibT
attribute [local irreducible] awp awpOps
attribute [local go_sem] nl ZD
variable {G : World → Prop} {L M X Y : Nat} {x y z : Int} {d e : D}
theorem nm0 : Nm 0 0 (.agg [.sl 0 []]) := nm_in (L := 0) (a := []) rfl (ok_nil _) (Nat.le_refl _)
theorem N_zero : N 0 = .agg [.sl 0 []] := by rw [N, wd_zero]; rfl
theorem nl_zero : nl 0 = .sl 0 [] := by rw [nl, wd_zero]; rfl
theorem ZD_zero : ZD 0 = .agg [.bool false, .sl 0 []] := by rw [ZD, show (0 : Int).natAbs = 0 from rfl, nl_zero]; rfl
theorem sign_sg (b : Bool) (X : Nat) : (sg b X).sign = if X = 0 then 0 else if b = true then -1 else 1 := by
 split
 ·rename_i h; subst h; cases b <;> rfl
 ·rename_i h
  cases b
  ·exact Int.sign_eq_one_of_pos (by simp only [sg, Bool.false_eq_true, if_false]; omega)
  ·exact Int.sign_eq_neg_one_of_neg (by simp only [sg, if_true]; omega)
theorem pcr_zero (hG : Stable G) (hx : Nm L X d) (h : L < 1000000) : PCr Tryz.prog G 81 [d] (.bool (decide (X = 0))) := by
 obtain ⟨n, cs, rfl⟩ := hx.un
 have hc := pcr_cmpN hG hx nm0 h (by omega)
 refine pcr_byq ok81 hG (n := 7) (rv := [.tmp 2]) fun r hr => ?_; unfold c81 st0
 refine xctl ?_
 refine xrg ?_
 refine xctl ?_
 refine xrg ?_; (refine xcf1 ?_; refine xcf (hc) rfl ?_)
 refine xrg ?_
 refine xctl ?_
 refine xrt ?_
 rw [hr, cmpN_zero]
theorem pcr_made (hG : Stable G) (b : Bool) (hx : Nm L X d) (h : L < 400000) : PCr Tryz.prog G 94 [.bool b, d] (ZD (sg b X)) := by
 obtain ⟨n, cs, rfl⟩ := hx.un
 have hc := pcr_addN hG hx nm0 (by omega) (by omega)
 rw [Nat.add_zero] at hc
 have hz := pcr_zero hG (nm_le hx (Nat.le_refl X)) (by omega)
 rw [ZD_sg]
 refine pcr_byq ok94 hG (n := 16) (rv := [.cell 4 true 2]) fun r hr => ?_; unfold c94 st0
 cases b
 ·refine xctl ?_
  refine xrg ?_
  refine xctl ?_
  refine xrg ?_; (refine xca1 ?_; refine xca (hc) ?_)
  refine xrg ?_
  refine xctl ?_
  refine xrg ?_
  refine xctl ?_
  refine xdr ?_
  refine xctl ?_
  refine xrt ?_
  rw [hr]; rfl
 ·refine xctl ?_
  refine xrg ?_
  refine xctl ?_
  refine xrg ?_; (refine xca1 ?_; refine xca (hc) ?_)
  refine xrg ?_
  refine xctl ?_
  refine xrg ?_; (refine xcgf1 ?_; refine xcf (hz) rfl ?_)
  refine xrg ?_
  refine xctl ?_
  refine xdr ?_
  refine xctl ?_
  refine xrt ?_
  rw [hr]
  simp only [Bool.true_and, decide_not]
  rfl
theorem pcr_sign (hG : Stable G) (hx : Zm L z d) (h : L < 400000) : PCr Tryz.prog G 44 [d] (.int .i64 z.sign) := by
 obtain ⟨b, X, e, hx, rfl, rfl⟩ := hx
 obtain ⟨n, cs, he⟩ := hx.un
 cases he
 have hz := pcr_zero hG hx (by omega)
 rw [sign_sg]
 refine pcr_byq ok44 hG (n := 10) (rv := [.tmp 2]) fun r hr => ?_; unfold c44 st0
 refine xctl ?_
 refine xrg ?_
 refine xctl ?_
 refine xrg ?_; (refine xcf1 ?_; refine xcf (hz) rfl ?_)
 refine xrg ?_
 refine xctl ?_
 refine xcs (fun hb => ?_) (fun hb => ?_)
 ·have hb := of_decide_eq_true hb
  refine xctl ?_
  refine xrg ?_
  refine xctl ?_
  refine xrt ?_
  rw [hr, if_pos hb]
 ·have hb := of_decide_eq_false hb
  rw [if_neg hb] at hr
  refine xctl ?_
  refine xrg ?_
  refine xctl ?_
  cases b
  ·refine xcF ?_
   refine xctl ?_
   refine xrg ?_
   refine xctl ?_
   refine xrt ?_
   rw [hr]; rfl
  ·refine xct ?_
   refine xctl ?_
   refine xrg ?_
   refine xctl ?_
   refine xrt ?_
   rw [hr]; rfl
theorem pcr_mul (hG : Stable G) (hx : Zm L x d) (hy : Zm M y e) (h1 : L < 150000) (h2 : M < 150000) : PCr Tryz.prog G 103 [d, e] (ZD (x * y)) := by
 obtain ⟨b, X, e1, hx, rfl, rfl⟩ := hx
 obtain ⟨c, Y, e2, hy, rfl, rfl⟩ := hy
 obtain ⟨n, cs, he⟩ := hx.un
 cases he
 obtain ⟨m, ds, he⟩ := hy.un
 cases he
 have ha := pcr_mulN hG hx hy (by omega) (by omega)
 have hm := pcr_made hG (!(b == c)) (nm_mul hx hy) (by omega)
 have es : sg (!(b == c)) (X * Y) = sg b X * sg c Y := by
  have : ((X * Y : Nat) : Int) = X * Y := Int.natCast_mul X Y
  cases b <;> cases c <;> simp [sg, Int.mul_neg, Int.neg_mul, this]
 rw [es] at hm
 refine pcr_byq ok103 hG (n := 16) (rv := [.cell 4 true 2]) fun r hr => ?_; unfold c103 st0
 refine xctl ?_
 refine xrg ?_
 refine xctl ?_
 refine xrg ?_; (refine xca1 ?_; refine xca (ha) ?_)
 refine xrg ?_; (refine xca1 ?_; refine xca (hm) ?_)
 refine xrg ?_
 refine xctl ?_
 refine xdr ?_
 refine xctl ?_
 refine xrt ?_
 exact hr.symm
end Go.Proofs.YtoiepmpggabglaaGreatDoorK.NumT
/-
 Package num: Div, Text, Parse, Good, Of: what they compute.
-/
namespace Go.Proofs.YtoiepmpggabglaaGreatDoorK.NumT
open AI NatIr Dig NatT LibT
attribute [local irreducible] awp awpOps
attribute [local go_sem] nl ZD
variable {G : World → Prop} {L M X Y : Nat} {x y z : Int} {d e : D}
def zT (z : Int) : List UInt8 := if z < 0 then 45 :: Lib.decDigits z.natAbs else Lib.decDigits z.natAbs
theorem nm_dlen (hx : Nm L X d) : (Lib.decDigits X).length ≤ 10 * L + 1 := by
 refine dec_len (Nat.lt_of_lt_of_le hx.lt ?_) (by omega)
 have h1 : 4294967296 ^ L ≤ (10 ^ 10) ^ L := Nat.pow_le_pow_left (by decide) L
 rw [← Nat.pow_mul] at h1
 exact Nat.le_trans h1 (Nat.pow_le_pow_right (by omega) (by omega))
theorem ba_cons (c : UInt8) (l : List UInt8) : (⟨#[c]⟩ : ByteArray) ++ ⟨l.toArray⟩ = ⟨(c :: l).toArray⟩ := ba_ext (by simp [ByteArray.data_append])
theorem pcr_text (hG : Stable G) (hT : ∀ w, G w → Lib.TabIs Tryz.prog w "internal/strconv.uint64pow10" .u64 Lib.pow10Tab) (hx : Zm L z d) (h : L < 100000) : PCr Tryz.prog G 20 [d] (.str ⟨(zT z).toArray⟩) := by
 have hs := pcr_sign hG hx (by omega)
 obtain ⟨b, X, e1, hx, rfl, rfl⟩ := hx
 obtain ⟨n, cs, he⟩ := hx.un
 cases he
 have ht := pcr_textN hG hT hx (by omega)
 have hl := nm_dlen hx
 have hsz := ba_size (Lib.decDigits X)
 have h1 : (#[45] : Array UInt8).size = 1 := rfl
 have h2 : (Lib.decDigits X).toArray.size = (Lib.decDigits X).length := by simp
 rw [zT, sg_abs]
 refine pcr_byq ok20 hG (n := 13) (rv := [.tmp 2]) fun r hr => ?_; unfold c20 st0
 refine xctl ?_
 refine xrg ?_
 refine xctl ?_
 refine xrg ?_; (refine xcf1 ?_; refine xcf (hs) rfl ?_)
 refine xrg ?_
 refine xctl ?_
 by_cases hb : sg b X < 0
 ·rw [if_pos hb] at hr
  have hb2 : (sg b X).sign < 0 := by rw [Int.sign_eq_neg_one_of_neg hb]; decide
  refine xcto ?_
  refine xctl ?_
  refine xrg ?_; (refine xca1 ?_; refine xca (ht) ?_)
  refine xrg ?_
  refine xctl ?_
  refine xrt ?_
  rw [hr]; exact congrArg D.str (ba_cons _ _)
 ·rw [if_neg hb] at hr
  have hb2 : ¬ (sg b X).sign < 0 := fun h => hb (Int.neg_of_sign_eq_neg_one (by
   have := Int.sign_trichotomy (sg b X)
   omega))
  refine xcfo ?_
  refine xctl ?_
  refine xrg ?_; (refine xca1 ?_; refine xca (ht) ?_)
  refine xrg ?_
  refine xctl ?_
  refine xrt ?_
  exact hr.symm
def pZ (l : List UInt8) : Option Int := if Lib.trimPrefix l [45] ≠ [] ∧ (Lib.trimPrefix l [45]).all isD = true then some (sg (Lib.hasPrefix l [45]) (decV (Lib.trimPrefix l [45]))) else none
def zR : Option Int → D
 | some z => .tup [ZD z, .bool true]
 | none => .tup [ZD 0, .bool false]
theorem trim_le (l p : List UInt8) : (Lib.trimPrefix l p).length ≤ l.length := by
 unfold Lib.trimPrefix
 split
 ·simp
 ·exact Nat.le_refl _
theorem pcr_parse (hG : Stable G) (s : ByteArray) (hs : s.size < 300000) : PCr Tryz.prog G 59 [.str s] (zR (pZ s.data.toList)) := by
 have hcp := lib_cutprefix (G := G) s ⟨#[45]⟩
 rw [show (⟨#[45]⟩ : ByteArray).data.toList = [45] from rfl] at hcp
 have htl := trim_le s.data.toList [45]
 have hbl := ba_len s
 unfold pZ
 generalize hn : Lib.hasPrefix s.data.toList [45] = ng at *
 generalize ht : Lib.trimPrefix s.data.toList [45] = t at *
 have hts := ba_size t
 by_cases hc : t ≠ [] ∧ t.all isD = true
 ·have hp := NatT.pcr_parse hG ⟨t.toArray⟩ (by omega) (by rw [hts]; exact fun h => hc.1 (List.eq_nil_of_length_eq_zero h)) hc.2
  rw [show (⟨t.toArray⟩ : ByteArray).data.toList = t from rfl] at hp
  have hlt : decV t < 4294967296 ^ t.length := Nat.lt_of_lt_of_le (decV_lt t (List.all_eq_true.1 hc.2)) (Nat.pow_le_pow_left (by decide) _)
  have hm := pcr_made hG ng (nm_N hlt) (by omega)
  rw [if_pos hc]
  generalize decV t = X at *
  refine pcr_byq ok59 hG (n := 24) (rv := [.cell 2 true 2, .tmp 3]) fun r hr => ?_; unfold c59 st0
  refine xctl ?_
  refine xrg ?_
  refine xctl ?_
  refine xrg ?_; (refine xca1 ?_; refine xca (hcp) ?_)
  refine xrg ?_
  refine xctl ?_
  refine xrg ?_; (refine xca1 ?_; refine xca (hp) ?_)
  refine xrg ?_
  refine xctl ?_
  refine xrg ?_
  refine xctl ?_
  refine xcF ?_
  refine xctl ?_
  refine xrg ?_; (refine xca1 ?_; refine xca (hm) ?_)
  refine xrg ?_
  refine xctl ?_
  refine xrt ?_
  exact hr.symm
 ·have hp := NatT.pcr_parse_not hG ⟨t.toArray⟩ (by omega) (by
   by_cases h0 : t = []
   ·subst h0; exact .inl rfl
   ·right
    have : ¬ t.all isD = true := fun h => hc ⟨h0, h⟩
    exact Bool.eq_false_iff.2 this)
  rw [if_neg hc, zR, ZD_zero]
  refine pcr_byq ok59 hG (n := 24) (rv := [.cell 2 true 2, .tmp 3]) fun r hr => ?_; unfold c59 st0
  refine xctl ?_
  refine xrg ?_
  refine xctl ?_
  refine xrg ?_; (refine xca1 ?_; refine xca (hcp) ?_)
  refine xrg ?_
  refine xctl ?_
  refine xrg ?_; (refine xca1 ?_; refine xca (hp) ?_)
  refine xrg ?_
  refine xctl ?_
  refine xrg ?_
  refine xctl ?_
  refine xct ?_
  refine xctl ?_
  refine xrg ?_
  refine xctl ?_
  refine xrt ?_
  exact hr.symm
theorem pcr_of (hG : Stable G) (n : Int) (h0 : -9223372036854775808 ≤ n) (h1 : n ≤ 9223372036854775807) : PCr Tryz.prog G 91 [.int .i64 n] (ZD n) := by
 have ho := NatT.pcr_of hG n.natAbs (by omega)
 have hm := pcr_made hG (ng n) (nm_N (X := n.natAbs) (L := 2) (by omega)) (by omega)
 rw [sg_self] at hm
 by_cases hb : n < 0
 ·rw [show ng n = true from decide_eq_true hb] at hm
  have e1 : (n.natAbs : Int) = (0 - n % 18446744073709551616) % 18446744073709551616 := by omega
  rw [e1] at ho
  refine pcr_byq ok91 hG (n := 14) (rv := [.cell 2 true 2]) fun r hr => ?_; unfold c91 st0
  refine xctl ?_
  refine xrg ?_
  refine xctl ?_
  refine xrg ?_
  refine xctl ?_
  refine xct ?_
  refine xctl ?_
  refine xrg ?_; (refine xca1 ?_; refine xca (ho) ?_)
  refine xrg ?_; (refine xca1 ?_; refine xca (hm) ?_)
  refine xrg ?_
  refine xctl ?_
  refine xrt ?_
  rw [hr, ZD, show ng n = true from decide_eq_true hb]; rfl
 ·rw [show ng n = false from decide_eq_false hb] at hm
  have e1 : (n.natAbs : Int) = n := by omega
  rw [e1] at ho
  refine pcr_byq ok91 hG (n := 14) (rv := [.cell 2 true 2]) fun r hr => ?_; unfold c91 st0
  refine xctl ?_
  refine xrg ?_
  refine xctl ?_
  refine xrg ?_
  refine xctl ?_
  refine xcF ?_
  refine xctl ?_
  refine xrg ?_; (refine xca1 ?_; refine xca (ho) ?_)
  refine xrg ?_; (refine xca1 ?_; refine xca (hm) ?_)
  refine xrg ?_
  refine xctl ?_
  refine xrt ?_
  rw [hr, ZD, show ng n = false from decide_eq_false hb]; rfl
end Go.Proofs.YtoiepmpggabglaaGreatDoorK.NumT
/-
 A number's text is read as it; facts of signs.
-/
namespace Go.Proofs.YtoiepmpggabglaaGreatDoorK.NumT
open AI NatIr Dig NatT LibT
variable {G : World → Prop} {L M X Y : Nat} {x y z : Int} {d e : D}
theorem zT_len (hx : Zm L z d) : (zT z).length ≤ 10 * L + 2 := by
 obtain ⟨b, X, e, hx, rfl, rfl⟩ := hx
 have := nm_dlen hx
 unfold zT
 rw [sg_abs]
 split
 ·rw [List.length_cons]; omega
 ·omega
theorem sign_bnd (z : Int) : -1 ≤ z.sign ∧ z.sign ≤ 1 := by
 have := Int.sign_trichotomy z
 omega
end Go.Proofs.YtoiepmpggabglaaGreatDoorK.NumT
