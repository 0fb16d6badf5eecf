/-
 Joined: Trim, NatA, CmpN, AddN, SubN, MulN, SmallN, ShiftN.
-/
import Derived.Test.YtoiepmpggabglaaGreatDoorKIrNat
import Derived.Test.YtoiepmpggabglaaGreatDoorKP
import Derived.Test.YtoiepmpggabglaaGreatDoorKAc
set_option linter.all false
set_option maxHeartbeats 4000000
/-
 nat.trim: what it computes.
-/
namespace Go.Proofs.YtoiepmpggabglaaGreatDoorK.NatT
open AI NatIr Dig
attribute [local irreducible] awp awpOps
variable {G : World → Prop}
theorem getD_last {l : List Int} (h : l ≠ []) : l.getLast? = some (l.getD (l.length - 1) 0) := by
 rw [List.getLast?_eq_getElem?, List.getD_eq_getElem?_getD]
 have : l.length - 1 < l.length := by have := List.length_pos_iff.2 h; omega
 rw [List.getElem?_eq_getElem this]; rfl
theorem vl_dropLast {l : List Int} (h : l ≠ []) (h0 : l.getD (l.length - 1) 0 = 0) (B : Nat) : vl B (l.take (l.length - 1)) = vl B l := by
 have hp := List.length_pos_iff.2 h
 have := vl_take_succ B l (l.length - 1) (by omega)
 rw [show l.length - 1 + 1 = l.length by omega, List.take_length, h0] at this
 simpa using this.symm
theorem pcr_trim (hG : Stable G) (ds : List Int) (n : Nat) (hn : n = ds.length) (hok : ok 4294967296 ds) (hlen : ds.length < 1000000) : PCr Tryz.prog G 41 [.sl n (W ds)] (N (vl 4294967296 ds)) := by
 subst hn
 refine pcr_byq ok41 hG (n := 22) (rv := [.cell 2 true 1]) fun r hr => ?_; unfold c41 st0
 refine xctl ?_
 refine xrg ?_
 refine xctl ?_
 refine awp_loop (fun n σ => ∃ ds' : List Int, ds'.length ≤ ds.length ∧ ok 4294967296 ds' ∧ vl 4294967296 ds' = vl 4294967296 ds ∧ n = ds'.length ∧ σ = ⟨putE (putE un0 (some 2) (.ptr 0 0 0)) (some 0) (.sl ds'.length (W ds')), [some (0, 37, 1, [D.nils])]⟩) ds.length (Ent.env (less_put (less_put (less_un0 _) ?_) ?_)) ⟨ds, Nat.le_refl _, hok, rfl, rfl, rfl⟩ ?_
 ·exact xlq
 ·exact xlq
 ·rintro n σ1 ⟨ds', hle, hok', hvl, rfl, rfl⟩
  by_cases h0 : ds' = []
  ·subst h0
   refine xctl ?_
   refine xrg ?_
   refine xctl ?_
   refine xcF ?_
   refine xctl ?_
   refine xrg ?_
   refine xctl ?_
   refine xrt ?_
   rw [hr, ← hvl, N, vl_nil, wd_zero]; rfl
  ·have hp := List.length_pos_iff.2 h0
   refine xctl ?_
   refine xrg ?_
   refine xctl ?_
   refine xcs (fun hb => ?_) (fun hb => ?_)
   ·have hb := of_decide_eq_true hb
    refine xctl ?_
    refine xrg ?_
    refine xctl ?_
    refine ⟨ds'.length - 1, _, by omega, Ent.env (less_put (less_put (less_un0 _) ?_) ?_), ds'.take (ds'.length - 1), ?_, ok_take hok' _, ?_, ?_, rfl⟩
    ·exact xlq
    ·simp (disch := omega) only [go_sem, Nat.reduceEqDiff, Nat.reduceAdd, Nat.reduceLT, Nat.reduceMul, Nat.reduceLeDiff, reduceCtorEq, Int.reduceNeg, Int.reduceToNat]
     simp (disch := omega) only [List.length_take, Nat.min_eq_left]
    ·simp; omega
    ·rw [vl_dropLast h0 hb, hvl]
    ·simp
   ·have hb := of_decide_eq_false hb
    refine xctl ?_
    refine xrg ?_
    refine xctl ?_
    refine xrt ?_
    rw [hr, ← hvl, N, ← eq_wd (by omega) hok' (fun x hx => by rw [getD_last h0] at hx; cases hx; exact hb)]
end Go.Proofs.YtoiepmpggabglaaGreatDoorK.NatT
/-
 nat.order, at, Good, Of, Low: what they compute.
-/
namespace Go.Proofs.YtoiepmpggabglaaGreatDoorK.NatT
open AI NatIr Dig
attribute [local irreducible] awp awpOps
variable {G : World → Prop}
theorem pcr_order (hG : Stable G) (b : Bool) : PCr Tryz.prog G 42 [.bool b] (.int .i64 (if b then -1 else 1)) := by
 refine pcr_byq ok42 hG (n := 4) (rv := [.tmp 2]) fun r hr => ?_; unfold c42 st0
 refine xctl ?_
 refine xrg ?_
 refine xctl ?_
 refine xrg ?_
 refine xctl ?_
 refine xcs (fun hb => ?_) (fun hb => ?_)
 ·refine xctl ?_
  refine xrg ?_
  refine xctl ?_
  refine xrt ?_
  rw [hr, hb]; rfl
 ·refine xctl ?_
  refine xrg ?_
  refine xctl ?_
  refine xrt ?_
  rw [hr, hb]; rfl
theorem pcr_at (hG : Stable G) (l : List Int) (n : Nat) (i : Int) (hn : n = l.length) (hok : ok 4294967296 l) (hi : 0 ≤ i) (hl : l.length < 1000000) : PCr Tryz.prog G 143 [.sl n (W l), .int .i64 i] (.int .u64 (l.getD i.toNat 0)) := by
 subst hn
 refine pcr_byq ok143 hG (n := 14) (rv := [.tmp 4]) fun r hr => ?_; unfold c143 st0
 refine xctl ?_
 refine xrg ?_
 refine xctl ?_
 refine xrg ?_
 refine xctl ?_
 refine xcs (fun hb => ?_) (fun hb => ?_)
 ·have hb := of_decide_eq_true hb
  have hv := ok_get hok (by omega) i.toNat
  refine xctl ?_
  refine xrg ?_
  refine xctl ?_
  refine xrt ?_
  rw [hr]
 ·have hb := of_decide_eq_false hb
  refine xctl ?_
  refine xrg ?_
  refine xctl ?_
  refine xrt ?_
  rw [hr, List.getD_eq_getElem?_getD, List.getElem?_eq_none (by omega)]; rfl
theorem pcr_of (hG : Stable G) (n : Nat) (hn : n < 18446744073709551616) : PCr Tryz.prog G 43 [.int .u64 n] (N n) := by
 refine pcr_byq ok43 hG (n := 10) (rv := [.cell 2 true 1]) fun r hr => ?_; unfold c43 st0
 refine xctl ?_
 refine xrg ?_
 refine xctl ?_
 refine xrg ?_
 refine xca1 ?_; refine xca (pcr_trim hG [(n : Int) % 4294967296, (n : Int) / 4294967296] 2 rfl (fun x hx => by simp at hx; omega) (by simp)) ?_
 refine xrg ?_
 refine xctl ?_
 refine xrt ?_
 rw [hr, show vl 4294967296 [(n : Int) % 4294967296, (n : Int) / 4294967296] = n by simp [vl]; omega]; rfl
end Go.Proofs.YtoiepmpggabglaaGreatDoorK.NatT
/-
 nat.Cmp: what it computes.
-/
namespace Go.Proofs.YtoiepmpggabglaaGreatDoorK.NatT
open AI NatIr Dig
attribute [local irreducible] awp awpOps
variable {G : World → Prop}
theorem wd_len_small {l : List Int} (hok : ok 4294967296 l) : (wd 4294967296 (vl 4294967296 l)).length ≤ l.length := wd_length_le (by omega) (vl_lt hok)
theorem pcr_cmp (hG : Stable G) (a b : List Int) (n m : Nat) (hn : n = a.length) (hm : m = b.length) (ha : ok 4294967296 a) (hb : ok 4294967296 b) (hla : a.length < 1000000) (hlb : b.length < 1000000) :
  PCr Tryz.prog G 18 [.agg [.sl n (W a)], .agg [.sl m (W b)]] (.int .i64 (cmpN (vl 4294967296 a) (vl 4294967296 b))) := by
 refine pcr_byq ok18 hG (n := 53) (rv := [.tmp 4]) fun r hr => ?_; unfold c18 st0
 refine xctl ?_
 refine xrg ?_
 refine xctl ?_
 refine xrg ?_
 refine xca1 ?_; refine xca (pcr_trim hG a n hn ha hla) ?_
 refine xrg ?_
 refine xca1 ?_; refine xca (pcr_trim hG b m hm hb hlb) ?_
 refine xrg ?_
 refine xctl ?_
 refine xdr ?_
 refine xctl ?_
 have hxa := ok_wd (B := 4294967296) (by omega) (vl 4294967296 a)
 have hxb := ok_wd (B := 4294967296) (by omega) (vl 4294967296 b)
 have hva := vl_wd (B := 4294967296) (by omega) (vl 4294967296 a)
 have hvb := vl_wd (B := 4294967296) (by omega) (vl 4294967296 b)
 have h1 := wd_len_small ha
 have h2 := wd_len_small hb
 have hless := @wd_less 4294967296 (by omega) (vl 4294967296 a) (vl 4294967296 b)
 have hless' := @wd_less 4294967296 (by omega) (vl 4294967296 b) (vl 4294967296 a)
 have hinj := @wd_inj 4294967296 (by omega) (vl 4294967296 a) (vl 4294967296 b)
 generalize wd 4294967296 (vl 4294967296 a) = x at *
 generalize wd 4294967296 (vl 4294967296 b) = y at *
 have hlx : x.length < 1000000 := by omega
 have hly : y.length < 1000000 := by omega
 refine xrg ?_
 refine xctl ?_
 refine xcs (fun hb => ?_) (fun hb => ?_)
 ·have hb := of_decide_eq_true hb
  refine xctl ?_
  refine xrg ?_
  refine xcf1 ?_; refine xcf (pcr_order hG _) rfl ?_
  refine xrg ?_
  refine xctl ?_
  refine xrt ?_
  rw [hr, cmpN]
  by_cases hlt : x.length < y.length
  ·rw [if_pos (hless hlt), if_pos (by simpa using hlt)]
  ·have := hless' (by omega)
   rw [if_neg (show ¬ vl 4294967296 a < vl 4294967296 b by omega), if_neg (show ¬ vl 4294967296 a = vl 4294967296 b by omega), if_neg (by simpa using hlt)]
 ·have hb := of_decide_eq_false hb
  have hlen : y.length = x.length := by omega
  refine xctl ?_
  refine xrg ?_
  refine xctl ?_
  refine awp_loop (fun n σ => n ≤ x.length ∧ x.drop n = y.drop n ∧ σ = ⟨putE (putE (putE un0 (some 5) (.sl x.length (W x))) (some 6) (.sl y.length (W y))) (some 7) (.int .i64 ((n : Int) - 1)), [none, none]⟩) x.length (Ent.st (less_put (less_put (less_put (less_un0 _) ?_) ?_) ?_) (by exact ⟨.inl rfl, .inl rfl, trivial⟩)) ⟨Nat.le_refl _, by rw [List.drop_length, ← hlen, List.drop_length], rfl⟩ ?_
  ·exact xlq
  ·exact xlq
  ·exact xlq
  ·rintro k σ1 ⟨hk, hdrop, rfl⟩
   refine xctl ?_
   refine xrg ?_
   refine xctl ?_
   refine xcs (fun hb => ?_) (fun hb => ?_)
   ·have hb := of_decide_eq_true hb
    have hk1 : k - 1 + 1 = k := by omega
    have gx := ok_get hxa (by omega) (k - 1)
    have gy := ok_get hxb (by omega) (k - 1)
    refine xctl ?_
    refine xrg ?_
    refine xctl ?_
    refine xdr ?_
    refine xctl ?_
    refine xcs (fun hb => ?_) (fun hb => ?_)
    ·have hb := of_decide_eq_true hb
     refine xctl ?_
     refine xrg ?_
     refine xcf1 ?_; refine xcf (pcr_order hG _) rfl ?_
     refine xrg ?_
     refine xctl ?_
     refine xdr ?_
     refine xctl ?_
     refine xrt ?_
     rw [hr, cmpN]
     by_cases hlt : x.getD (k - 1) 0 < y.getD (k - 1) 0
     ·have := vl_less (B := 4294967296) (i := k - 1) (l := x) (m := y) hxa (by omega) (by omega) (by rw [hk1]; exact hdrop) (by omega)
      rw [if_pos (show vl 4294967296 a < vl 4294967296 b by omega), if_pos (decide_eq_true hlt)]
     ·have := vl_less (B := 4294967296) (i := k - 1) (l := y) (m := x) hxb (by omega) (by omega) (by rw [hk1]; exact hdrop.symm) (by omega)
      rw [if_neg (show ¬ vl 4294967296 a < vl 4294967296 b by omega), if_neg (show ¬ vl 4294967296 a = vl 4294967296 b by omega), if_neg (by rw [decide_eq_true_eq]; exact hlt)]
    ·have hb := of_decide_eq_false hb
     refine xctl ?_
     refine xrg ?_
     refine xctl ?_
     refine ⟨k - 1, _, by omega, Ent.env (less_put (less_put (less_put (less_un0 _) ?_) ?_) ?_), by omega, drop_step (by omega) (by omega) (by simpa using hb) (by rw [hk1]; exact hdrop), rfl⟩
     ·exact xlq
     ·exact xlq
     ·simp only [go_sem, Nat.reduceEqDiff, Nat.reduceAdd, Nat.reduceLT, Nat.reduceMul, Nat.reduceLeDiff, reduceCtorEq, Int.reduceNeg, Int.reduceToNat]
      rw [show ((k - 1 : Nat) : Int) = (k : Int) - 1 by omega]
   ·have hb := of_decide_eq_false hb
    refine xctl ?_
    refine xrg ?_
    refine xctl ?_
    refine xrt ?_
    have hk0 : k = 0 := by omega
    subst hk0
    have := hinj hdrop
    rw [hr, cmpN, if_neg (by omega), if_pos this]
end Go.Proofs.YtoiepmpggabglaaGreatDoorK.NatT
/-
 nat.Add: what it computes.
-/
namespace Go.Proofs.YtoiepmpggabglaaGreatDoorK.NatT
open AI NatIr Dig
attribute [local irreducible] awp awpOps
variable {G : World → Prop}
theorem pcr_add (hG : Stable G) (a b : List Int) (n m : Nat) (hn : n = a.length) (hm : m = b.length) (ha : ok 4294967296 a) (hb : ok 4294967296 b) (hla : a.length < 500000) (hlb : b.length < 500000) :
  PCr Tryz.prog G 130 [.agg [.sl n (W a)], .agg [.sl m (W b)]] (N (vl 4294967296 a + vl 4294967296 b)) := by
 refine pcr_byq ok130 hG (n := 43) (rv := [.cell 4 true 1]) fun r hr => ?_; unfold c130 st0
 refine xctl ?_
 refine xrg ?_
 refine xctl ?_
 refine xrg ?_
 refine xctl ?_
 refine xrg ?_
 refine xctl ?_
 refine xrg ?_
 refine xctl ?_
 subst hn hm
 generalize hN : max a.length b.length + 1 = N0
 refine awp_loop (fun k σ => ∃ (i : Nat) (out : List Int) (c : Int), i ≤ N0 ∧ k = N0 - i ∧ out.length = N0 ∧ ok 4294967296 out ∧ 0 ≤ c ∧ c ≤ 1 ∧ vl 4294967296 (out.take i) + 4294967296 ^ i * c.toNat = vl 4294967296 (a.take i) + vl 4294967296 (b.take i) ∧
   σ = ⟨putE (putE (putE (putE (putE (putE (putE un0 (some 2) (.ptr 0 0 0)) (some 3) (.ptr 1 0 0)) (some 4) (.ptr 2 0 0)) (some 5) (.own 3 0 0 N0)) (some 6) (.int .u64 c)) (some 18) (.int .i64 N0)) (some 19) (.int .i64 i),
    [some (0, 37, 1, [.sl a.length (W a)]), some (0, 37, 1, [.sl b.length (W b)]), some (0, 37, 1, [.nils]), some (0, 104, 1, W out)]⟩) N0
  (Ent.env (less_put (less_put (less_put (less_put (less_put (less_put (less_put (less_un0 _) ?_) ?_) ?_) ?_) ?_) ?_) ?_)) ⟨0, List.replicate N0 0, 0, by omega, rfl, by simp, ok_replicate (by omega) _, by omega, by omega, by simp [vl], rfl⟩ ?_
 ·exact xlq
 ·exact xlq
 ·exact xlq
 ·exact xlq
 ·exact xlq
 ·simp only [go_sem, Nat.reduceEqDiff, Nat.reduceAdd, Nat.reduceLT, Nat.reduceMul, Nat.reduceLeDiff, reduceCtorEq, Int.reduceNeg, Int.reduceToNat]
  rw [← hN, cast_succ]
 ·exact xlq
 ·rintro k σ1 ⟨i, out, c, hi, rfl, hlo, hoo, hc0, hc1, heq, rfl⟩
  have hNs : N0 < 500001 := by omega
  refine xctl ?_
  refine xrg ?_
  refine xctl ?_
  refine xcs (fun hb => ?_) (fun hb => ?_)
  ·have hb' := of_decide_eq_true hb
   have ga := ok_get ha (by omega) i
   have gb := ok_get (by assumption : ok 4294967296 b) (by omega) i
   refine xctl ?_
   refine xrg ?_
   refine xctl ?_
   refine xrg ?_
   refine xcf1 ?_; refine xcf (pcr_at hG a _ _ rfl ha (by omega) (by omega)) rfl ?_
   refine xrg ?_
   refine xcf1 ?_; refine xcf (pcr_at hG b _ _ rfl (by assumption) (by omega) (by omega)) rfl ?_
   refine xrg ?_
   refine xctl ?_
   refine xdr ?_
   refine xctl ?_
   refine xrg ?_
   refine xctl ?_
   refine xrg ?_
   refine xctl ?_
   refine xrg ?_
   refine xctl ?_
   have hs1 := add_step (B := 4294967296) (x := (a.getD i 0).toNat) (y := (b.getD i 0).toNat) heq
   have e1 : ((c + (a.getD i 0 + b.getD i 0)) % 4294967296).toNat = (c.toNat + ((a.getD i 0).toNat + (b.getD i 0).toNat)) % 4294967296 := by omega
   have e2 : ((c + (a.getD i 0 + b.getD i 0)) / 4294967296).toNat = (c.toNat + ((a.getD i 0).toNat + (b.getD i 0).toNat)) / 4294967296 := by omega
   refine ⟨N0 - (i + 1), _, by omega, Ent.env (less_put (less_put (less_put (less_put (less_put (less_put (less_put (less_un0 _) ?_) ?_) ?_) ?_) ?_) ?_) ?_), i + 1, out.set i ((c + (a.getD i 0 + b.getD i 0)) % 4294967296), (c + (a.getD i 0 + b.getD i 0)) / 4294967296, by omega, rfl, by simp [hlo], ok_set hoo _ (by omega), by omega, by omega, ?_, rfl⟩
   ·exact xlq
   ·exact xlq
   ·exact xlq
   ·exact xlq
   ·exact xlq
   ·exact xlq
   ·exact xlq
   ·rw [vl_set _ _ _ _ (by omega), vl_take_next _ a, vl_take_next _ b, e1, e2]
    exact hs1
  ·have hb' := of_decide_eq_false hb
   have hiN : i = N0 := by omega
   subst hiN
   have hsum := add_end (B := 4294967296) (by omega) ha (by assumption) (by omega) (by omega) heq hlo
   refine xctl ?_
   refine xrg ?_
   refine xca1 ?_; refine xca (pcr_trim hG out i hlo.symm hoo (by omega)) ?_
   refine xrg ?_
   refine xctl ?_
   refine xrt ?_
   rw [hr, hsum]; rfl
end Go.Proofs.YtoiepmpggabglaaGreatDoorK.NatT
/-
 nat.Sub: what it computes.
-/
namespace Go.Proofs.YtoiepmpggabglaaGreatDoorK.NatT
open AI NatIr Dig
attribute [local irreducible] awp awpOps
variable {G : World → Prop}
end Go.Proofs.YtoiepmpggabglaaGreatDoorK.NatT
/-
 nat.Mul: what it computes.
-/
namespace Go.Proofs.YtoiepmpggabglaaGreatDoorK.NatT
open AI NatIr Dig
attribute [local irreducible] awp awpOps
variable {G : World → Prop}
theorem pcr_mul (hG : Stable G) (a b : List Int) (n m : Nat) (hn : n = a.length) (hm : m = b.length) (ha : ok 4294967296 a) (hb : ok 4294967296 b) (hla : a.length < 400000) (hlb : b.length < 400000) :
  PCr Tryz.prog G 104 [.agg [.sl n (W a)], .agg [.sl m (W b)]] (N (vl 4294967296 a * vl 4294967296 b)) := by
 refine pcr_byq ok104 hG (n := 72) (rv := [.cell 4 true 1]) fun r hr => ?_; unfold c104 st0
 subst hn hm
 refine xctl ?_
 refine xrg ?_
 refine xctl ?_
 refine xrg ?_
 refine xctl ?_
 refine xrg ?_
 refine xctl ?_
 refine awp_loop (fun k σ => ∃ (i : Nat) (out : List Int), i ≤ a.length ∧ k = a.length - i ∧ out.length = a.length + b.length ∧ ok 4294967296 out ∧ zt out (i + b.length) ∧ vl 4294967296 out = vl 4294967296 (a.take i) * vl 4294967296 b ∧
   σ = ⟨(putE (putE (putE (putE (putE (putE (putE un0 (some 2) (.ptr 0 0 0)) (some 3) (.ptr 1 0 0)) (some 4) (.ptr 2 0 0)) (some 5) (.own 3 0 0 (a.length + b.length))) (some 20) (.sl a.length (W a))) (some 21) (.int .i64 a.length)) (some 22) (.int .i64 i)),
    [some (0, 37, 1, [.sl a.length (W a)]), some (0, 37, 1, [.sl b.length (W b)]), some (0, 37, 1, [.nils]), some (0, 104, 1, W out)]⟩) a.length
  (Ent.env (less_put (less_put (less_put (less_put (less_put (less_put (less_put (less_un0 _) ?_) ?_) ?_) ?_) ?_) ?_) ?_)) ⟨0, List.replicate (a.length + b.length) 0, by omega, rfl, by simp, ok_replicate (by omega) _, zt_replicate _ _, by simp [vl, vl_replicate], rfl⟩ ?_
 iterate 7 (· exact xlq)
 rintro k σ1 ⟨i, out, hi, rfl, hlo, hoo, hz, heq, rfl⟩
 refine xctl ?_
 refine xrg ?_
 refine xctl ?_
 refine xcs (fun hb => ?_) (fun hb => ?_)
 ·have hb' := of_decide_eq_true hb
  have ga := ok_get ha (by omega) i
  refine xctl ?_
  refine xrg ?_
  refine xctl ?_
  refine xrg ?_
  refine xctl ?_
  refine xrg ?_
  refine xctl ?_
  generalize hx : a.getD i 0 = x at *
  refine awp_loop (fun k σ => ∃ (j : Nat) (out' : List Int) (c : Int), j ≤ b.length ∧ k = b.length - j ∧ out'.length = a.length + b.length ∧ ok 4294967296 out' ∧ zt out' (i + b.length) ∧ 0 ≤ c ∧ c < 4294967296 ∧
     vl 4294967296 out' + 4294967296 ^ (i + j) * c.toNat = vl 4294967296 out + 4294967296 ^ i * (x.toNat * vl 4294967296 (b.take j)) ∧
    σ = ⟨(putE (putE (putE (putE (putE (putE (putE (putE (putE (putE (putE (putE (putE un0 (some 2) (.ptr 0 0 0)) (some 3) (.ptr 1 0 0)) (some 4) (.ptr 2 0 0)) (some 5) (.own 3 0 0 (a.length + b.length))) (some 20) (.sl a.length (W a))) (some 21) (.int .i64 a.length)) (some 22) (.int .i64 i)) (some 6) (.int .i64 i)) (some 7) (.int .u32 x)) (some 8) (.int .u64 c)) (some 28) (.sl b.length (W b))) (some 29) (.int .i64 b.length)) (some 30) (.int .i64 j)),
     [some (0, 37, 1, [.sl a.length (W a)]), some (0, 37, 1, [.sl b.length (W b)]), some (0, 37, 1, [.nils]), some (0, 104, 1, W out')]⟩) b.length
   (Ent.env (less_put (less_put (less_put (less_put (less_put (less_put (less_put (less_put (less_put (less_put (less_put (less_put (less_put (less_un0 _) ?_) ?_) ?_) ?_) ?_) ?_) ?_) ?_) ?_) ?_) ?_) ?_) ?_)) ⟨0, out, 0, by omega, rfl, hlo, hoo, hz, by omega, by omega, by simp [vl], rfl⟩ ?_
  iterate 13 (· exact xlq)
  rintro k σ1 ⟨j, out', c, hj, rfl, hlo', hoo', hz', hc0, hc1, heq', rfl⟩
  refine xctl ?_
  refine xrg ?_
  refine xctl ?_
  refine xcs (fun hb => ?_) (fun hb => ?_)
  ·have hb2 := of_decide_eq_true hb
   have gb := ok_get (by assumption : ok 4294967296 b) (by omega) j
   have go := ok_get hoo' (by omega) (i + j)
   refine xctl ?_
   refine xrg ?_
   refine xctl ?_
   have hxy := mul_bound (x := x) (y := b.getD j 0) (n := 4294967295) (by omega) (by omega)
   have hset := vl_setw 4294967296 out' (i + j) ((c + (x * b.getD j 0 + out'.getD (i + j) 0)) % 4294967296) (by omega)
   have en : (c + (x * b.getD j 0 + out'.getD (i + j) 0)).toNat = c.toNat + (x.toNat * (b.getD j 0).toNat + (out'.getD (i + j) 0).toNat) := by
    rw [Int.toNat_add (by omega) (by omega), Int.toNat_add (by omega) (by omega), Int.toNat_mul (by omega) (by omega)]
   have hst := mul_step (B := 4294967296) (O' := vl 4294967296 (out'.set (i + j) ((c + (x * b.getD j 0 + out'.getD (i + j) 0)) % 4294967296))) (y := (b.getD j 0).toNat) (o := (out'.getD (i + j) 0).toNat) heq' (by rw [hset]; congr 2; omega)
   have hmod : 0 ≤ (c + (x * b.getD j 0 + out'.getD (i + j) 0)) % 4294967296 ∧ (c + (x * b.getD j 0 + out'.getD (i + j) 0)) % 4294967296 < 4294967296 := by omega
   have hdiv : 0 ≤ (c + (x * b.getD j 0 + out'.getD (i + j) 0)) / 4294967296 ∧ (c + (x * b.getD j 0 + out'.getD (i + j) 0)) / 4294967296 < 4294967296 := by omega
   have ediv : ((c + (x * b.getD j 0 + out'.getD (i + j) 0)) / 4294967296).toNat = (c.toNat + (x.toNat * (b.getD j 0).toNat + (out'.getD (i + j) 0).toNat)) / 4294967296 := by omega
   refine xrg ?_
   refine xctl ?_
   refine xrg ?_
   refine xctl ?_
   refine xrg ?_
   refine xctl ?_
   refine xrg ?_
   refine xctl ?_
   refine ⟨b.length - (j + 1), _, by omega, Ent.env (less_put (less_put (less_put (less_put (less_put (less_put (less_put (less_put (less_put (less_put (less_put (less_put (less_put (less_un0 _) ?_) ?_) ?_) ?_) ?_) ?_) ?_) ?_) ?_) ?_) ?_) ?_) ?_), j + 1, out'.set (i + j) ((c + (x * b.getD j 0 + out'.getD (i + j) 0)) % 4294967296), (c + (x * b.getD j 0 + out'.getD (i + j) 0)) / 4294967296, by omega, rfl, by simp [hlo'], ok_set hoo' _ hmod, zt_set hz' (by omega) _, hdiv.1, hdiv.2, ?_, rfl⟩
   iterate 13 (· exact xlq)
   rw [ediv, vl_take_next _ b]
   exact hst
  ·have hb2 := of_decide_eq_false hb
   have hjN : j = b.length := by omega
   subst hjN
   have hset := vl_setw 4294967296 out' (i + b.length) c (by omega)
   rw [hz' (i + b.length) (Nat.le_refl _)] at hset
   rw [List.take_length] at heq'
   refine xctl ?_
   refine xrg ?_
   refine xctl ?_
   refine xrg ?_
   refine xctl ?_
   refine ⟨a.length - (i + 1), _, by omega, Ent.env (less_put (less_put (less_put (less_put (less_put (less_put (less_put (less_un0 _) ?_) ?_) ?_) ?_) ?_) ?_) ?_), i + 1, out'.set (i + b.length) c, by omega, rfl, by simp [hlo'], ok_set hoo' _ ⟨hc0, by omega⟩, ?_, ?_, rfl⟩
   iterate 7 (· exact xlq)
   ·rw [show i + 1 + b.length = i + b.length + 1 by omega]; exact zt_next hz' c
   ·rw [vl_take_next, hx, Nat.add_mul, ← heq]
    simp at hset
    rw [hset, heq', Nat.mul_assoc]
 ·have hb' := of_decide_eq_false hb
  have hiN : i = a.length := by omega
  subst hiN
  rw [List.take_length] at heq
  refine xctl ?_
  refine xrg ?_
  refine xca1 ?_; refine xca (pcr_trim hG out (a.length + b.length) hlo.symm hoo (by omega)) ?_
  refine xrg ?_
  refine xctl ?_
  refine xrt ?_
  rw [hr, heq]; rfl
end Go.Proofs.YtoiepmpggabglaaGreatDoorK.NatT
/-
 nat.small: what it computes.
-/
namespace Go.Proofs.YtoiepmpggabglaaGreatDoorK.NatT
open AI NatIr Dig
attribute [local irreducible] awp awpOps
variable {G : World → Prop}
theorem pcr_small (hG : Stable G) (l : List Int) (d : Nat) (n : Nat) (hn : n = l.length) (hd0 : 0 < d) (hd : d < 4294967296) (hok : ok 4294967296 l) (hl : l.length < 1000000) :
  PCr Tryz.prog G 45 [.sl n (W l), .int .u32 d] (.tup [.sl n (W (sdiv 4294967296 d l).1), .int .u32 (sdiv 4294967296 d l).2]) := by
 subst hn
 refine pcr_byq ok45 hG (n := 42) (rv := [.tmp 4, .tmp 5]) fun r hr => ?_; unfold c45 st0
 refine xctl ?_
 refine xrg ?_
 refine xctl ?_
 refine xrg ?_
 refine xctl ?_
 refine xrg ?_
 refine xctl ?_
 refine xrg ?_
 refine xctl ?_
 refine awp_loop (fun i σ => ∃ (out : List Int), i ≤ l.length ∧ out.length = l.length ∧ out.drop i = (sdiv 4294967296 d (l.drop i)).1 ∧
   σ = ⟨(putE (putE (putE (putE (putE un0 (some 0) (.sl l.length (W l))) (some 1) (.int .u32 d)) (some 6) (.own 0 0 0 l.length)) (some 7) (.int .u64 (sdiv 4294967296 d (l.drop i)).2)) (some 8) (.int .i64 ((i : Int) - 1))),
    [some (0, 104, 1, W out)]⟩) l.length
  (Ent.env (less_put (less_put (less_put (less_put (less_put (less_un0 _) ?_) ?_) ?_) ?_) ?_)) ⟨List.replicate l.length 0, by omega, by simp, by simp [sdiv], rfl⟩ ?_
 iterate 3 (· exact xlq)
 ·simp only [go_sem, Nat.reduceEqDiff, Nat.reduceAdd, Nat.reduceLT, Nat.reduceMul, Nat.reduceLeDiff, reduceCtorEq, Int.reduceNeg, Int.reduceToNat]
  rw [List.drop_length]; rfl
 iterate 1 (· exact xlq)
 rintro i σ1 ⟨out, hi, hlo, heq, rfl⟩
 refine xctl ?_
 refine xrg ?_
 refine xctl ?_
 refine xcs (fun hb => ?_) (fun hb => ?_)
 ·have hb' := of_decide_eq_true hb
  have hi1 : i - 1 < l.length := by omega
  have gl := ok_get hok (by omega) (i - 1)
  have hr1 := sdiv_lt (B := 4294967296) hd0 (l.drop i)
  have hi2 : i - 1 + 1 = i := by omega
  have hsd := drop_cons hi1
  rw [hi2] at hsd
  have hok2 := sdiv_ok (B := 4294967296) (by omega) hd0 (l.drop (i - 1)) (ok_drop hok _)
  rw [hsd] at hok2
  simp only [sdiv] at hok2
  have hv := (ok_cons.1 hok2).1
  generalize hR : (sdiv 4294967296 d (l.drop i)).2 = R at *
  have eT : ((R : Int) * 4294967296 + l.getD (i - 1) 0) / d = ((R * 4294967296 + (l.getD (i - 1) 0).toNat) / d : Nat) := by
   rw [show (R : Int) * 4294967296 + l.getD (i - 1) 0 = ((R * 4294967296 + (l.getD (i - 1) 0).toNat : Nat) : Int) by omega]; rfl
  have eM : ((R : Int) * 4294967296 + l.getD (i - 1) 0) % d = ((R * 4294967296 + (l.getD (i - 1) 0).toNat) % d : Nat) := by
   rw [show (R : Int) * 4294967296 + l.getD (i - 1) 0 = ((R * 4294967296 + (l.getD (i - 1) 0).toNat : Nat) : Int) by omega]; rfl
  have hM := Nat.mod_lt (R * 4294967296 + (l.getD (i - 1) 0).toNat) hd0
  rw [← eT] at hv
  refine xctl ?_
  refine xrg ?_
  refine xctl ?_
  refine xrg ?_
  refine xctl ?_
  refine xrg ?_
  refine xctl ?_
  refine xrg ?_
  refine xctl ?_
  refine ⟨i - 1, _, by omega, Ent.env (less_put (less_put (less_put (less_put (less_put (less_un0 _) ?_) ?_) ?_) ?_) ?_), out.set (i - 1) (((R : Int) * 4294967296 + l.getD (i - 1) 0) / d), by omega, by simp [hlo], ?_, rfl⟩
  iterate 3 (· exact xlq)
  ·simp only [go_sem, Nat.reduceEqDiff, Nat.reduceAdd, Nat.reduceLT, Nat.reduceMul, Nat.reduceLeDiff, reduceCtorEq, Int.reduceNeg, Int.reduceToNat]
   rw [hsd, eM]
   simp only [sdiv, hR]
  ·simp only [go_sem, Nat.reduceEqDiff, Nat.reduceAdd, Nat.reduceLT, Nat.reduceMul, Nat.reduceLeDiff, reduceCtorEq, Int.reduceNeg, Int.reduceToNat]
   rw [show ((i - 1 : Nat) : Int) = (i : Int) - 1 by omega]
  ·rw [drop_set (by omega), hi2, heq, hsd, eT]
   simp only [sdiv, hR]
 ·have hb' := of_decide_eq_false hb
  have hi0 : i = 0 := by omega
  subst hi0
  rw [List.drop_zero, List.drop_zero] at heq
  have hr1 := sdiv_lt (B := 4294967296) hd0 l
  refine xctl ?_
  refine xrg ?_
  refine xctl ?_
  refine xrt ?_
  rw [hr, heq]
end Go.Proofs.YtoiepmpggabglaaGreatDoorK.NatT
/-
 nat.shift, back: what they compute.
-/
namespace Go.Proofs.YtoiepmpggabglaaGreatDoorK.NatT
open AI NatIr Dig
attribute [local irreducible] awp awpOps
variable {G : World → Prop}
theorem pow2_int (n : Nat) : (2 : Int) ^ n = ((2 ^ n : Nat) : Int) := by simp
theorem pow2_le {n : Nat} (h : n ≤ 31) : 1 ≤ 2 ^ n ∧ 2 ^ n ≤ 2147483648 := ⟨Nat.one_le_two_pow, Nat.pow_le_pow_right (by omega) h⟩
theorem pcg_shift (l : List Int) (n k : Nat) (hn : n = l.length) (hok : ok 4294967296 l) (hl : l.length < 1000000) (hk : k ≤ 31) :
  PCg Tryz.prog G 118 [.sl n (W l), .int .i64 k] [] (.own 0 0 0 (n + 1)) [some (0, 104, 1, W (pd 4294967296 (vl 4294967296 l * 2 ^ k) (n + 1)))] := by
 refine pcg_by (fn := Tryz.f118) (n := 41) (rv := [.tmp 4]) (by kernel_rfl) ok118 (by kernel_rfl) (by decide) (by kernel_rfl) (by simp) (by kernel_rfl) (by simp) (fun r hh hr hhe => ?_); unfold c118
 subst hn hhe
 refine xctl ?_
 refine xrg ?_
 refine xctl ?_
 refine xrg ?_
 refine xctl ?_
 refine xrg ?_
 refine xctl ?_
 refine xrg ?_
 refine xctl ?_
 have hp := pow2_le hk
 have hpe := pow2_int k
 generalize hpk : 2 ^ k = p at *
 refine awp_loop (fun j σ => ∃ (i : Nat) (out : List Int) (c : Int), i ≤ l.length ∧ j = l.length - i ∧ out.length = l.length + 1 ∧ ok 4294967296 out ∧ zt out i ∧ 0 ≤ c ∧ c < p ∧ vl 4294967296 (out.take i) + 4294967296 ^ i * c.toNat = vl 4294967296 (l.take i) * p ∧
   σ = ⟨(putE (putE (putE (putE (putE (putE (putE un0 (some 0) (.sl l.length (W l))) (some 1) (.int .i64 k)) (some 5) (.own 0 0 0 (l.length + 1))) (some 6) (.int .u64 c)) (some 13) (.sl l.length (W l))) (some 14) (.int .i64 l.length)) (some 15) (.int .i64 i)),
    [some (0, 104, 1, W out)]⟩) l.length
  (Ent.env (less_put (less_put (less_put (less_put (less_put (less_put (less_put (less_un0 _) ?_) ?_) ?_) ?_) ?_) ?_) ?_)) ⟨0, List.replicate (l.length + 1) 0, 0, by omega, rfl, by simp, ok_replicate (by omega) _, zt_replicate _ _, by omega, by omega, by simp [vl], rfl⟩ ?_
 iterate 7 (· exact xlq)
 rintro j σ1 ⟨i, out, c, hi, rfl, hlo, hoo, hz, hc0, hc1, heq, rfl⟩
 refine xctl ?_
 refine xrg ?_
 refine xctl ?_
 refine xcs (fun hb => ?_) (fun hb => ?_)
 ·have hb' := of_decide_eq_true hb
  have gl := ok_get hok (by omega) i
  have hvp : 0 ≤ l.getD i 0 * 2 ^ k ∧ l.getD i 0 * 2 ^ k ≤ 4294967295 * p := by
   rw [hpe]
   exact ⟨Int.mul_nonneg gl.1 (by omega), Int.mul_le_mul_of_nonneg_right (by omega) (by omega)⟩
  refine xctl ?_
  refine xrg ?_
  refine xctl ?_
  refine xrg ?_
  refine xctl ?_
  have hT : orI .u64 c (l.getD i 0 * 2 ^ k) = c + l.getD i 0 * p := by
   rw [orI_comm (by omega) (by omega), orI_add (n := k) hvp.1 (Int.mul_emod_left _ _) (by rw [hpe]; exact ⟨hc0, hc1⟩) (by omega), Int.add_comm, hpe]
  rw [hpe] at hvp
  generalize orI .u64 c (l.getD i 0 * 2 ^ k) = T at *
  have hT0 : 0 ≤ T ∧ T < 4294967296 * p := by omega
  have hTn : T.toNat = c.toNat + (l.getD i 0).toNat * p := by
   rw [hT, Int.toNat_add (by omega) hvp.1, Int.toNat_mul gl.1 (by omega)]; rfl
  have hst := shl_step (B := 4294967296) (v := (l.getD i 0).toNat) heq
  rw [← hTn] at hst
  have hq : T / 4294967296 < p := by omega
  refine xrg ?_
  refine xctl ?_
  refine xrg ?_
  refine xctl ?_
  refine xrg ?_
  refine xctl ?_
  refine ⟨l.length - (i + 1), _, by omega, Ent.env (less_put (less_put (less_put (less_put (less_put (less_put (less_put (less_un0 _) ?_) ?_) ?_) ?_) ?_) ?_) ?_), i + 1, out.set i (T % 4294967296), T / 4294967296, by omega, rfl, by simp [hlo], ok_set hoo _ (by omega), zt_next hz _, by omega, hq, ?_, rfl⟩
  iterate 7 (· exact xlq)
  rw [vl_set _ _ _ _ (by omega), vl_take_next _ l, show (T % 4294967296).toNat = T.toNat % 4294967296 by omega, show (T / 4294967296).toNat = T.toNat / 4294967296 by omega]
  exact hst
 ·have hb' := of_decide_eq_false hb
  have hiN : i = l.length := by omega
  subst hiN
  have hset := vl_setw 4294967296 out l.length c (by omega)
  rw [hz _ (Nat.le_refl _)] at hset
  refine xctl ?_
  refine xrg ?_
  refine xctl ?_
  refine xrg ?_
  refine xctl ?_
  have hfin : out.set l.length c = pd 4294967296 (vl 4294967296 l * p) (l.length + 1) := by
   rw [pd_eq (by omega) (ok_set hoo l.length (v := c) (by omega))]
   congr 1
   ·rw [List.take_length] at heq
    rw [← heq, ← zt_vl hz]
    simp at hset
    exact hset
   ·simp [hlo]
  rw [← hfin]
  refine resg_ret (by simp (disch := omega) only [go_sem, Nat.reduceEqDiff, Nat.reduceAdd, Nat.reduceLT, Nat.reduceMul, Nat.reduceLeDiff, reduceCtorEq, Int.reduceNeg, Int.reduceToNat]; rfl) ?_ ?_ ?_
  ·rw [hr]; rfl
  ·rw [hr]; simp [kb]
  ·exact kbH_imm (by simp [immH, W_imm])
theorem shrk {a : Int} {k : Nat} : a.fdiv (2 ^ k) = a / 2 ^ k := Int.fdiv_eq_ediv_of_nonneg _ (Int.le_of_lt (Int.pow_pos (by decide)))
attribute [local go_sem] shrk
theorem pcr_back (hG : Stable G) (l : List Int) (n k : Nat) (hn : n = l.length) (hok : ok 4294967296 l) (hl : l.length < 1000000) (hk : k ≤ 31) :
  PCr Tryz.prog G 120 [.sl n (W l), .int .i64 k] (.sl n (W (pd 4294967296 (vl 4294967296 l / 2 ^ k) n))) := by
 subst hn
 refine pcr_byq ok120 hG (n := 32) (rv := [.tmp 4]) fun r hr => ?_; unfold c120 st0
 refine xctl ?_
 refine xrg ?_
 refine xctl ?_
 refine xrg ?_
 refine xctl ?_
 refine xrg ?_
 refine xctl ?_
 have hp := pow2_le hk
 have hpe := pow2_int k
 generalize hpk : 2 ^ k = p at *
 refine awp_loop (fun j σ => ∃ (i : Nat) (out : List Int), i ≤ l.length ∧ j = l.length - i ∧ out.length = l.length ∧ ok 4294967296 out ∧ out.take i = (pd 4294967296 (vl 4294967296 l / p) l.length).take i ∧
   σ = ⟨(putE (putE (putE (putE (putE un0 (some 0) (.sl l.length (W l))) (some 1) (.int .i64 k)) (some 5) (.own 0 0 0 l.length)) (some 11) (.int .i64 l.length)) (some 12) (.int .i64 i)),
    [some (0, 104, 1, W out)]⟩) l.length
  (Ent.env (less_put (less_put (less_put (less_put (less_put (less_un0 _) ?_) ?_) ?_) ?_) ?_)) ⟨0, List.replicate l.length 0, by omega, rfl, by simp, ok_replicate (by omega) _, by simp, rfl⟩ ?_
 iterate 5 (· exact xlq)
 rintro j σ1 ⟨i, out, hi, rfl, hlo, hoo, heq, rfl⟩
 refine xctl ?_
 refine xrg ?_
 refine xctl ?_
 refine xcs (fun hb => ?_) (fun hb => ?_)
 ·have hb' := of_decide_eq_true hb
  have g0 := ok_get hok (by omega) i
  have g1 := ok_get hok (by omega) (i + 1)
  refine xctl ?_
  refine xrg ?_
  refine xctl ?_
  refine xrg ?_
  refine xcf1 ?_; refine xcf (pcr_at hG l _ _ rfl hok (by omega) (by omega)) rfl ?_
  rw [show ((i : Int) + 1).toNat = i + 1 by omega]
  refine xrg ?_
  refine xcf1 ?_; refine xcf (pcr_at hG l _ _ rfl hok (by omega) (by omega)) rfl ?_
  rw [show ((i : Int)).toNat = i by omega]
  refine xrg ?_
  refine xctl ?_
  refine xrg ?_
  refine xctl ?_
  have hv : ((l.getD (i + 1) 0) * 4294967296 + l.getD i 0) / 2 ^ k % 4294967296 = ((vl 4294967296 l / p / 4294967296 ^ i % 4294967296 : Nat) : Int) := by
   rw [shr_digit (by omega) (by omega) (by rw [← hpk]; exact Nat.pow_dvd_pow 2 (show k ≤ 32 by omega)) hok, hpe]
   have e : (l.getD (i + 1) 0) * 4294967296 + l.getD i 0 = (((l.getD (i + 1) 0).toNat * 4294967296 + (l.getD i 0).toNat : Nat) : Int) := by omega
   rw [e]
   rw [Int.natCast_emod, Int.natCast_ediv]; rfl
  refine ⟨l.length - (i + 1), _, by omega, Ent.env (less_put (less_put (less_put (less_put (less_put (less_un0 _) ?_) ?_) ?_) ?_) ?_), i + 1, out.set i (((l.getD (i + 1) 0) * 4294967296 + l.getD i 0) / 2 ^ k % 4294967296), by omega, rfl, by simp [hlo], ok_set hoo _ (by omega), ?_, rfl⟩
  iterate 5 (· exact xlq)
  rw [take_set_next (by omega), take_next (by rw [pd_length]; omega), heq, pd_getD _ _ _ (by omega), hv]
 ·have hb' := of_decide_eq_false hb
  have hiN : i = l.length := by omega
  subst hiN
  rw [List.take_of_length_le (by omega), List.take_of_length_le (by rw [pd_length]; omega)] at heq
  refine xctl ?_
  refine xrg ?_
  refine xctl ?_
  refine xrt ?_
  rw [hr, heq]
end Go.Proofs.YtoiepmpggabglaaGreatDoorK.NatT
