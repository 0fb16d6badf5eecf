/-
 Joined: RefA, RefB, RefC, RefD.
-/
import Derived.Test.YtgdbkigaaooifaaGreatDoorKIrRef
import Derived.Test.YtgdbkigaaooifaaGreatDoorKP
import Derived.Test.YtgdbkigaaooifaaGreatDoorKNa
import Derived.Test.YtgdbkigaaooifaaGreatDoorKAc
set_option linter.all false
set_option maxHeartbeats 0
/-
 The document's trim, Small, at, Cmp: what they compute.
-/
namespace Go.Proofs.YtgdbkigaaooifaaGreatDoorK.RefT
open AI NatIr Dig NatT
attribute [local irreducible] awp awpOps
attribute [local go_sem] V_getD V_set V_take V_drop V_imm V_one V_app V_app1 V_repl V_get1 V_length M List.length_append
variable {G : World → Prop}
theorem M_zero : M 0 = .sl 0 [] := by rw [M, wd_zero]; rfl
theorem pcr_rtrim (hG : Stable G) (ds : List Int) (n : Nat) (hn : n = ds.length) (hok : ok 10000 ds) (hlen : ds.length < 1000000) : PCr Tryz.prog G 210 [.sl n (V ds)] (M (vl 10000 ds)) := by
 subst hn
 refine pcr_byq ok210 hG (n := 21) (rv := [.tmp 2]) fun r hr => ?_; unfold c210 st0
 refine xctl ?_
 refine xrg ?_
 refine xctl ?_
 refine awp_loop (fun n σ => ∃ ds' : List Int, ds'.length ≤ ds.length ∧ ok 10000 ds' ∧ vl 10000 ds' = vl 10000 ds ∧ n = ds'.length ∧ σ = ⟨(putE un0 (some 0) (.sl ds'.length (V ds'))), []⟩) ds.length (Ent.env (less_put (less_un0 _) ?_)) ⟨ds, Nat.le_refl _, hok, rfl, rfl, rfl⟩ ?_
 iterate 1 (· exact xlq)
 rintro n σ1 ⟨ds', hle, hok', hvl, rfl, rfl⟩
 by_cases h0 : ds' = []
 ·subst h0
  refine xctl ?_
  refine xrg ?_
  refine xctl ?_
  refine xcF ?_
  refine xctl ?_
  refine xrg ?_
  refine xctl ?_
  refine xrt ?_
  rw [hr, ← hvl, M, vl_nil, wd_zero]; rfl
 ·have hp := List.length_pos_iff.2 h0
  refine xctl ?_
  refine xrg ?_
  refine xctl ?_
  refine xcs (fun hb => ?_) (fun hb => ?_)
  ·have hb := of_decide_eq_true hb
   refine xctl ?_
   refine xrg ?_
   refine xctl ?_
   refine ⟨ds'.length - 1, _, by omega, Ent.env (less_put (less_un0 _) ?_), ds'.take (ds'.length - 1), by simp; omega, ok_take hok' _, by rw [vl_dropLast h0 hb, hvl], by simp, rfl⟩
   ·simp (disch := omega) only [go_sem, Nat.reduceEqDiff, Nat.reduceAdd, Nat.reduceLT, Nat.reduceMul, Nat.reduceLeDiff, reduceCtorEq, Int.reduceNeg, Int.reduceToNat]
    simp (disch := omega) only [List.length_take, Nat.min_eq_left]
  ·have hb := of_decide_eq_false hb
   refine xctl ?_
   refine xrg ?_
   refine xctl ?_
   refine xrt ?_
   rw [hr, ← hvl, M, ← eq_wd (by omega) hok' (fun x hx => by rw [getD_last h0] at hx; cases hx; exact hb)]
theorem pcr_rat (hG : Stable G) (l : List Int) (n : Nat) (i : Int) (hn : n = l.length) (hok : ok 10000 l) (hi : 0 ≤ i) (hl : l.length < 1000000) : PCr Tryz.prog G 217 [.sl n (V l), .int .i64 i] (.int .i64 (l.getD i.toNat 0)) := by
 subst hn
 obtain ⟨j, rfl⟩ := Int.eq_ofNat_of_zero_le hi
 rw [Int.toNat_natCast]
 refine pcr_byq ok217 hG (n := 13) (rv := [.tmp 4]) fun r hr => ?_; unfold c217 st0
 refine xctl ?_
 refine xrg ?_
 refine xctl ?_
 refine xrg ?_
 refine xctl ?_
 refine xcs (fun hb => ?_) (fun hb => ?_)
 ·have hb := of_decide_eq_true hb
  refine xctl ?_
  refine xrg ?_
  refine xctl ?_
  refine xrt ?_
  exact hr.symm
 ·have hb := of_decide_eq_false hb
  refine xctl ?_
  refine xrg ?_
  refine xctl ?_
  refine xrt ?_
  rw [hr, List.getD_eq_getElem?_getD, List.getElem?_eq_none (by omega)]; rfl
theorem wd_snoc {l : List Int} {v n : Nat} (hok : ok 10000 l) (hv : v = vl 10000 l + 10000 ^ l.length * n) (hn : n ≠ 0) : vl 10000 (l ++ [((n % 10000 : Nat) : Int)]) + 10000 ^ (l.length + 1) * (n / 10000) = v := by
 rw [vl_append, vl_cons, vl_nil, hv, Int.toNat_natCast, Nat.mul_zero, Nat.add_zero, Nat.pow_succ, Nat.mul_assoc, Nat.add_assoc, ← Nat.mul_add, Nat.mod_add_div]
theorem pcr_rsmall (hG : Stable G) (n : Nat) (hn : n < 18446744073709551616) : PCr Tryz.prog G 167 [.int .u64 n] (M n) := by
 refine pcr_byq ok167 hG (n := 15) (rv := [.tmp 2]) fun r hr => ?_; unfold c167 st0
 refine xctl ?_
 refine xrg ?_
 refine xctl ?_
 refine xrg ?_
 refine xctl ?_
 refine awp_loop (fun k σ => ∃ (m ver : Nat) (l : List Int), k = m ∧ m ≤ n ∧ l.length ≤ 30 ∧ (m ≠ 0 → 10000 ^ l.length ≤ n) ∧ ok 10000 l ∧ n = vl 10000 l + 10000 ^ l.length * m ∧ (l ≠ [] → m = 0 → l.getD (l.length - 1) 0 ≠ 0) ∧
   σ = ⟨(putE (putE un0 (some 0) (.int .u64 m)) (some 3) (.own 0 ver 0 l.length)), [some (ver, 3, 1, V l)]⟩) n
  ((Ent.nils (s := 3) 3 1 (by simp only [go_sem, Nat.reduceEqDiff, Nat.reduceAdd, Nat.reduceLT, Nat.reduceMul, Nat.reduceLeDiff, reduceCtorEq, Int.reduceNeg, Int.reduceToNat])).trans (by simp) (Ent.env (less_put (less_put (less_un0 _) ?_) ?_))) ⟨n, 0, [], rfl, Nat.le_refl _, by simp, fun h => by simp; omega, ok_nil _, by simp [vl], fun h => absurd rfl h, rfl⟩ ?_
 iterate 2 (· exact xlq)
 rintro m σ1 ⟨_, ver, l, rfl, hm, hl, hln, hok, hv, hlast, rfl⟩
 refine xctl ?_
 refine xrg ?_
 refine xctl ?_
 refine xcs (fun hb => ?_) (fun hb => ?_)
 ·have hb := of_decide_eq_true hb
  have h0 : m ≠ 0 := by omega
  have h1 := hln h0
  have hl' : l.length ≤ 4 := by
   rcases Nat.lt_or_ge 4 l.length with h | h
   ·have h2 : 10000 ^ 5 ≤ 10000 ^ l.length := Nat.pow_le_pow_right (by omega) h
    omega
   ·exact h
  have hs := wd_snoc hok hv h0
  have hd : m / 10000 ≤ m := Nat.div_le_self _ _
  have hdl : m / 10000 < m := Nat.div_lt_self (by omega) (by omega)
  have hmod := Nat.mod_lt m (show 10000 > 0 by omega)
  have em : (m : Int) % 10000 = ((m % 10000 : Nat) : Int) := by omega
  have ed : (m : Int) / 10000 = ((m / 10000 : Nat) : Int) := by omega
  refine xctl ?_
  refine xrg ?_
  refine xctl ?_
  refine xrg ?_
  refine xctl ?_
  refine ⟨m / 10000, _, hdl, (Ent.cutk 1 (less_put (less_put (less_un0 _) ?_) ?_) (by exact ⟨.inr rfl, trivial⟩) (kb_put (kb_put (kb_un0 _) (by simp [kb])) (by simp [kb])) (by simp [kbH, kb.kbs, kb, kbs_W, kbs_SS, kbs_V])), m / 10000, ver + 1, l ++ [(m : Int) % 10000], rfl, by omega, by simp; omega, ?_, ?_, ?_, ?_, rfl⟩
  ·simp only [go_sem, Nat.reduceEqDiff, Nat.reduceAdd, Nat.reduceLT, Nat.reduceMul, Nat.reduceLeDiff, reduceCtorEq, Int.reduceNeg, Int.reduceToNat]
   rw [ed]
  ·exact xlq
  ·intro h2
   rw [List.length_append, List.length_singleton, Nat.pow_succ]
   have h3 : 10000 ^ l.length * 10000 ≤ 10000 ^ l.length * m := Nat.mul_le_mul_left _ (by omega)
   exact Nat.le_trans h3 (Nat.le_trans (Nat.le_add_left _ _) (Nat.le_of_eq hv.symm))
  ·exact ok_append.2 ⟨hok, fun x hx => by simp at hx; omega⟩
  ·rw [List.length_append, List.length_singleton, em]
   exact hs.symm
  ·intro _ h2
   rw [List.length_append, List.length_singleton, Nat.add_sub_cancel, List.getD_eq_getElem?_getD, List.getElem?_append_right (Nat.le_refl _), Nat.sub_self]
   simp only [List.getElem?_cons_zero, Option.getD_some]
   omega
 ·have hb := of_decide_eq_false hb
  have hm0 : m = 0 := by omega
  subst hm0
  refine xctl ?_
  refine xrg ?_
  refine xctl ?_
  refine xrt ?_
  rw [hr, M]
  have h1 : n = vl 10000 l := by simpa using hv
  have h2 : l = wd 10000 n := by
   rw [h1]
   refine eq_wd (by omega) hok (fun x hx => ?_)
   by_cases hl0 : l = []
   ·subst hl0; cases hx
   ·rw [getD_last hl0] at hx
    cases hx
    exact hlast hl0 rfl
  rw [← h2]
end Go.Proofs.YtgdbkigaaooifaaGreatDoorK.RefT
/-
 The document's Cmp, Add: what they compute.
-/
namespace Go.Proofs.YtgdbkigaaooifaaGreatDoorK.RefT
open AI NatIr Dig NatT
attribute [local irreducible] awp awpOps
attribute [local go_sem] V_getD V_set V_take V_drop V_imm V_one V_app V_app1 V_repl V_get1 V_length M List.length_append
variable {G : World → Prop}
theorem pcr_rcmp (hG : Stable G) (X Y : Nat) (hX : (wd 10000 X).length < 1000000) (hY : (wd 10000 Y).length < 1000000) :
  PCr Tryz.prog G 235 [M X, M Y] (.int .i64 (cmpN X Y)) := by
 have hxa := ok_wd (B := 10000) (by omega) X
 have hxb := ok_wd (B := 10000) (by omega) Y
 have hva := vl_wd (B := 10000) (by omega) X
 have hvb := vl_wd (B := 10000) (by omega) Y
 have hless := @wd_less 10000 (by omega) X Y
 have hless' := @wd_less 10000 (by omega) Y X
 have hinj := @wd_inj 10000 (by omega) X Y
 unfold M
 generalize wd 10000 X = x at *
 generalize wd 10000 Y = y at *
 refine pcr_byq ok235 hG (n := 41) (rv := [.tmp 4]) fun r hr => ?_; unfold c235 st0
 refine xctl ?_
 refine xrg ?_
 refine xctl ?_
 refine xrg ?_
 refine xctl ?_
 refine xcs (fun hb => ?_) (fun hb => ?_)
 ·have hb := of_decide_eq_true hb
  refine xctl ?_
  refine xrg ?_
  refine xctl ?_
  refine xcs (fun hb => ?_) (fun hb => ?_)
  ·have hb := of_decide_eq_true hb
   refine xctl ?_
   refine xrg ?_
   refine xctl ?_
   refine xrt ?_
   rw [hr, cmpN, if_pos (hless (by omega))]
  ·have hb := of_decide_eq_false hb
   have := hless' (by omega)
   refine xctl ?_
   refine xrg ?_
   refine xctl ?_
   refine xrt ?_
   rw [hr, cmpN, if_neg (by omega), if_neg (by omega)]
 ·have hb := of_decide_eq_false hb
  have hlen : y.length = x.length := by omega
  refine xctl ?_
  refine xrg ?_
  refine xctl ?_
  refine awp_loop (fun n σ => n ≤ x.length ∧ x.drop n = y.drop n ∧ σ = ⟨(putE (putE (putE un0 (some 0) (.sl x.length (V x))) (some 1) (.sl y.length (V y))) (some 5) (.int .i64 ((n : Int) - 1))), []⟩) x.length (Ent.env (less_put (less_put (less_put (less_un0 _) ?_) ?_) ?_)) ⟨Nat.le_refl _, by rw [List.drop_length, ← hlen, List.drop_length], rfl⟩ ?_
  iterate 3 (· exact xlq)
  rintro k σ1 ⟨hk, hdrop, rfl⟩
  refine xctl ?_
  refine xrg ?_
  refine xctl ?_
  refine xcs (fun hb => ?_) (fun hb => ?_)
  ·have hb := of_decide_eq_true hb
   have hk1 : k - 1 + 1 = k := by omega
   have gx := ok_get hxa (by omega) (k - 1)
   have gy := ok_get hxb (by omega) (k - 1)
   refine xctl ?_
   refine xrg ?_
   refine xctl ?_
   refine xdr ?_
   refine xctl ?_
   refine xcs (fun hb => ?_) (fun hb => ?_)
   ·have hb := of_decide_eq_true hb
    have := vl_less (B := 10000) (i := k - 1) (l := x) (m := y) hxa (by omega) (by omega) (by rw [hk1]; exact hdrop) (by omega)
    refine xctl ?_
    refine xrg ?_
    refine xctl ?_
    refine xrt ?_
    rw [hr, cmpN, if_pos (by omega)]
   ·have hb := of_decide_eq_false hb
    refine xctl ?_
    refine xrg ?_
    refine xctl ?_
    refine xdr ?_
    refine xctl ?_
    refine xcs (fun hb => ?_) (fun hb => ?_)
    ·have hb := of_decide_eq_true hb
     have := vl_less (B := 10000) (i := k - 1) (l := y) (m := x) hxb (by omega) (by omega) (by rw [hk1]; exact hdrop.symm) (by omega)
     refine xctl ?_
     refine xrg ?_
     refine xctl ?_
     refine xrt ?_
     rw [hr, cmpN, if_neg (by omega), if_neg (by omega)]
    ·have hb := of_decide_eq_false hb
     refine xctl ?_
     refine xrg ?_
     refine xctl ?_
     refine ⟨k - 1, _, by omega, Ent.env (less_put (less_put (less_put (less_un0 _) ?_) ?_) ?_), by omega, drop_step (by omega) (by omega) (by omega) (by rw [hk1]; exact hdrop), rfl⟩
     iterate 2 (· exact xlq)
     ·simp only [go_sem, Nat.reduceEqDiff, Nat.reduceAdd, Nat.reduceLT, Nat.reduceMul, Nat.reduceLeDiff, reduceCtorEq, Int.reduceNeg, Int.reduceToNat]
      rw [show ((k - 1 : Nat) : Int) = (k : Int) - 1 by omega]
  ·have hb := of_decide_eq_false hb
   refine xctl ?_
   refine xrg ?_
   refine xctl ?_
   refine xrt ?_
   have hk0 : k = 0 := by omega
   subst hk0
   have := hinj hdrop
   rw [hr, cmpN, if_neg (by omega), if_pos this]
theorem getD_out {l : List Int} {i : Nat} (h : l.length ≤ i) : l.getD i 0 = 0 := by
 rw [List.getD_eq_getElem?_getD, List.getElem?_eq_none h]; rfl
theorem add_stop {a b out : List Int} {i : Nat} {c : Int} (ha : ok 10000 a) (hb : ok 10000 b) (hl : out.length = i) (h1 : a.length < i) (h2 : b.length < i) (h : vl 10000 out + 10000 ^ i * c.toNat = vl 10000 (a.take i) + vl 10000 (b.take i)) : c.toNat = 0 := by
 have h3 := add_end (B := 10000) (by omega) ha hb h1 h2 (c := c.toNat) (by rw [List.take_of_length_le (by omega)]; exact h) hl
 rw [List.take_of_length_le (by omega), List.take_of_length_le (by omega)] at h
 have h4 : 10000 ^ i * c.toNat = 0 := by omega
 rcases Nat.mul_eq_zero.1 h4 with h5 | h5
 ·have : 0 < 10000 ^ i := Nat.pow_pos (by omega)
  omega
 ·exact h5
theorem pcr_radd (hG : Stable G) (X Y : Nat) (hX : (wd 10000 X).length < 100000) (hY : (wd 10000 Y).length < 100000) :
  PCr Tryz.prog G 208 [M X, M Y] (M (X + Y)) := by
 have ha := ok_wd (B := 10000) (by omega) X
 have hb := ok_wd (B := 10000) (by omega) Y
 have hva := vl_wd (B := 10000) (by omega) X
 have hvb := vl_wd (B := 10000) (by omega) Y
 rw [M, M]
 generalize wd 10000 X = a at *
 generalize wd 10000 Y = b at *
 refine pcr_byq ok208 hG (n := 43) (rv := [.tmp 4]) fun r hr => ?_; unfold c208 st0
 refine xctl ?_
 refine xrg ?_
 refine xctl ?_
 refine xrg ?_
 refine xctl ?_
 refine xrg ?_
 refine xctl ?_
 refine xrg ?_
 refine xctl ?_
 refine awp_loop (fun k σ => ∃ (i ver : Nat) (c : Int) (out : List Int), i ≤ max a.length b.length + 1 ∧ k = max a.length b.length + 1 - i ∧ out.length = i ∧ 0 ≤ c ∧ c ≤ 1 ∧ ok 10000 out ∧ vl 10000 out + 10000 ^ i * c.toNat = vl 10000 (a.take i) + vl 10000 (b.take i) ∧
   σ = ⟨(putE (putE (putE (putE (putE un0 (some 0) (.sl a.length (V a))) (some 1) (.sl b.length (V b))) (some 5) (.own 0 ver 0 i)) (some 6) (.int .i64 c)) (some 7) (.int .i64 i)), [some (ver, 3, 1, V out)]⟩) (max a.length b.length + 1)
  ((Ent.nils (s := 5) 3 1 (by simp only [go_sem, Nat.reduceEqDiff, Nat.reduceAdd, Nat.reduceLT, Nat.reduceMul, Nat.reduceLeDiff, reduceCtorEq, Int.reduceNeg, Int.reduceToNat])).trans (by simp) (Ent.env (less_put (less_put (less_put (less_put (less_put (less_un0 _) ?_) ?_) ?_) ?_) ?_))) ⟨0, 0, 0, [], by omega, by omega, rfl, by omega, by omega, ok_nil _, by simp [vl], rfl⟩ ?_
 iterate 5 (· exact xlq)
 rintro k σ1 ⟨i, ver, c, out, hi, rfl, hlo, hc0, hc1, hoo, heq, rfl⟩
 by_cases hgo : i < a.length ∨ (¬ i < a.length ∧ i < b.length) ∨ (¬ i < a.length ∧ ¬ i < b.length ∧ 0 < c)
 ·have hi1 : i ≤ max a.length b.length := by
   rcases Nat.lt_or_ge (max a.length b.length) i with h | h
   ·have := add_stop ha hb hlo (by omega) (by omega) heq
    omega
   ·exact h
  have ga := ok_get ha (by omega) i
  have gb := ok_get hb (by omega) i
  have hra := pcr_rat hG a a.length (i : Int) rfl ha (by omega) (by omega)
  have hrb := pcr_rat hG b b.length (i : Int) rfl hb (by omega) (by omega)
  rw [Int.toNat_natCast] at hra hrb
  have hst := add_step (B := 10000) (x := (a.getD i 0).toNat) (y := (b.getD i 0).toNat) heq
  rw [← vl_take_next, ← vl_take_next] at hst
  have hm : (a.getD i 0 + b.getD i 0 + c) % 10000 = ((c.toNat + ((a.getD i 0).toNat + (b.getD i 0).toNat)) % 10000 : Nat) := by omega
  have hd : ((a.getD i 0 + b.getD i 0 + c) / 10000).toNat = (c.toNat + ((a.getD i 0).toNat + (b.getD i 0).toNat)) / 10000 := by omega
  rw [← hd] at hst
  rcases hgo with hgo | hgo | hgo <;>
  (
   refine xctl ?_
   refine xrg ?_
   refine xctl ?_
   refine xct ?_
   refine xctl ?_
   refine xrg ?_; (refine xcf1 ?_; refine xcf (hra) rfl ?_)
   refine xrg ?_; (refine xcf1 ?_; refine xcf (hrb) rfl ?_)
   refine xrg ?_
   refine xctl ?_
   refine xrg ?_
   refine xctl ?_
   refine xrg ?_
   refine xctl ?_
   refine xrg ?_
   refine xctl ?_
   refine ⟨max a.length b.length + 1 - (i + 1), _, by omega, (Ent.cutk 1 (less_put (less_put (less_put (less_put (less_put (less_un0 _) ?_) ?_) ?_) ?_) ?_) (by exact ⟨.inr rfl, trivial⟩) (kb_put (kb_put (kb_put (kb_put (kb_put (kb_un0 _) (by simp [kb])) (by simp [kb])) (by simp [kb])) (by simp [kb])) (by simp [kb])) (by simp [kbH, kb.kbs, kb, kbs_W, kbs_SS, kbs_V])), i + 1, ver + 1, (a.getD i 0 + b.getD i 0 + c) / 10000, out ++ [(a.getD i 0 + b.getD i 0 + c) % 10000], by omega, rfl, by simp; omega, by omega, by omega, ok_append.2 ⟨hoo, fun x hx => by simp at hx; omega⟩, ?_, rfl⟩
   iterate 5 (· exact xlq)
   rw [vl_append, hlo, vl_cons, vl_nil, hm, Int.toNat_natCast, Nat.mul_zero, Nat.add_zero]
   exact hst )
 ·have h1 : ¬ i < a.length := fun h => hgo (.inl h)
  have h2 : ¬ i < b.length := fun h => hgo (.inr (.inl ⟨h1, h⟩))
  have h3 : ¬ 0 < c := fun h => hgo (.inr (.inr ⟨h1, h2, h⟩))
  have hc : c = 0 := by omega
  subst hc
  rw [List.take_of_length_le (by omega), List.take_of_length_le (by omega), hva, hvb] at heq
  have heq' : vl 10000 out = X + Y := by simpa using heq
  have htr := pcr_rtrim hG out i hlo.symm hoo (by omega)
  rw [heq'] at htr
  refine xctl ?_
  refine xrg ?_
  refine xctl ?_
  refine xcF ?_
  refine xctl ?_
  refine xrg ?_; (refine xca1 ?_; refine xca (htr) ?_)
  refine xrg ?_
  refine xctl ?_
  refine xrt ?_
  exact hr.symm
end Go.Proofs.YtgdbkigaaooifaaGreatDoorK.RefT
/-
 The document's Mul, Words, Pow: what they compute.
-/
namespace Go.Proofs.YtgdbkigaaooifaaGreatDoorK.RefT
open AI NatIr Dig NatT
attribute [local irreducible] awp awpOps
attribute [local go_sem] V_getD V_set V_take V_drop V_imm V_one V_app V_app1 V_repl V_get1 V_length M List.length_append
variable {G : World → Prop}
theorem zt_mono {l : List Int} {n m : Nat} (h : zt l n) (hnm : n ≤ m) : zt l m := fun j hj => h j (by omega)
theorem pcr_rmul (hG : Stable G) (X Y : Nat) (hX : (wd 10000 X).length < 100000) (hY : (wd 10000 Y).length < 100000) :
  PCr Tryz.prog G 182 [M X, M Y] (M (X * Y)) := by
 have ha := ok_wd (B := 10000) (by omega) X
 have hb := ok_wd (B := 10000) (by omega) Y
 have hva := vl_wd (B := 10000) (by omega) X
 have hvb := vl_wd (B := 10000) (by omega) Y
 rw [M, M]
 generalize wd 10000 X = a at *
 generalize wd 10000 Y = b at *
 refine pcr_byq ok182 hG (n := 61) (rv := [.tmp 4]) fun r hr => ?_; unfold c182 st0
 refine xctl ?_
 refine xrg ?_
 refine xctl ?_
 refine xrg ?_
 refine xctl ?_
 refine xrg ?_
 refine xctl ?_
 refine awp_loop (fun k σ => ∃ (i : Nat) (out : List Int), i ≤ a.length ∧ k = a.length - i ∧ out.length = a.length + b.length + 1 ∧ ok 10000 out ∧ zt out (i + b.length) ∧ vl 10000 out = vl 10000 (a.take i) * vl 10000 b ∧
   σ = ⟨(putE (putE (putE (putE un0 (some 0) (.sl a.length (V a))) (some 1) (.sl b.length (V b))) (some 5) (.own 0 0 0 (a.length + b.length + 1))) (some 6) (.int .i64 i)), [some (0, 3, 1, V out)]⟩) a.length
  (Ent.env (less_put (less_put (less_put (less_put (less_un0 _) ?_) ?_) ?_) ?_)) ⟨0, List.replicate (a.length + b.length + 1) 0, by omega, rfl, by simp, ok_replicate (by omega) _, zt_replicate _ _, by simp [vl, vl_replicate], rfl⟩ ?_
 iterate 2 (· exact xlq)
 ·simp only [go_sem, Nat.reduceEqDiff, Nat.reduceAdd, Nat.reduceLT, Nat.reduceMul, Nat.reduceLeDiff, reduceCtorEq, Int.reduceNeg, Int.reduceToNat]
  rfl
 iterate 1 (· exact xlq)
 rintro k σ1 ⟨i, out, hi, rfl, hlo, hoo, hz, heq, rfl⟩
 refine xctl ?_
 refine xrg ?_
 refine xctl ?_
 refine xcs (fun hb => ?_) (fun hb => ?_)
 ·have hb' := of_decide_eq_true hb
  have ga := ok_get ha (by omega) i
  refine xctl ?_
  refine xrg ?_
  refine xctl ?_
  refine xrg ?_
  refine xctl ?_
  refine awp_loop (fun k σ => ∃ (j : Nat) (out' : List Int) (c : Int), j ≤ b.length + 1 ∧ k = b.length + 1 - j ∧ out'.length = a.length + b.length + 1 ∧ ok 10000 out' ∧ zt out' (i + max b.length j) ∧ 0 ≤ c ∧ c < 10000 ∧ (j = b.length + 1 → c = 0) ∧
     vl 10000 out' + 10000 ^ (i + j) * c.toNat = vl 10000 out + 10000 ^ i * ((a.getD i 0).toNat * vl 10000 (b.take j)) ∧
    σ = ⟨(putE (putE (putE (putE (putE (putE un0 (some 0) (.sl a.length (V a))) (some 1) (.sl b.length (V b))) (some 5) (.own 0 0 0 (a.length + b.length + 1))) (some 6) (.int .i64 i)) (some 7) (.int .i64 c)) (some 8) (.int .i64 j)), [some (0, 3, 1, V out')]⟩) (b.length + 1)
   (Ent.env (less_put (less_put (less_put (less_put (less_put (less_put (less_un0 _) ?_) ?_) ?_) ?_) ?_) ?_)) ⟨0, out, 0, by omega, rfl, hlo, hoo, by rw [Nat.max_eq_left (by omega)]; exact hz, by omega, by omega, fun _ => rfl, by simp [vl], rfl⟩ ?_
  iterate 6 (· exact xlq)
  rintro k σ1 ⟨j, out', c, hj, rfl, hlo', hoo', hz', hc0, hc1, hce, heq', rfl⟩
  by_cases hgo : j < b.length ∨ (¬ j < b.length ∧ 0 < c)
  ·have hj1 : j ≤ b.length := by omega
   have gb := ok_get (by assumption : ok 10000 b) (by omega) j
   have go := ok_get hoo' (by omega) (i + j)
   have hrb := pcr_rat hG b b.length (j : Int) rfl (by assumption) (by omega) (by omega)
   rw [Int.toNat_natCast] at hrb
   have hxy := mul_bound (x := a.getD i 0) (y := b.getD j 0) (n := 9999) (by omega) (by omega)
   have hset := vl_setw 10000 out' (i + j) ((out'.getD (i + j) 0 + a.getD i 0 * b.getD j 0 + c) % 10000) (by omega)
   have en : (out'.getD (i + j) 0 + a.getD i 0 * b.getD j 0 + c).toNat = c.toNat + ((a.getD i 0).toNat * (b.getD j 0).toNat + (out'.getD (i + j) 0).toNat) := by
    rw [Int.toNat_add (by omega) (by omega), Int.toNat_add (by omega) (by omega), Int.toNat_mul (by omega) (by omega)]
    omega
   have emod : ((out'.getD (i + j) 0 + a.getD i 0 * b.getD j 0 + c) % 10000).toNat = (c.toNat + ((a.getD i 0).toNat * (b.getD j 0).toNat + (out'.getD (i + j) 0).toNat)) % 10000 := by omega
   have ediv : ((out'.getD (i + j) 0 + a.getD i 0 * b.getD j 0 + c) / 10000).toNat = (c.toNat + ((a.getD i 0).toNat * (b.getD j 0).toNat + (out'.getD (i + j) 0).toNat)) / 10000 := by omega
   have hst := mul_step (B := 10000) (O' := vl 10000 (out'.set (i + j) ((out'.getD (i + j) 0 + a.getD i 0 * b.getD j 0 + c) % 10000))) (y := (b.getD j 0).toNat) (o := (out'.getD (i + j) 0).toNat) heq' (by rw [hset, emod])
   have hlast : j = b.length → a.getD i 0 * b.getD j 0 = 0 ∧ out'.getD (i + j) 0 = 0 := fun h => by
    subst h
    rw [getD_out (Nat.le_refl _), Int.mul_zero]
    exact ⟨rfl, hz' _ (by omega)⟩
   have hz2 : zt (out'.set (i + j) ((out'.getD (i + j) 0 + a.getD i 0 * b.getD j 0 + c) % 10000)) (i + max b.length (j + 1)) := by
    rcases Nat.lt_or_ge j b.length with h | h
    ·rw [Nat.max_eq_left (by omega)] at hz' ⊢
     exact zt_set hz' (by omega) _
    ·have hjb : j = b.length := by omega
     rw [Nat.max_eq_right (by omega)] at hz' ⊢
     exact zt_next hz' _
   generalize hP : a.getD i 0 * b.getD j 0 = P at *
   rcases hgo with hgo | hgo <;>
   (
    refine xctl ?_
    refine xrg ?_
    refine xctl ?_
    refine xct ?_
    refine xctl ?_
    refine xrg ?_; (refine xcf1 ?_; refine xcf (hrb) rfl ?_)
    refine ops_sym (by simp (disch := omega) only [go_sem, Nat.reduceEqDiff, Nat.reduceAdd, Nat.reduceLT, Nat.reduceMul, Nat.reduceLeDiff, reduceCtorEq, Int.reduceNeg, Int.reduceToNat, hP]; rfl) (by first | with_reducible exact True.intro | omega) ?_
    refine xctl ?_
    refine xdr ?_
    refine xctl ?_
    refine xrg ?_
    refine xctl ?_
    refine xrg ?_
    refine xctl ?_
    refine xrg ?_
    refine xctl ?_
    refine ⟨b.length + 1 - (j + 1), _, by omega, Ent.env (less_put (less_put (less_put (less_put (less_put (less_put (less_un0 _) ?_) ?_) ?_) ?_) ?_) ?_), j + 1, out'.set (i + j) ((out'.getD (i + j) 0 + P + c) % 10000), (out'.getD (i + j) 0 + P + c) / 10000, by omega, rfl, by simp [hlo'], ok_set hoo' _ (by omega), hz2, by omega, by omega, by intro h; have := hlast (by omega); omega, ?_, rfl⟩
    iterate 6 (· exact xlq)
    rw [ediv, vl_take_next _ b]
    exact hst )
  ·have h1 : ¬ j < b.length := fun h => hgo (.inl h)
   have h3 : ¬ 0 < c := fun h => hgo (.inr ⟨h1, h⟩)
   have hc : c = 0 := by omega
   subst hc
   rw [List.take_of_length_le (by omega)] at heq'
   have heq2 : vl 10000 out' = vl 10000 out + 10000 ^ i * ((a.getD i 0).toNat * vl 10000 b) := by simpa using heq'
   refine xctl ?_
   refine xrg ?_
   refine xctl ?_
   refine xcF ?_
   refine xctl ?_
   refine xrg ?_
   refine xctl ?_
   refine ⟨a.length - (i + 1), _, by omega, Ent.env (less_put (less_put (less_put (less_put (less_un0 _) ?_) ?_) ?_) ?_), i + 1, out', by omega, rfl, hlo', hoo', zt_mono hz' (by omega), ?_, rfl⟩
   iterate 4 (· exact xlq)
   rw [heq2, heq, vl_take_next, Nat.add_mul, Nat.mul_assoc]
 ·have hb' := of_decide_eq_false hb
  have hi2 : i = a.length := by omega
  subst hi2
  rw [List.take_length, hva, hvb] at heq
  have htr := pcr_rtrim hG out _ hlo.symm hoo (by omega)
  rw [heq] at htr
  refine xctl ?_
  refine xrg ?_
  refine xctl ?_
  refine xrg ?_; (refine xca1 ?_; refine xca (htr) ?_)
  refine xrg ?_
  refine xctl ?_
  refine xrt ?_
  exact hr.symm
end Go.Proofs.YtgdbkigaaooifaaGreatDoorK.RefT
/-
 The document's Words, Pow: what they compute.
-/
namespace Go.Proofs.YtgdbkigaaooifaaGreatDoorK.RefT
open AI NatIr Dig NatT
attribute [local irreducible] awp awpOps
attribute [local go_sem] V_getD V_set V_take V_drop V_imm V_one V_app V_app1 V_repl V_get1 V_length M List.length_append
variable {G : World → Prop}
theorem wd4_len {X n : Nat} (h : X < 4294967296 ^ n) : (wd 10000 X).length ≤ 3 * n := by
 refine wd_length_le (by omega) (Nat.lt_of_lt_of_le h ?_)
 rw [Nat.pow_mul]
 exact Nat.pow_le_pow_left (by decide) n
end Go.Proofs.YtgdbkigaaooifaaGreatDoorK.RefT
