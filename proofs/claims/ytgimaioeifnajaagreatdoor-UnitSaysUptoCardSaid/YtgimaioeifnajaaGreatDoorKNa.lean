/-
  Joined: Trim, NatA, CmpN, AddN, SubN, MulN, SmallN, ShiftN.
-/
import Derived.Test.YtgimaioeifnajaaGreatDoorKIrNat
import Derived.Test.YtgimaioeifnajaaGreatDoorKP
import Derived.Test.YtgimaioeifnajaaGreatDoorKAc
set_option linter.all false
set_option maxHeartbeats 4000000
/-
  nat.trim: what it computes.
-/
namespace Go.Proofs.YtgimaioeifnajaaGreatDoorK.NatT
open AI NatIr Dig
attribute [local irreducible] awp awpOps
variable {G : World → Prop}
theorem getD_last {l : List Int} (h : l ≠ []) : l.getLast? = some (l.getD (l.length - 1) 0) := by
  rw [List.getLast?_eq_getElem?, List.getD_eq_getElem?_getD]
  have : l.length - 1 < l.length := by have := List.length_pos_iff.2 h; omega
  rw [List.getElem?_eq_getElem this]; rfl
theorem vl_dropLast {l : List Int} (h : l ≠ []) (h0 : l.getD (l.length - 1) 0 = 0) (B : Nat) : vl B (l.take (l.length - 1)) = vl B l := by
  have hp := List.length_pos_iff.2 h
  have := vl_take_succ B l (l.length - 1) (by omega)
  rw [show l.length - 1 + 1 = l.length by omega, List.take_length, h0] at this
  simpa using this.symm
theorem pcr_trim (hG : Stable G) (ds : List Int) (n : Nat) (hn : n = ds.length) (hok : ok 4294967296 ds) (hlen : ds.length < 1000000) : PCr Tryz.prog G 38 [.sl n (W ds)] (N (vl 4294967296 ds)) := by
  subst hn
  refine pcr_byq ok38 hG (n := 22) (rv := [.cell 2 true 1]) fun r hr => ?_; unfold c38 st0
  refine xctl ?_
  refine xrg ?_
  refine xctl ?_
  refine awp_loop (fun n σ => ∃ ds' : List Int, ds'.length ≤ ds.length ∧ ok 4294967296 ds' ∧ vl 4294967296 ds' = vl 4294967296 ds ∧ n = ds'.length ∧ σ = ⟨putE (putE un0 (some 2) (.ptr 0 0 0)) (some 0) (.sl ds'.length (W ds')), [some (0, 50, 1, [D.nils])]⟩) ds.length (Ent.env (less_put (less_put (less_un0 _) ?_) ?_)) ⟨ds, Nat.le_refl _, hok, rfl, rfl, rfl⟩ ?_
  · exact xlq
  · exact xlq
  · rintro n σ1 ⟨ds', hle, hok', hvl, rfl, rfl⟩
    by_cases h0 : ds' = []
    · subst h0
      refine xctl ?_
      refine xrg ?_
      refine xctl ?_
      refine xcF ?_
      refine xctl ?_
      refine xrg ?_
      refine xctl ?_
      refine xrt ?_
      rw [hr, ← hvl, N, vl_nil, wd_zero]; rfl
    · have hp := List.length_pos_iff.2 h0
      refine xctl ?_
      refine xrg ?_
      refine xctl ?_
      refine xcs (fun hb => ?_) (fun hb => ?_)
      · have hb := of_decide_eq_true hb
        refine xctl ?_
        refine xrg ?_
        refine xctl ?_
        refine ⟨ds'.length - 1, _, by omega, Ent.env (less_put (less_put (less_un0 _) ?_) ?_), ds'.take (ds'.length - 1), ?_, ok_take hok' _, ?_, ?_, rfl⟩
        · exact xlq
        · simp (disch := omega) only [go_sem, Nat.reduceEqDiff, Nat.reduceAdd, Nat.reduceLT, Nat.reduceMul, Nat.reduceLeDiff, reduceCtorEq, Int.reduceNeg, Int.reduceToNat]
          simp (disch := omega) only [List.length_take, Nat.min_eq_left]
        · simp; omega
        · rw [vl_dropLast h0 hb, hvl]
        · simp
      · have hb := of_decide_eq_false hb
        refine xctl ?_
        refine xrg ?_
        refine xctl ?_
        refine xrt ?_
        rw [hr, ← hvl, N, ← eq_wd (by omega) hok' (fun x hx => by rw [getD_last h0] at hx; cases hx; exact hb)]
end Go.Proofs.YtgimaioeifnajaaGreatDoorK.NatT
/-
  nat.order, at, Good, Of, Low: what they compute.
-/
namespace Go.Proofs.YtgimaioeifnajaaGreatDoorK.NatT
open AI NatIr Dig
attribute [local irreducible] awp awpOps
variable {G : World → Prop}
theorem pcr_order (hG : Stable G) (b : Bool) : PCr Tryz.prog G 74 [.bool b] (.int .i64 (if b then -1 else 1)) := by
  refine pcr_byq ok74 hG (n := 4) (rv := [.tmp 2]) fun r hr => ?_; unfold c74 st0
  refine xctl ?_
  refine xrg ?_
  refine xctl ?_
  refine xrg ?_
  refine xctl ?_
  refine xcs (fun hb => ?_) (fun hb => ?_)
  · refine xctl ?_
    refine xrg ?_
    refine xctl ?_
    refine xrt ?_
    rw [hr, hb]; rfl
  · refine xctl ?_
    refine xrg ?_
    refine xctl ?_
    refine xrt ?_
    rw [hr, hb]; rfl
theorem pcr_at (hG : Stable G) (l : List Int) (n : Nat) (i : Int) (hn : n = l.length) (hok : ok 4294967296 l) (hi : 0 ≤ i) (hl : l.length < 1000000) : PCr Tryz.prog G 69 [.sl n (W l), .int .i64 i] (.int .u64 (l.getD i.toNat 0)) := by
  subst hn
  refine pcr_byq ok69 hG (n := 14) (rv := [.tmp 4]) fun r hr => ?_; unfold c69 st0
  refine xctl ?_
  refine xrg ?_
  refine xctl ?_
  refine xrg ?_
  refine xctl ?_
  refine xcs (fun hb => ?_) (fun hb => ?_)
  · have hb := of_decide_eq_true hb
    have hv := ok_get hok (by omega) i.toNat
    refine xctl ?_
    refine xrg ?_
    refine xctl ?_
    refine xrt ?_
    rw [hr]
  · have hb := of_decide_eq_false hb
    refine xctl ?_
    refine xrg ?_
    refine xctl ?_
    refine xrt ?_
    rw [hr, List.getD_eq_getElem?_getD, List.getElem?_eq_none (by omega)]; rfl
theorem pcr_good (hG : Stable G) (l : List Int) (n : Nat) (hn : n = l.length) (hl : l.length < 1000000) : PCr Tryz.prog G 19 [.agg [.sl n (W l)]] (.bool (decide (l = []) || decide (l.getD (l.length - 1) 0 ≠ 0))) := by
  subst hn
  refine pcr_byq ok19 hG (n := 18) (rv := [.tmp 2]) fun r hr => ?_; unfold c19 st0
  refine xctl ?_
  refine xrg ?_
  by_cases h0 : l = []
  · subst h0
    refine xctl ?_
    refine xrg ?_
    refine xctl ?_
    refine xrt ?_
    rw [hr]; rfl
  · have hp := List.length_pos_iff.2 h0
    refine xctl ?_
    refine xrg ?_
    refine xctl ?_
    refine xrt ?_
    rw [hr, decide_eq_false h0]; rfl
theorem pcr_of (hG : Stable G) (n : Nat) (hn : n < 18446744073709551616) : PCr Tryz.prog G 23 [.int .u64 n] (N n) := by
  refine pcr_byq ok23 hG (n := 10) (rv := [.cell 2 true 1]) fun r hr => ?_; unfold c23 st0
  refine xctl ?_
  refine xrg ?_
  refine xctl ?_
  refine xrg ?_
  refine xca1 ?_; refine xca (pcr_trim hG [(n : Int) % 4294967296, (n : Int) / 4294967296] 2 rfl (fun x hx => by simp at hx; omega) (by simp)) ?_
  refine xrg ?_
  refine xctl ?_
  refine xrt ?_
  rw [hr, show vl 4294967296 [(n : Int) % 4294967296, (n : Int) / 4294967296] = n by simp [vl]; omega]; rfl
end Go.Proofs.YtgimaioeifnajaaGreatDoorK.NatT
/-
  nat.Cmp: what it computes.
-/
namespace Go.Proofs.YtgimaioeifnajaaGreatDoorK.NatT
open AI NatIr Dig
attribute [local irreducible] awp awpOps
variable {G : World → Prop}
theorem wd_len_small {l : List Int} (hok : ok 4294967296 l) : (wd 4294967296 (vl 4294967296 l)).length ≤ l.length := wd_length_le (by omega) (vl_lt hok)
theorem pcr_cmp (hG : Stable G) (a b : List Int) (n m : Nat) (hn : n = a.length) (hm : m = b.length) (ha : ok 4294967296 a) (hb : ok 4294967296 b) (hla : a.length < 1000000) (hlb : b.length < 1000000) :
    PCr Tryz.prog G 44 [.agg [.sl n (W a)], .agg [.sl m (W b)]] (.int .i64 (cmpN (vl 4294967296 a) (vl 4294967296 b))) := by
  refine pcr_byq ok44 hG (n := 53) (rv := [.tmp 4]) fun r hr => ?_; unfold c44 st0
  refine xctl ?_
  refine xrg ?_
  refine xctl ?_
  refine xrg ?_
  refine xca1 ?_; refine xca (pcr_trim hG a n hn ha hla) ?_
  refine xrg ?_
  refine xca1 ?_; refine xca (pcr_trim hG b m hm hb hlb) ?_
  refine xrg ?_
  refine xctl ?_
  refine xdr ?_
  refine xctl ?_
  have hxa := ok_wd (B := 4294967296) (by omega) (vl 4294967296 a)
  have hxb := ok_wd (B := 4294967296) (by omega) (vl 4294967296 b)
  have hva := vl_wd (B := 4294967296) (by omega) (vl 4294967296 a)
  have hvb := vl_wd (B := 4294967296) (by omega) (vl 4294967296 b)
  have h1 := wd_len_small ha
  have h2 := wd_len_small hb
  have hless := @wd_less 4294967296 (by omega) (vl 4294967296 a) (vl 4294967296 b)
  have hless' := @wd_less 4294967296 (by omega) (vl 4294967296 b) (vl 4294967296 a)
  have hinj := @wd_inj 4294967296 (by omega) (vl 4294967296 a) (vl 4294967296 b)
  generalize wd 4294967296 (vl 4294967296 a) = x at *
  generalize wd 4294967296 (vl 4294967296 b) = y at *
  have hlx : x.length < 1000000 := by omega
  have hly : y.length < 1000000 := by omega
  refine xrg ?_
  refine xctl ?_
  refine xcs (fun hb => ?_) (fun hb => ?_)
  · have hb := of_decide_eq_true hb
    refine xctl ?_
    refine xrg ?_
    refine xcf1 ?_; refine xcf (pcr_order hG _) rfl ?_
    refine xrg ?_
    refine xctl ?_
    refine xrt ?_
    rw [hr, cmpN]
    by_cases hlt : x.length < y.length
    · rw [if_pos (hless hlt), if_pos (by simpa using hlt)]
    · have := hless' (by omega)
      rw [if_neg (show ¬ vl 4294967296 a < vl 4294967296 b by omega), if_neg (show ¬ vl 4294967296 a = vl 4294967296 b by omega), if_neg (by simpa using hlt)]
  · have hb := of_decide_eq_false hb
    have hlen : y.length = x.length := by omega
    refine xctl ?_
    refine xrg ?_
    refine xctl ?_
    refine awp_loop (fun n σ => n ≤ x.length ∧ x.drop n = y.drop n ∧ σ = ⟨putE (putE (putE un0 (some 5) (.sl x.length (W x))) (some 6) (.sl y.length (W y))) (some 7) (.int .i64 ((n : Int) - 1)), [none, none]⟩) x.length (Ent.st (less_put (less_put (less_put (less_un0 _) ?_) ?_) ?_) (by exact ⟨.inl rfl, .inl rfl, trivial⟩)) ⟨Nat.le_refl _, by rw [List.drop_length, ← hlen, List.drop_length], rfl⟩ ?_
    · exact xlq
    · exact xlq
    · exact xlq
    · rintro k σ1 ⟨hk, hdrop, rfl⟩
      refine xctl ?_
      refine xrg ?_
      refine xctl ?_
      refine xcs (fun hb => ?_) (fun hb => ?_)
      · have hb := of_decide_eq_true hb
        have hk1 : k - 1 + 1 = k := by omega
        have gx := ok_get hxa (by omega) (k - 1)
        have gy := ok_get hxb (by omega) (k - 1)
        refine xctl ?_
        refine xrg ?_
        refine xctl ?_
        refine xdr ?_
        refine xctl ?_
        refine xcs (fun hb => ?_) (fun hb => ?_)
        · have hb := of_decide_eq_true hb
          refine xctl ?_
          refine xrg ?_
          refine xcf1 ?_; refine xcf (pcr_order hG _) rfl ?_
          refine xrg ?_
          refine xctl ?_
          refine xdr ?_
          refine xctl ?_
          refine xrt ?_
          rw [hr, cmpN]
          by_cases hlt : x.getD (k - 1) 0 < y.getD (k - 1) 0
          · have := vl_less (B := 4294967296) (i := k - 1) (l := x) (m := y) hxa (by omega) (by omega) (by rw [hk1]; exact hdrop) (by omega)
            rw [if_pos (show vl 4294967296 a < vl 4294967296 b by omega), if_pos (decide_eq_true hlt)]
          · have := vl_less (B := 4294967296) (i := k - 1) (l := y) (m := x) hxb (by omega) (by omega) (by rw [hk1]; exact hdrop.symm) (by omega)
            rw [if_neg (show ¬ vl 4294967296 a < vl 4294967296 b by omega), if_neg (show ¬ vl 4294967296 a = vl 4294967296 b by omega), if_neg (by rw [decide_eq_true_eq]; exact hlt)]
        · have hb := of_decide_eq_false hb
          refine xctl ?_
          refine xrg ?_
          refine xctl ?_
          refine ⟨k - 1, _, by omega, Ent.env (less_put (less_put (less_put (less_un0 _) ?_) ?_) ?_), by omega, drop_step (by omega) (by omega) (by simpa using hb) (by rw [hk1]; exact hdrop), rfl⟩
          · exact xlq
          · exact xlq
          · simp only [go_sem, Nat.reduceEqDiff, Nat.reduceAdd, Nat.reduceLT, Nat.reduceMul, Nat.reduceLeDiff, reduceCtorEq, Int.reduceNeg, Int.reduceToNat]
            rw [show ((k - 1 : Nat) : Int) = (k : Int) - 1 by omega]
      · have hb := of_decide_eq_false hb
        refine xctl ?_
        refine xrg ?_
        refine xctl ?_
        refine xrt ?_
        have hk0 : k = 0 := by omega
        subst hk0
        have := hinj hdrop
        rw [hr, cmpN, if_neg (by omega), if_pos this]
end Go.Proofs.YtgimaioeifnajaaGreatDoorK.NatT
/-
  nat.Add: what it computes.
-/
namespace Go.Proofs.YtgimaioeifnajaaGreatDoorK.NatT
open AI NatIr Dig
attribute [local irreducible] awp awpOps
variable {G : World → Prop}
theorem pcr_add (hG : Stable G) (a b : List Int) (n m : Nat) (hn : n = a.length) (hm : m = b.length) (ha : ok 4294967296 a) (hb : ok 4294967296 b) (hla : a.length < 500000) (hlb : b.length < 500000) :
    PCr Tryz.prog G 37 [.agg [.sl n (W a)], .agg [.sl m (W b)]] (N (vl 4294967296 a + vl 4294967296 b)) := by
  refine pcr_byq ok37 hG (n := 43) (rv := [.cell 4 true 1]) fun r hr => ?_; unfold c37 st0
  refine xctl ?_
  refine xrg ?_
  refine xctl ?_
  refine xrg ?_
  refine xctl ?_
  refine xrg ?_
  refine xctl ?_
  refine xrg ?_
  refine xctl ?_
  subst hn hm
  generalize hN : max a.length b.length + 1 = N0
  refine awp_loop (fun k σ => ∃ (i : Nat) (out : List Int) (c : Int), i ≤ N0 ∧ k = N0 - i ∧ out.length = N0 ∧ ok 4294967296 out ∧ 0 ≤ c ∧ c ≤ 1 ∧ vl 4294967296 (out.take i) + 4294967296 ^ i * c.toNat = vl 4294967296 (a.take i) + vl 4294967296 (b.take i) ∧
      σ = ⟨putE (putE (putE (putE (putE (putE (putE un0 (some 2) (.ptr 0 0 0)) (some 3) (.ptr 1 0 0)) (some 4) (.ptr 2 0 0)) (some 5) (.own 3 0 0 N0)) (some 6) (.int .u64 c)) (some 18) (.int .i64 N0)) (some 19) (.int .i64 i),
        [some (0, 50, 1, [.sl a.length (W a)]), some (0, 50, 1, [.sl b.length (W b)]), some (0, 50, 1, [.nils]), some (0, 79, 1, W out)]⟩) N0
    (Ent.env (less_put (less_put (less_put (less_put (less_put (less_put (less_put (less_un0 _) ?_) ?_) ?_) ?_) ?_) ?_) ?_)) ⟨0, List.replicate N0 0, 0, by omega, rfl, by simp, ok_replicate (by omega) _, by omega, by omega, by simp [vl], rfl⟩ ?_
  · exact xlq
  · exact xlq
  · exact xlq
  · exact xlq
  · exact xlq
  · simp only [go_sem, Nat.reduceEqDiff, Nat.reduceAdd, Nat.reduceLT, Nat.reduceMul, Nat.reduceLeDiff, reduceCtorEq, Int.reduceNeg, Int.reduceToNat]
    rw [← hN, cast_succ]
  · exact xlq
  · rintro k σ1 ⟨i, out, c, hi, rfl, hlo, hoo, hc0, hc1, heq, rfl⟩
    have hNs : N0 < 500001 := by omega
    refine xctl ?_
    refine xrg ?_
    refine xctl ?_
    refine xcs (fun hb => ?_) (fun hb => ?_)
    · have hb' := of_decide_eq_true hb
      have ga := ok_get ha (by omega) i
      have gb := ok_get (by assumption : ok 4294967296 b) (by omega) i
      refine xctl ?_
      refine xrg ?_
      refine xctl ?_
      refine xrg ?_
      refine xcf1 ?_; refine xcf (pcr_at hG a _ _ rfl ha (by omega) (by omega)) rfl ?_
      refine xrg ?_
      refine xcf1 ?_; refine xcf (pcr_at hG b _ _ rfl (by assumption) (by omega) (by omega)) rfl ?_
      refine xrg ?_
      refine xctl ?_
      refine xdr ?_
      refine xctl ?_
      refine xrg ?_
      refine xctl ?_
      refine xrg ?_
      refine xctl ?_
      refine xrg ?_
      refine xctl ?_
      have hs1 := add_step (B := 4294967296) (x := (a.getD i 0).toNat) (y := (b.getD i 0).toNat) heq
      have e1 : ((c + (a.getD i 0 + b.getD i 0)) % 4294967296).toNat = (c.toNat + ((a.getD i 0).toNat + (b.getD i 0).toNat)) % 4294967296 := by omega
      have e2 : ((c + (a.getD i 0 + b.getD i 0)) / 4294967296).toNat = (c.toNat + ((a.getD i 0).toNat + (b.getD i 0).toNat)) / 4294967296 := by omega
      refine ⟨N0 - (i + 1), _, by omega, Ent.env (less_put (less_put (less_put (less_put (less_put (less_put (less_put (less_un0 _) ?_) ?_) ?_) ?_) ?_) ?_) ?_), i + 1, out.set i ((c + (a.getD i 0 + b.getD i 0)) % 4294967296), (c + (a.getD i 0 + b.getD i 0)) / 4294967296, by omega, rfl, by simp [hlo], ok_set hoo _ (by omega), by omega, by omega, ?_, rfl⟩
      · exact xlq
      · exact xlq
      · exact xlq
      · exact xlq
      · exact xlq
      · exact xlq
      · exact xlq
      · rw [vl_set _ _ _ _ (by omega), vl_take_next _ a, vl_take_next _ b, e1, e2]
        exact hs1
    · have hb' := of_decide_eq_false hb
      have hiN : i = N0 := by omega
      subst hiN
      have hsum := add_end (B := 4294967296) (by omega) ha (by assumption) (by omega) (by omega) heq hlo
      refine xctl ?_
      refine xrg ?_
      refine xca1 ?_; refine xca (pcr_trim hG out i hlo.symm hoo (by omega)) ?_
      refine xrg ?_
      refine xctl ?_
      refine xrt ?_
      rw [hr, hsum]; rfl
end Go.Proofs.YtgimaioeifnajaaGreatDoorK.NatT
/-
  nat.Sub: what it computes.
-/
namespace Go.Proofs.YtgimaioeifnajaaGreatDoorK.NatT
open AI NatIr Dig
attribute [local irreducible] awp awpOps
variable {G : World → Prop}
end Go.Proofs.YtgimaioeifnajaaGreatDoorK.NatT
/-
  nat.Mul: what it computes.
-/
namespace Go.Proofs.YtgimaioeifnajaaGreatDoorK.NatT
open AI NatIr Dig
attribute [local irreducible] awp awpOps
variable {G : World → Prop}
end Go.Proofs.YtgimaioeifnajaaGreatDoorK.NatT
/-
  nat.small: what it computes.
-/
namespace Go.Proofs.YtgimaioeifnajaaGreatDoorK.NatT
open AI NatIr Dig
attribute [local irreducible] awp awpOps
variable {G : World → Prop}
theorem pcr_small (hG : Stable G) (l : List Int) (d : Nat) (n : Nat) (hn : n = l.length) (hd0 : 0 < d) (hd : d < 4294967296) (hok : ok 4294967296 l) (hl : l.length < 1000000) :
    PCr Tryz.prog G 39 [.sl n (W l), .int .u32 d] (.tup [.sl n (W (sdiv 4294967296 d l).1), .int .u32 (sdiv 4294967296 d l).2]) := by
  subst hn
  refine pcr_byq ok39 hG (n := 42) (rv := [.tmp 4, .tmp 5]) fun r hr => ?_; unfold c39 st0
  refine xctl ?_
  refine xrg ?_
  refine xctl ?_
  refine xrg ?_
  refine xctl ?_
  refine xrg ?_
  refine xctl ?_
  refine xrg ?_
  refine xctl ?_
  refine awp_loop (fun i σ => ∃ (out : List Int), i ≤ l.length ∧ out.length = l.length ∧ out.drop i = (sdiv 4294967296 d (l.drop i)).1 ∧
      σ = ⟨(putE (putE (putE (putE (putE un0 (some 0) (.sl l.length (W l))) (some 1) (.int .u32 d)) (some 6) (.own 0 0 0 l.length)) (some 7) (.int .u64 (sdiv 4294967296 d (l.drop i)).2)) (some 8) (.int .i64 ((i : Int) - 1))),
        [some (0, 79, 1, W out)]⟩) l.length
    (Ent.env (less_put (less_put (less_put (less_put (less_put (less_un0 _) ?_) ?_) ?_) ?_) ?_)) ⟨List.replicate l.length 0, by omega, by simp, by simp [sdiv], rfl⟩ ?_
  iterate 3 (· exact xlq)
  · simp only [go_sem, Nat.reduceEqDiff, Nat.reduceAdd, Nat.reduceLT, Nat.reduceMul, Nat.reduceLeDiff, reduceCtorEq, Int.reduceNeg, Int.reduceToNat]
    rw [List.drop_length]; rfl
  iterate 1 (· exact xlq)
  rintro i σ1 ⟨out, hi, hlo, heq, rfl⟩
  refine xctl ?_
  refine xrg ?_
  refine xctl ?_
  refine xcs (fun hb => ?_) (fun hb => ?_)
  · have hb' := of_decide_eq_true hb
    have hi1 : i - 1 < l.length := by omega
    have gl := ok_get hok (by omega) (i - 1)
    have hr1 := sdiv_lt (B := 4294967296) hd0 (l.drop i)
    have hi2 : i - 1 + 1 = i := by omega
    have hsd := drop_cons hi1
    rw [hi2] at hsd
    have hok2 := sdiv_ok (B := 4294967296) (by omega) hd0 (l.drop (i - 1)) (ok_drop hok _)
    rw [hsd] at hok2
    simp only [sdiv] at hok2
    have hv := (ok_cons.1 hok2).1
    generalize hR : (sdiv 4294967296 d (l.drop i)).2 = R at *
    have eT : ((R : Int) * 4294967296 + l.getD (i - 1) 0) / d = ((R * 4294967296 + (l.getD (i - 1) 0).toNat) / d : Nat) := by
      rw [show (R : Int) * 4294967296 + l.getD (i - 1) 0 = ((R * 4294967296 + (l.getD (i - 1) 0).toNat : Nat) : Int) by omega]; rfl
    have eM : ((R : Int) * 4294967296 + l.getD (i - 1) 0) % d = ((R * 4294967296 + (l.getD (i - 1) 0).toNat) % d : Nat) := by
      rw [show (R : Int) * 4294967296 + l.getD (i - 1) 0 = ((R * 4294967296 + (l.getD (i - 1) 0).toNat : Nat) : Int) by omega]; rfl
    have hM := Nat.mod_lt (R * 4294967296 + (l.getD (i - 1) 0).toNat) hd0
    rw [← eT] at hv
    refine xctl ?_
    refine xrg ?_
    refine xctl ?_
    refine xrg ?_
    refine xctl ?_
    refine xrg ?_
    refine xctl ?_
    refine xrg ?_
    refine xctl ?_
    refine ⟨i - 1, _, by omega, Ent.env (less_put (less_put (less_put (less_put (less_put (less_un0 _) ?_) ?_) ?_) ?_) ?_), out.set (i - 1) (((R : Int) * 4294967296 + l.getD (i - 1) 0) / d), by omega, by simp [hlo], ?_, rfl⟩
    iterate 3 (· exact xlq)
    · simp only [go_sem, Nat.reduceEqDiff, Nat.reduceAdd, Nat.reduceLT, Nat.reduceMul, Nat.reduceLeDiff, reduceCtorEq, Int.reduceNeg, Int.reduceToNat]
      rw [hsd, eM]
      simp only [sdiv, hR]
    · simp only [go_sem, Nat.reduceEqDiff, Nat.reduceAdd, Nat.reduceLT, Nat.reduceMul, Nat.reduceLeDiff, reduceCtorEq, Int.reduceNeg, Int.reduceToNat]
      rw [show ((i - 1 : Nat) : Int) = (i : Int) - 1 by omega]
    · rw [drop_set (by omega), hi2, heq, hsd, eT]
      simp only [sdiv, hR]
  · have hb' := of_decide_eq_false hb
    have hi0 : i = 0 := by omega
    subst hi0
    rw [List.drop_zero, List.drop_zero] at heq
    have hr1 := sdiv_lt (B := 4294967296) hd0 l
    refine xctl ?_
    refine xrg ?_
    refine xctl ?_
    refine xrt ?_
    rw [hr, heq]
end Go.Proofs.YtgimaioeifnajaaGreatDoorK.NatT
/-
  nat.shift, back: what they compute.
-/
namespace Go.Proofs.YtgimaioeifnajaaGreatDoorK.NatT
open AI NatIr Dig
attribute [local irreducible] awp awpOps
variable {G : World → Prop}
theorem pow2_int (n : Nat) : (2 : Int) ^ n = ((2 ^ n : Nat) : Int) := by simp
theorem pow2_le {n : Nat} (h : n ≤ 31) : 1 ≤ 2 ^ n ∧ 2 ^ n ≤ 2147483648 := ⟨Nat.one_le_two_pow, Nat.pow_le_pow_right (by omega) h⟩
theorem shrk {a : Int} {k : Nat} : a.fdiv (2 ^ k) = a / 2 ^ k := Int.fdiv_eq_ediv_of_nonneg _ (Int.le_of_lt (Int.pow_pos (by decide)))
attribute [local go_sem] shrk
end Go.Proofs.YtgimaioeifnajaaGreatDoorK.NatT
