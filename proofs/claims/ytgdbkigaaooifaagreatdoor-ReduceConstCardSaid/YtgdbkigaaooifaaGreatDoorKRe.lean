/-
 Joined: RefE, RefF, RefG.
-/
import Derived.Test.YtgdbkigaaooifaaGreatDoorKIrRef
import Derived.Test.YtgdbkigaaooifaaGreatDoorKRa
import Derived.Test.YtgdbkigaaooifaaGreatDoorKParseN
import Derived.Test.YtgdbkigaaooifaaGreatDoorKNd
set_option linter.all false
set_option maxHeartbeats 0
/-
 The document's Parse: what it computes.
-/
namespace Go.Proofs.YtgdbkigaaooifaaGreatDoorK.RefT
open AI NatIr Dig NatT
attribute [local irreducible] awp awpOps
attribute [local go_sem] V_getD V_set V_take V_drop V_imm V_one V_app V_app1 V_repl V_get1 V_length M List.length_append
variable {G : World → Prop}
theorem bt_get (s : ByteArray) (i : Nat) : bt s i = ((s.data.toList.getD i 0).toNat : Int) := by
 simp [bt]
theorem bt_lt (s : ByteArray) (i : Nat) : 0 ≤ bt s i ∧ bt s i ≤ 255 := by
 rw [bt_get]
 have := (s.data.toList.getD i 0).toNat_lt
 omega
theorem allD_at {s : ByteArray} (h : allD s = true) {i : Nat} (hi : i < s.size) : 48 ≤ bt s i ∧ bt s i ≤ 57 := by
 have h1 : s.data.toList.getD i 0 ∈ s.data.toList := by
  rw [List.getD_eq_getElem?_getD, List.getElem?_eq_getElem (by rw [ba_len]; exact hi)]
  exact List.getElem_mem _
 have h2 := of_decide_eq_true (allD_iff.1 h _ h1)
 rw [bt_get]
 omega
theorem allD_of {s : ByteArray} (h : ∀ i, i < s.size → 48 ≤ bt s i ∧ bt s i ≤ 57) : allD s = true := by
 refine allD_iff.2 fun c hc => ?_
 obtain ⟨i, hi, rfl⟩ := List.getElem_of_mem hc
 have h1 := h i (by rw [ba_len] at hi; exact hi)
 rw [bt_get, List.getD_eq_getElem?_getD, List.getElem?_eq_getElem hi] at h1
 refine decide_eq_true ?_
 simp only [Option.getD_some] at h1
 omega
def chunk (l : List UInt8) (a b : Nat) : Nat := decV ((l.take b).drop a)
theorem chunk_self (l : List UInt8) (a : Nat) : chunk l a a = 0 := by
 rw [chunk, List.drop_eq_nil_of_le (by simp; omega)]; rfl
theorem chunk_next {l : List UInt8} {a b : Nat} (hab : a ≤ b) (hb : b < l.length) : chunk l a (b + 1) = 10 * chunk l a b + ((l.getD b 0).toNat - 48) := by
 have h1 : l.take (b + 1) = l.take b ++ [l.getD b 0] := by
  rw [List.take_succ, List.getElem?_eq_getElem hb, List.getD_eq_getElem?_getD, List.getElem?_eq_getElem hb]; rfl
 rw [chunk, h1, List.drop_append_of_le_length (by simp; omega), decV_app, List.length_singleton, Nat.pow_one, Nat.mul_comm, ← chunk]
 congr 1
 simp [decV]
theorem chunk_lt {l : List UInt8} (h : ∀ c ∈ l, isD c = true) (a b : Nat) : chunk l a b < 10 ^ (b - a) := by
 have h1 := decV_lt ((l.take b).drop a) (fun c hc => h c (List.mem_of_mem_take (List.mem_of_mem_drop hc)))
 refine Nat.lt_of_lt_of_le h1 (Nat.pow_le_pow_right (by omega) ?_)
 simp only [List.length_drop, List.length_take]
 omega
theorem chunk_drop {l : List UInt8} {a b : Nat} (hab : a ≤ b) (hb : b ≤ l.length) : decV (l.drop a) = chunk l a b * 10 ^ (l.length - b) + decV (l.drop b) := by
 have h1 : l.drop a = (l.take b).drop a ++ l.drop b := by
  rw [← List.drop_append_of_le_length (by simp; omega), List.take_append_drop]
 rw [h1, decV_app, List.length_drop]; rfl
theorem pow4 (c : Nat) : 10 ^ (4 * c) = 10000 ^ c := by rw [Nat.pow_mul]
theorem pcr_rparse (hG : Stable G) (s : ByteArray) (hs : s.size < 300000) (hd : allD s = true) :
  PCr Tryz.prog G 173 [.str s] (.tup [M (decV s.data.toList), .bool (decide (s.size ≠ 0))]) := by
 have hall := allD_iff.1 hd
 have hlen := ba_len s
 have hne : (s = (⟨#[]⟩ : ByteArray)) = (s.size = 0) := propext ⟨fun e => by rw [e]; rfl, ba_nil⟩
 refine pcr_byq ok173 hG (n := 58) (rv := [.tmp 2, .tmp 3]) fun r hr => ?_; unfold c173 st0
 refine xctl ?_
 refine xrg ?_
 refine xctl ?_
 refine xrg ?_
 refine xctl1 ?_
 refine awp_seq_mid (fun σ => σ = ⟨(putE (putE un0 (some 0) (.str s)) (some 4) (.nils)), []⟩) ?_ ?_
 ·rintro σ rfl
  refine xctl ?_
  refine xrg ?_
  refine xctl ?_
  refine awp_loop (fun k σ => ∃ (c ver : Nat) (a : List Int), k = s.size - 4 * c ∧ 4 * c < s.size + 4 ∧ a.length = c ∧ ok 10000 a ∧ vl 10000 a = decV (s.data.toList.drop (s.size - 4 * c)) ∧
    σ = ⟨(putE (putE (putE un0 (some 0) (.str s)) (some 4) (.own 0 ver 0 c)) (some 6) (.int .i64 ((s.size : Int) - 4 * c))), [some (ver, 3, 1, V a)]⟩) s.size
   ((Ent.nils (s := 4) 3 1 (by simp only [go_sem, Nat.reduceEqDiff, Nat.reduceAdd, Nat.reduceLT, Nat.reduceMul, Nat.reduceLeDiff, reduceCtorEq, Int.reduceNeg, Int.reduceToNat])).trans (by simp) (Ent.env (less_put (less_put (less_put (less_un0 _) ?_) ?_) ?_))) ⟨0, 0, [], by omega, by omega, rfl, ok_nil _, by rw [Nat.mul_zero, Nat.sub_zero, ← hlen, List.drop_length]; rfl, rfl⟩ ?_
  iterate 2 (· exact xlq)
  ·simp only [go_sem, Nat.reduceEqDiff, Nat.reduceAdd, Nat.reduceLT, Nat.reduceMul, Nat.reduceLeDiff, reduceCtorEq, Int.reduceNeg, Int.reduceToNat]
   exact congrArg (D.int .i64) (by omega)
  rintro k σ1 ⟨c, ver, a, rfl, hc, hal, hao, hav, rfl⟩
  refine xctl ?_
  refine xrg ?_
  refine xctl ?_
  refine xcs (fun hb => ?_) (fun hb => ?_)
  ·have hb' := of_decide_eq_true hb
   obtain ⟨e, he⟩ : ∃ e : Nat, e + 4 * c = s.size := ⟨s.size - 4 * c, by omega⟩
   have he' : (s.size : Int) - 4 * c = e := by omega
   have heN : s.size - 4 * c = e := by omega
   rw [heN] at hav
   rw [he']
   refine xctl ?_
   refine xrg ?_
   refine xctl ?_
   refine xrg ?_
   refine xctl1 ?_
   refine awp_seq_mid (fun σ => σ = ⟨(putE (putE (putE (putE (putE un0 (some 0) (.str s)) (some 4) (.own 0 ver 0 c)) (some 6) (.int .i64 e)) (some 7) (.int .i64 0)) (some 8) (.int .i64 ((e - 4 : Nat) : Int))), [some (ver, 3, 1, V a)]⟩) ?_ ?_
   ·rintro σ rfl
    refine awp_seq_mid (fun σ => σ = ⟨(putE (putE (putE (putE un0 (some 0) (.str s)) (some 4) (.own 0 ver 0 c)) (some 6) (.int .i64 e)) (some 7) (.int .i64 (chunk s.data.toList (e - 4) e))), [some (ver, 3, 1, V a)]⟩) ?_ ?_
    ·rintro σ rfl
     have hck := chunk_lt hall (e - 4) e
     have hck4 : 10 ^ (e - (e - 4)) ≤ 10 ^ 4 := Nat.pow_le_pow_right (by omega) (by omega)
     have hcd := chunk_drop (l := s.data.toList) (a := e - 4) (b := e) (by omega) (by omega)
     rw [hlen, show s.size - e = 4 * c by omega, pow4, ← hav] at hcd
     refine xctl ?_
     refine xrg ?_
     refine xctl ?_
     refine xrg ?_
     refine xctl ?_
     refine ⟨e - 4, _, by omega, (Ent.cutk 1 (less_put (less_put (less_put (less_un0 _) ?_) ?_) ?_) (by exact ⟨.inr rfl, trivial⟩) (kb_put (kb_put (kb_put (kb_un0 _) (by simp [kb])) (by simp [kb])) (by simp [kb])) (by simp [kbH, kb.kbs, kb, kbs_W, kbs_SS, kbs_V])), c + 1, ver + 1, a ++ [((chunk s.data.toList (e - 4) e : Nat) : Int)], by omega, by omega, by simp; omega, ok_append.2 ⟨hao, fun x hx => by simp at hx; omega⟩, ?_, rfl⟩
     iterate 2 (· exact xlq)
     ·simp only [go_sem, Nat.reduceEqDiff, Nat.reduceAdd, Nat.reduceLT, Nat.reduceMul, Nat.reduceLeDiff, reduceCtorEq, Int.reduceNeg, Int.reduceToNat]
      exact congrArg (D.int .i64) (by omega)
     ·rw [show s.size - 4 * (c + 1) = e - 4 by omega, hcd, vl_append, hal, vl_cons, vl_nil, Int.toNat_natCast, Nat.mul_zero, Nat.add_zero, Nat.mul_comm, Nat.add_comm]
    ·refine xctl ?_
     refine xrg ?_
     refine xctl ?_
     refine awp_loop (fun k σ => ∃ i : Nat, e - 4 ≤ i ∧ i ≤ e ∧ k = e - i ∧ σ = ⟨(putE (putE (putE (putE (putE un0 (some 0) (.str s)) (some 4) (.own 0 ver 0 c)) (some 6) (.int .i64 e)) (some 7) (.int .i64 (chunk s.data.toList (e - 4) i))) (some 9) (.int .i64 i)), [some (ver, 3, 1, V a)]⟩) (e - (e - 4))
      (Ent.env (less_put (less_put (less_put (less_put (less_put (less_un0 _) ?_) ?_) ?_) ?_) ?_)) ⟨e - 4, Nat.le_refl _, by omega, by omega, rfl⟩ ?_
     iterate 3 (· exact xlq)
     ·simp only [go_sem, Nat.reduceEqDiff, Nat.reduceAdd, Nat.reduceLT, Nat.reduceMul, Nat.reduceLeDiff, reduceCtorEq, Int.reduceNeg, Int.reduceToNat]
      rw [chunk_self]; rfl
     iterate 1 (· exact xlq)
     rintro k σ1 ⟨i, hi1, hi2, rfl, rfl⟩
     have hck := chunk_lt hall (e - 4) i
     refine xctl ?_
     refine xrg ?_
     refine xctl ?_
     refine xcs (fun hb => ?_) (fun hb => ?_)
     ·have hb2 := of_decide_eq_true hb
      have hck4 : 10 ^ (i - (e - 4)) ≤ 10 ^ 3 := Nat.pow_le_pow_right (by omega) (by omega)
      have hbt := allD_at hd (i := i) (by omega)
      have hcn := chunk_next (l := s.data.toList) (a := e - 4) (b := i) hi1 (by omega)
      rw [← Int.natCast_inj] at hcn
      have hbg := bt_get s i
      have hcn' : ((chunk s.data.toList (e - 4) (i + 1) : Nat) : Int) = 10 * (chunk s.data.toList (e - 4) i : Int) + (bt s i - 48) := by omega
      refine xctl ?_
      refine xrg ?_
      refine xctl ?_
      refine xrg ?_
      refine xctl ?_
      refine ⟨e - (i + 1), _, by omega, Ent.env (less_put (less_put (less_put (less_put (less_put (less_un0 _) ?_) ?_) ?_) ?_) ?_), i + 1, by omega, by omega, rfl, rfl⟩
      iterate 3 (· exact xlq)
      ·simp only [go_sem, Nat.reduceEqDiff, Nat.reduceAdd, Nat.reduceLT, Nat.reduceMul, Nat.reduceLeDiff, reduceCtorEq, Int.reduceNeg, Int.reduceToNat]
       rw [hcn']
      iterate 1 (· exact xlq)
     ·have hb2 := of_decide_eq_false hb
      have hie : i = e := by omega
      subst hie
      refine xctl ?_
      refine ⟨_, Nat.zero_le _, Ent.env (less_put (less_put (less_put (less_put (less_un0 _) ?_) ?_) ?_) ?_), rfl⟩
      iterate 4 (· exact xlq)
   ·refine xctl ?_
    refine xrg ?_
    refine xctl ?_
    refine xcs (fun hb => ?_) (fun hb => ?_)
    ·have hb2 := of_decide_eq_true hb
     refine xctl ?_
     refine xrg ?_
     refine xctl ?_
     refine ⟨_, Nat.zero_le _, Ent.env (less_put (less_put (less_put (less_put (less_put (less_un0 _) ?_) ?_) ?_) ?_) ?_), rfl⟩
     iterate 4 (· exact xlq)
     ·simp only [go_sem, Nat.reduceEqDiff, Nat.reduceAdd, Nat.reduceLT, Nat.reduceMul, Nat.reduceLeDiff, reduceCtorEq, Int.reduceNeg, Int.reduceToNat]
      exact congrArg (D.int .i64) (by omega)
    ·have hb2 := of_decide_eq_false hb
     refine xctl ?_
     refine ⟨_, Nat.zero_le _, Ent.env (less_put (less_put (less_put (less_put (less_put (less_un0 _) ?_) ?_) ?_) ?_) ?_), rfl⟩
     iterate 4 (· exact xlq)
     ·simp only [go_sem, Nat.reduceEqDiff, Nat.reduceAdd, Nat.reduceLT, Nat.reduceMul, Nat.reduceLeDiff, reduceCtorEq, Int.reduceNeg, Int.reduceToNat]
      exact congrArg (D.int .i64) (by omega)
  ·have hb' := of_decide_eq_false hb
   rw [show s.size - 4 * c = 0 by omega, List.drop_zero] at hav
   have htr := pcr_rtrim hG a c hal.symm hao (by omega)
   rw [hav] at htr
   refine xctl ?_
   refine xrg ?_
   refine xctl ?_
   refine xrg ?_; (refine xca1 ?_; refine xca (htr) ?_)
   refine ops_sym (by simp (disch := omega) only [go_sem, Nat.reduceEqDiff, Nat.reduceAdd, Nat.reduceLT, Nat.reduceMul, Nat.reduceLeDiff, reduceCtorEq, Int.reduceNeg, Int.reduceToNat, hne]; rfl) (by first | with_reducible exact True.intro | omega) ?_
   refine xctl ?_
   refine xrt ?_
   rw [hr, M]
   simp
 ·refine xctl ?_
  refine xrg ?_
  refine xctl ?_
  refine awp_loop (fun k σ => ∃ i : Nat, i ≤ s.size ∧ k = s.size - i ∧ σ = ⟨(putE (putE (putE un0 (some 0) (.str s)) (some 4) (.nils)) (some 5) (.int .i64 i)), []⟩) s.size
   (Ent.env (less_put (less_put (less_put (less_un0 _) ?_) ?_) ?_)) ⟨0, Nat.zero_le _, rfl, rfl⟩ ?_
  iterate 3 (· exact xlq)
  rintro k σ1 ⟨i, hi, rfl, rfl⟩
  refine xctl ?_
  refine xrg ?_
  refine xctl ?_
  refine xcs (fun hb => ?_) (fun hb => ?_)
  ·have hb' := of_decide_eq_true hb
   have hbt := allD_at hd (i := i) (by omega)
   refine xctl ?_
   refine xrg ?_
   refine xctl ?_
   refine xcF ?_
   refine xctl ?_
   refine xrg ?_
   refine xctl ?_
   refine ⟨s.size - (i + 1), _, by omega, Ent.env (less_put (less_put (less_put (less_un0 _) ?_) ?_) ?_), i + 1, by omega, rfl, rfl⟩
   iterate 3 (· exact xlq)
  ·have hb' := of_decide_eq_false hb
   refine xctl ?_
   refine ⟨_, Nat.zero_le _, Ent.env (less_put (less_put (less_un0 _) ?_) ?_), rfl⟩
   iterate 2 (· exact xlq)
theorem pcr_rparse_not (hG : Stable G) (s : ByteArray) (hs : s.size < 300000) (hd : allD s = false) :
  PCr Tryz.prog G 173 [.str s] (.tup [M 0, .bool false]) := by
 have hM0 : M 0 = .sl 0 [] := by rw [M, wd_zero]; rfl
 refine pcr_byq ok173 hG (n := 58) (rv := [.tmp 2, .tmp 3]) fun r hr => ?_; unfold c173 st0
 refine xctl ?_
 refine xrg ?_
 refine xctl ?_
 refine xrg ?_
 refine xctl ?_
 refine xrg ?_
 refine xctl ?_
 refine awp_loop (fun k σ => ∃ i : Nat, i ≤ s.size ∧ k = s.size - i ∧ (∀ j, j < i → 48 ≤ bt s j ∧ bt s j ≤ 57) ∧ σ = ⟨(putE (putE un0 (some 0) (.str s)) (some 5) (.int .i64 i)), []⟩) s.size
  (Ent.env (less_put (less_put (less_un0 _) ?_) ?_)) ⟨0, Nat.zero_le _, rfl, fun j h => absurd h (Nat.not_lt_zero _), rfl⟩ ?_
 iterate 2 (· exact xlq)
 rintro k σ1 ⟨i, hi, rfl, hdi, rfl⟩
 refine xctl ?_
 refine xrg ?_
 refine xctl ?_
 refine xcs (fun hb => ?_) (fun hb => ?_)
 ·have hb' := of_decide_eq_true hb
  have hbl := bt_lt s i
  by_cases h1 : bt s i < 48
  ·refine xctl ?_
   refine xrg ?_
   refine xctl ?_
   refine xct ?_
   refine xctl ?_
   refine xrg ?_
   refine xctl ?_
   refine xrt ?_
   rw [hr, hM0]
  ·by_cases h2 : 57 < bt s i
   ·refine xctl ?_
    refine xrg ?_
    refine xctl ?_
    refine xct ?_
    refine xctl ?_
    refine xrg ?_
    refine xctl ?_
    refine xrt ?_
    rw [hr, hM0]
   ·refine xctl ?_
    refine xrg ?_
    refine xctl ?_
    refine xcF ?_
    refine xctl ?_
    refine xrg ?_
    refine xctl ?_
    refine ⟨s.size - (i + 1), _, by omega, Ent.env (less_put (less_put (less_un0 _) ?_) ?_), i + 1, by omega, rfl, fun j hj => ?_, rfl⟩
    iterate 2 (· exact xlq)
    rcases Nat.lt_or_ge j i with h | h
    ·exact hdi j h
    ·rw [show j = i by omega]; omega
 ·have hb' := of_decide_eq_false hb
  rw [allD_of fun j hj => hdi j (by omega)] at hd
  cases hd
end Go.Proofs.YtgdbkigaaooifaaGreatDoorK.RefT
/-
 The document's Sub, Div, Gcd: what they compute.
-/
namespace Go.Proofs.YtgdbkigaaooifaaGreatDoorK.RefT
open AI NatIr Dig NatT
attribute [local irreducible] awp awpOps
attribute [local go_sem] V_getD V_set V_take V_drop V_imm V_one V_app V_app1 V_repl V_get1 V_length M List.length_append
variable {G : World → Prop}
theorem wd4_mono {X Y : Nat} (h : Y ≤ X) : (wd 10000 Y).length ≤ (wd 10000 X).length := by
 refine wd_length_le (by omega) (Nat.lt_of_le_of_lt h ?_)
 have := vl_lt (ok_wd (B := 10000) (by omega) X)
 rwa [vl_wd (by omega)] at this
theorem sub_stp {P A B L a b c c' d : Nat} (h : A + P * c = L + B) (hd : a + 10000 * c' = d + b + c) : (A + P * a) + P * (10000 * c') = (L + P * d) + (B + P * b) := by
 have h1 := congrArg (P * ·) hd
 simp only [Nat.mul_add] at h1
 omega
theorem lt_stop {X Y L P c : Nat} (h : X + P * c = L + Y) (hL : L < P) (hc : c ≤ 1) (hYX : Y ≤ X) : c = 0 ∧ L = X - Y := by
 rcases Nat.eq_zero_or_pos c with h0 | h0
 ·subst h0; omega
 ·obtain rfl : c = 1 := by omega
  omega
theorem pcr_rsub (hG : Stable G) (X Y : Nat) (hYX : Y ≤ X) (hX : (wd 10000 X).length < 100000) :
  PCr Tryz.prog G 236 [M X, M Y] (M (X - Y)) := by
 have hlen := wd4_mono hYX
 have ha := ok_wd (B := 10000) (by omega) X
 have hb := ok_wd (B := 10000) (by omega) Y
 have hva := vl_wd (B := 10000) (by omega) X
 have hvb := vl_wd (B := 10000) (by omega) Y
 rw [M, M]
 generalize wd 10000 X = a at *
 generalize wd 10000 Y = b at *
 refine pcr_byq ok236 hG (n := 34) (rv := [.tmp 4]) fun r hr => ?_; unfold c236 st0
 refine xctl ?_
 refine xrg ?_
 refine xctl ?_
 refine xrg ?_
 refine xctl ?_
 refine xrg ?_
 refine xctl ?_
 refine xrg ?_
 refine xctl ?_
 refine awp_loop (fun k σ => ∃ (i ver : Nat) (c : Int) (out : List Int), i ≤ a.length ∧ k = a.length - i ∧ out.length = i ∧ 0 ≤ c ∧ c ≤ 1 ∧ ok 10000 out ∧ vl 10000 (a.take i) + 10000 ^ i * c.toNat = vl 10000 out + vl 10000 (b.take i) ∧
   σ = ⟨(putE (putE (putE (putE (putE un0 (some 0) (.sl a.length (V a))) (some 1) (.sl b.length (V b))) (some 5) (.own 0 ver 0 i)) (some 6) (.int .i64 c)) (some 7) (.int .i64 i)), [some (ver, 3, 1, V out)]⟩) a.length
  ((Ent.nils (s := 5) 3 1 (by simp only [go_sem, Nat.reduceEqDiff, Nat.reduceAdd, Nat.reduceLT, Nat.reduceMul, Nat.reduceLeDiff, reduceCtorEq, Int.reduceNeg, Int.reduceToNat])).trans (by simp) (Ent.env (less_put (less_put (less_put (less_put (less_put (less_un0 _) ?_) ?_) ?_) ?_) ?_))) ⟨0, 0, 0, [], by omega, by omega, rfl, by omega, by omega, ok_nil _, by simp [vl], rfl⟩ ?_
 iterate 5 (· exact xlq)
 rintro k σ1 ⟨i, ver, c, out, hi, rfl, hlo, hc0, hc1, hoo, heq, rfl⟩
 by_cases hgo : i < a.length
 ·have ga := ok_get ha (by omega) i
  have gb := ok_get hb (by omega) i
  have hra := pcr_rat hG a a.length (i : Int) rfl ha (by omega) (by omega)
  have hrb := pcr_rat hG b b.length (i : Int) rfl hb (by omega) (by omega)
  rw [Int.toNat_natCast] at hra hrb
  by_cases hs : a.getD i 0 - b.getD i 0 - c < 0
  ·have hst := sub_stp (c' := 1) (a := (a.getD i 0).toNat) (b := (b.getD i 0).toNat) (d := (a.getD i 0 - b.getD i 0 - c + 10000).toNat) heq (by omega)
   rw [← vl_take_next, ← vl_take_next] at hst
   refine xctl ?_
   refine xrg ?_
   refine xctl ?_
   refine xct ?_
   refine xctl ?_
   refine xrg ?_; (refine xcf1 ?_; refine xcf (hra) rfl ?_)
   refine xrg ?_; (refine xcf1 ?_; refine xcf (hrb) rfl ?_)
   refine xrg ?_
   refine xctl ?_
   refine xrg ?_
   refine xctl ?_
   refine xrg ?_
   refine xctl ?_
   refine xct ?_
   refine xctl ?_
   refine xrg ?_
   refine xctl ?_
   refine xrg ?_
   refine xctl ?_
   refine xrg ?_
   refine xctl ?_
   refine ⟨a.length - (i + 1), _, by omega, (Ent.cutk 1 (less_put (less_put (less_put (less_put (less_put (less_un0 _) ?_) ?_) ?_) ?_) ?_) (by exact ⟨.inr rfl, trivial⟩) (kb_put (kb_put (kb_put (kb_put (kb_put (kb_un0 _) (by simp [kb])) (by simp [kb])) (by simp [kb])) (by simp [kb])) (by simp [kb])) (by simp [kbH, kb.kbs, kb, kbs_W, kbs_SS, kbs_V])), i + 1, ver + 1, 1, out ++ [a.getD i 0 - b.getD i 0 - c + 10000], by omega, rfl, by simp; omega, by omega, by omega, ok_append.2 ⟨hoo, fun x hx => by rw [List.mem_singleton] at hx; omega⟩, ?_, rfl⟩
   iterate 5 (· exact xlq)
   rw [vl_append, hlo, vl_cons, vl_nil, Nat.mul_zero, Nat.add_zero, Nat.pow_succ, Nat.mul_assoc]
   exact hst
  ·have hst := sub_stp (c' := 0) (a := (a.getD i 0).toNat) (b := (b.getD i 0).toNat) (d := (a.getD i 0 - b.getD i 0 - c).toNat) heq (by omega)
   rw [← vl_take_next, ← vl_take_next] at hst
   refine xctl ?_
   refine xrg ?_
   refine xctl ?_
   refine xct ?_
   refine xctl ?_
   refine xrg ?_; (refine xcf1 ?_; refine xcf (hra) rfl ?_)
   refine xrg ?_; (refine xcf1 ?_; refine xcf (hrb) rfl ?_)
   refine xrg ?_
   refine xctl ?_
   refine xrg ?_
   refine xctl ?_
   refine xrg ?_
   refine xctl ?_
   refine xcF ?_
   refine xctl ?_
   refine xrg ?_
   refine xctl ?_
   refine xrg ?_
   refine xctl ?_
   refine ⟨a.length - (i + 1), _, by omega, (Ent.cutk 1 (less_put (less_put (less_put (less_put (less_put (less_un0 _) ?_) ?_) ?_) ?_) ?_) (by exact ⟨.inr rfl, trivial⟩) (kb_put (kb_put (kb_put (kb_put (kb_put (kb_un0 _) (by simp [kb])) (by simp [kb])) (by simp [kb])) (by simp [kb])) (by simp [kb])) (by simp [kbH, kb.kbs, kb, kbs_W, kbs_SS, kbs_V])), i + 1, ver + 1, 0, out ++ [a.getD i 0 - b.getD i 0 - c], by omega, rfl, by simp; omega, by omega, by omega, ok_append.2 ⟨hoo, fun x hx => by rw [List.mem_singleton] at hx; omega⟩, ?_, rfl⟩
   iterate 5 (· exact xlq)
   rw [vl_append, hlo, vl_cons, vl_nil, Nat.mul_zero, Nat.add_zero, Nat.pow_succ, Nat.mul_assoc]
   exact hst
 ·have hie : i = a.length := by omega
  subst hie
  rw [List.take_of_length_le (Nat.le_refl _), List.take_of_length_le hlen, hva, hvb] at heq
  have hlt := vl_lt hoo
  rw [hlo] at hlt
  have hfin := lt_stop heq hlt (by omega) hYX
  have htr := pcr_rtrim hG out a.length hlo.symm hoo (by omega)
  rw [hfin.2] at htr
  refine xctl ?_
  refine xrg ?_
  refine xctl ?_
  refine xcF ?_
  refine xctl ?_
  refine xrg ?_; (refine xca1 ?_; refine xca (htr) ?_)
  refine xrg ?_
  refine xctl ?_
  refine xrt ?_
  exact hr.symm
theorem mul_lt_mul'' {a b c d : Nat} (h1 : a < c) (h2 : b < d) : a * b < c * d := Nat.mul_lt_mul_of_le_of_lt (Nat.le_of_lt h1) h2 (by omega)
theorem div_stp {A Y R Q a P low V : Nat} (hA : A = Y * Q + R) (hV : V = 10000 * P * Q) (hlow : Y * low ≤ a + 10000 * R) :
  a + 10000 * A = Y * (10000 * Q + low) + (a + 10000 * R - Y * low) ∧ V + P * low = P * (10000 * Q + low) := by
 subst hA hV
 refine ⟨?_, ?_⟩
 ·rw [Nat.mul_add, Nat.mul_add, show Y * (10000 * Q) = 10000 * (Y * Q) by rw [Nat.mul_left_comm]]
  omega
 ·rw [Nat.mul_add, show P * (10000 * Q) = 10000 * P * Q by rw [← Nat.mul_assoc, Nat.mul_comm P]]
theorem pcr_rdiv (hG : Stable G) (X Y : Nat) (hY0 : Y ≠ 0) (hX : (wd 10000 X).length < 30000) (hY : (wd 10000 Y).length < 30000) :
  PCr Tryz.prog G 212 [M X, M Y] (.tup [M (X / Y), M (X % Y)]) := by
 have hb0 : (wd 10000 Y).length ≠ 0 := fun e => hY0 ((wd_eq_nil (by omega)).1 (List.eq_nil_of_length_eq_zero e))
 have hM0 : M 0 = .sl 0 [] := M_zero
 have ha := ok_wd (B := 10000) (by omega) X
 have hva := vl_wd (B := 10000) (by omega) X
 have hYlt := vl_lt (ok_wd (B := 10000) (by omega) Y)
 rw [vl_wd (by omega)] at hYlt
 have hYge : 10000 ^ ((wd 10000 Y).length - 1) ≤ Y := by
  rcases Nat.lt_or_ge Y (10000 ^ ((wd 10000 Y).length - 1)) with h | h
  ·have := wd_length_le (B := 10000) (by omega) h
   omega
  ·exact h
 have hXlt : X < 10000 ^ (wd 10000 X).length := by have := vl_lt ha; rwa [hva] at this
 have hMX : M X = .sl (wd 10000 X).length (V (wd 10000 X)) := rfl
 have hMY : M Y = .sl (wd 10000 Y).length (V (wd 10000 Y)) := rfl
 have hbY : (wd 10000 Y).length < 30000 := hY
 generalize hn : (wd 10000 Y).length = n at *
 generalize wd 10000 X = a at *
 by_cases htop : a.length + 1 < n
 ·
  have hlt : X < Y := by
   refine Nat.lt_of_lt_of_le hXlt (Nat.le_trans (Nat.pow_le_pow_right (by omega) (by omega)) hYge)
  rw [Nat.div_eq_of_lt hlt, Nat.mod_eq_of_lt hlt, hMX, hMY, hM0]
  refine pcr_byq ok212 hG (n := 85) (rv := [.tmp 4, .tmp 5]) fun r hr => ?_; unfold c212 st0
  refine xctl ?_
  refine xrg ?_
  refine xctl ?_
  refine xrg ?_
  refine xctl ?_
  refine xrg ?_
  refine xctl ?_
  refine xrg ?_
  refine xctl ?_
  refine xct ?_
  refine xctl ?_
  refine xrg ?_
  refine xctl ?_
  refine xrt ?_
  exact hr.symm
 ·obtain ⟨top, htp⟩ : ∃ top : Nat, top + n = a.length + 1 := ⟨a.length + 1 - n, by omega⟩
  have etop : (a.length : Int) - n + 1 = top := by omega
  have hdl : vl 10000 (a.drop top) < Y := by
   have h1 := vl_lt (ok_drop ha top)
   rw [List.length_drop, show a.length - top = n - 1 by omega] at h1
   exact Nat.lt_of_lt_of_le h1 hYge
  have htr0 := pcr_rtrim hG (a.drop top) (a.length - top) (by simp) (ok_drop ha top) (by simp; omega)
  rw [hMX, hMY]
  refine pcr_byq ok212 hG (n := 85) (rv := [.tmp 4, .tmp 5]) fun r hr => ?_; unfold c212 st0
  refine xctl ?_
  refine xrg ?_
  refine xctl ?_
  refine xrg ?_
  refine xctl ?_
  have e5 : ((a.length : Int) - top).toNat = a.length - top := by omega
  have e6 : (a.drop top).take (a.length - top) = a.drop top := List.take_of_length_le (by rw [List.length_drop]; exact Nat.le_refl _)
  have e7 : (a.drop top).length = a.length - top := List.length_drop
  refine ops_sym (by simp (disch := omega) only [go_sem, Nat.reduceEqDiff, Nat.reduceAdd, Nat.reduceLT, Nat.reduceMul, Nat.reduceLeDiff, reduceCtorEq, Int.reduceNeg, Int.reduceToNat, etop]; rfl) (by first | with_reducible exact True.intro | omega) ?_
  refine xctl ?_
  refine xrg ?_
  refine xctl ?_
  refine xcF ?_
  refine xctl ?_
  refine ops_sym (by simp (disch := omega) only [go_sem, Nat.reduceEqDiff, Nat.reduceAdd, Nat.reduceLT, Nat.reduceMul, Nat.reduceLeDiff, reduceCtorEq, Int.reduceNeg, Int.reduceToNat, e5, e6, e7]; rfl) (by first | with_reducible exact True.intro | omega) ?_
  refine xctl ?_
  refine xrg ?_; (refine xca1 ?_; refine xca (htr0) ?_)
  refine xrg ?_
  refine xctl ?_
  refine xrg ?_
  refine xctl ?_
  refine awp_loop (fun k σ => ∃ (j R Q : Nat) (q : List Int), j ≤ top ∧ k = j ∧ vl 10000 (a.drop j) = Y * Q + R ∧ R < Y ∧ q.length = a.length ∧ ok 10000 q ∧ (∀ i, i < j → q.getD i 0 = 0) ∧ vl 10000 q = 10000 ^ j * Q ∧
    σ = ⟨(putE (putE (putE (putE (putE un0 (some 0) (.sl a.length (V a))) (some 1) (.sl n (V (wd 10000 Y)))) (some 6) (.own 0 0 0 a.length)) (some 8) (.sl (wd 10000 R).length (V (wd 10000 R)))) (some 9) (.int .i64 ((j : Int) - 1))), [some (0, 3, 1, V q)]⟩) top
   ((Ent.cutk 1 (less_put (less_put (less_put (less_put (less_put (less_un0 _) ?_) ?_) ?_) ?_) ?_) (by exact ⟨.inr rfl, trivial⟩) (kb_put (kb_put (kb_put (kb_put (kb_put (kb_un0 _) (by simp [kb])) (by simp [kb])) (by simp [kb])) (by simp [kb])) (by simp [kb])) (by simp [kbH, kb.kbs, kb, kbs_W, kbs_SS, kbs_V]))) ⟨top, vl 10000 (a.drop top), 0, List.replicate a.length 0, Nat.le_refl _, rfl, by omega, hdl, by simp, ok_replicate (by omega) _, fun i hi => by simp [List.getD_eq_getElem?_getD, List.getElem?_replicate]; split <;> rfl, by simp [vl_replicate], rfl⟩ ?_
  iterate 5 (· exact xlq)
  rintro j σ1 ⟨_, R, Q, q, hj, rfl, hA, hR, hql, hqo, hq0, hqv, rfl⟩
  by_cases hj0 : j = 0
  ·subst hj0
   rw [List.drop_zero, hva] at hA
   have hfin : X / Y = Q ∧ X % Y = R := by
    rw [hA, Nat.mul_add_div (by omega), Nat.mul_add_mod, Nat.mod_eq_of_lt hR, Nat.div_eq_of_lt hR]
    exact ⟨rfl, rfl⟩
   have htr := pcr_rtrim hG q a.length hql.symm hqo (by omega)
   rw [hqv, Nat.pow_zero, Nat.one_mul] at htr
   refine xctl ?_
   refine xrg ?_
   refine xctl ?_
   refine xcF ?_
   refine xctl ?_
   refine xrg ?_; (refine xca1 ?_; refine xca (htr) ?_)
   refine xrg ?_
   refine xctl ?_
   refine xrt ?_
   rw [hr, hfin.1, hfin.2]; rfl
  ·obtain ⟨i, rfl⟩ : ∃ i, j = i + 1 := ⟨j - 1, by omega⟩
   have e8 : (i : Int) + 1 - 1 = i := by omega
   have hil : i < a.length := by omega
   have gi := ok_get ha (by omega) i
   have hRl : (wd 10000 R).length ≤ n := wd_length_le (by omega) (Nat.lt_trans hR hYlt)
   have htr := pcr_rtrim hG (a.getD i 0 :: wd 10000 R) (1 + (wd 10000 R).length) (by rw [List.length_cons, Nat.add_comm]) (fun x hx => by
    rcases List.mem_cons.1 hx with rfl | hx
    ·exact gi
    ·exact ok_wd (by omega) R x hx) (by rw [List.length_cons]; omega)
   rw [vl_cons, vl_wd (by omega)] at htr
   have hdr : vl 10000 (a.drop i) = (a.getD i 0).toNat + 10000 * vl 10000 (a.drop (i + 1)) := by
    rw [List.drop_eq_getElem_cons hil, vl_cons, List.getD_eq_getElem?_getD, List.getElem?_eq_getElem hil]; rfl
   generalize hx0 : a.getD i 0 = x0 at *
   have hR' : x0.toNat + 10000 * R < 10000 * Y := by omega
   generalize hRR : x0.toNat + 10000 * R = R' at *
   have hRl' : (wd 10000 R').length ≤ n + 1 := wd_length_le (by omega) (by rw [Nat.pow_succ]; omega)
   refine xctl ?_
   refine xrg ?_
   refine xctl ?_
   refine xct ?_
   refine xctl ?_
   have e9 : List.take (1 + (wd 10000 R).length) (D.int .i64 x0 :: V (wd 10000 R)) = V (x0 :: wd 10000 R) := by
    rw [Nat.add_comm, List.take_succ_cons, List.take_of_length_le (by rw [V_length]; exact Nat.le_refl _)]; rfl
   refine ops_sym (by simp (disch := omega) only [go_sem, Nat.reduceEqDiff, Nat.reduceAdd, Nat.reduceLT, Nat.reduceMul, Nat.reduceLeDiff, reduceCtorEq, Int.reduceNeg, Int.reduceToNat, e8, hx0]; rfl) (by first | with_reducible exact True.intro | omega) ?_
   refine xca1 ?_ (by simp (disch := omega) only [go_sem, Nat.reduceEqDiff, Nat.reduceAdd, Nat.reduceLT, Nat.reduceMul, Nat.reduceLeDiff, reduceCtorEq, Int.reduceNeg, Int.reduceToNat, e9]; rfl)
   refine xca htr ?_
   refine xrg ?_
   refine xctl ?_
   refine xrg ?_
   refine xctl ?_
   refine awp_loop (fun k σ => ∃ lo hi : Nat, k = hi - lo ∧ lo ≤ hi ∧ hi ≤ 9999 ∧ Y * lo ≤ R' ∧ R' < Y * (hi + 1) ∧
     σ = ⟨(putE (putE (putE (putE (putE (putE (putE un0 (some 0) (.sl a.length (V a))) (some 1) (.sl n (V (wd 10000 Y)))) (some 6) (.own 0 0 0 a.length)) (some 8) (.sl (wd 10000 R').length (V (wd 10000 R')))) (some 9) (.int .i64 i)) (some 10) (.int .i64 lo)) (some 11) (.int .i64 hi)), [some (0, 3, 1, V q)]⟩) 9999
    ((Ent.cutk 1 (less_put (less_put (less_put (less_put (less_put (less_put (less_put (less_un0 _) ?_) ?_) ?_) ?_) ?_) ?_) ?_) (by exact ⟨.inr rfl, trivial⟩) (kb_put (kb_put (kb_put (kb_put (kb_put (kb_put (kb_put (kb_un0 _) (by simp [kb])) (by simp [kb])) (by simp [kb])) (by simp [kb])) (by simp [kb])) (by simp [kb])) (by simp [kb])) (by simp [kbH, kb.kbs, kb, kbs_W, kbs_SS, kbs_V]))) ⟨0, 9999, by omega, by omega, by omega, by omega, by omega, rfl⟩ ?_
   iterate 6 (· exact xlq)
   ·show _ = D.int .i64 9999
    exact xlq
   rintro k σ1 ⟨lo, hi, rfl, hlh, hh9, hl1, hl2, rfl⟩
   by_cases hlt : lo < hi
   ·obtain ⟨m, hm⟩ : ∃ m, (lo + hi + 1) / 2 = m := ⟨_, rfl⟩
    have em : ((lo : Int) + hi + 1) / 2 = (m : Int) := by omega
    have hsm := pcr_rsmall hG m (by omega)
    have hml := wd_length_le (B := 10000) (n := m) (k := 1) (by omega) (by omega)
    have hmu := pcr_rmul hG Y m (by omega) (by omega)
    have hYm : Y * m < 10000 ^ (n + 1) := by
     have := mul_lt_mul'' (a := Y) (b := m) (c := 10000 ^ n) (d := 10000) hYlt (by omega)
     rwa [Nat.pow_succ]
    have hml2 := wd_length_le (B := 10000) (by omega) hYm
    have hcm := pcr_rcmp hG (Y * m) R' (by omega) (by omega)
    rw [M, hn] at hmu
    rw [M] at hcm
    by_cases hc : Y * m ≤ R'
    ·have hc2 : cmpN (Y * m) R' ≤ 0 := by unfold cmpN; split <;> (try split) <;> omega
     refine xctl ?_
     refine xrg ?_
     refine xctl ?_
     refine xct ?_
     refine xctl ?_
     refine ops_sym (by simp (disch := omega) only [go_sem, Nat.reduceEqDiff, Nat.reduceAdd, Nat.reduceLT, Nat.reduceMul, Nat.reduceLeDiff, reduceCtorEq, Int.reduceNeg, Int.reduceToNat, em]; rfl) (by first | with_reducible exact True.intro | omega) ?_
     refine xctl ?_
     refine xrg ?_; (refine xca1 ?_; refine xca (hsm) ?_)
     refine xrg ?_; (refine xca1 ?_; refine xca (hmu) ?_)
     refine xrg ?_; (refine xcf1 ?_; refine xcf (hcm) rfl ?_)
     refine xrg ?_
     refine xctl ?_
     refine xct ?_
     refine xctl ?_
     refine xrg ?_
     refine xctl ?_
     refine ⟨hi - m, _, by omega, Ent.env (less_put (less_put (less_put (less_put (less_put (less_put (less_put (less_un0 _) ?_) ?_) ?_) ?_) ?_) ?_) ?_), m, hi, rfl, by omega, hh9, hc, hl2, rfl⟩
     iterate 7 (· exact xlq)
    ·have hc2 : ¬ cmpN (Y * m) R' ≤ 0 := by unfold cmpN; split <;> (try split) <;> omega
     have em2 : (m : Int) - 1 = ((m - 1 : Nat) : Int) := by omega
     refine xctl ?_
     refine xrg ?_
     refine xctl ?_
     refine xct ?_
     refine xctl ?_
     refine ops_sym (by simp (disch := omega) only [go_sem, Nat.reduceEqDiff, Nat.reduceAdd, Nat.reduceLT, Nat.reduceMul, Nat.reduceLeDiff, reduceCtorEq, Int.reduceNeg, Int.reduceToNat, em]; rfl) (by first | with_reducible exact True.intro | omega) ?_
     refine xctl ?_
     refine xrg ?_; (refine xca1 ?_; refine xca (hsm) ?_)
     refine xrg ?_; (refine xca1 ?_; refine xca (hmu) ?_)
     refine xrg ?_; (refine xcf1 ?_; refine xcf (hcm) rfl ?_)
     refine xrg ?_
     refine xctl ?_
     refine xcF ?_
     refine xctl ?_
     refine ops_sym (by simp (disch := omega) only [go_sem, Nat.reduceEqDiff, Nat.reduceAdd, Nat.reduceLT, Nat.reduceMul, Nat.reduceLeDiff, reduceCtorEq, Int.reduceNeg, Int.reduceToNat, em2]; rfl) (by first | with_reducible exact True.intro | omega) ?_
     refine xctl ?_
     refine ⟨m - 1 - lo, _, by omega, Ent.env (less_put (less_put (less_put (less_put (less_put (less_put (less_put (less_un0 _) ?_) ?_) ?_) ?_) ?_) ?_) ?_), lo, m - 1, rfl, by omega, by omega, hl1, by rw [show m - 1 + 1 = m by omega]; omega, rfl⟩
     iterate 7 (· exact xlq)
   ·have hlh : lo = hi := by omega
    subst hlh
    have hlow : lo = R' / Y := by
     refine (Nat.div_eq_of_lt_le ?_ ?_).symm
     ·rw [Nat.mul_comm]; exact hl1
     ·rw [Nat.mul_comm]; exact hl2
    have hsm := pcr_rsmall hG lo (by omega)
    have hml := wd_length_le (B := 10000) (n := lo) (k := 1) (by omega) (by omega)
    have hmu := pcr_rmul hG Y lo (by omega) (by omega)
    rw [M, hn] at hmu
    have hsb := pcr_rsub hG R' (Y * lo) hl1 (by omega)
    rw [M] at hsb
    have hst := div_stp (P := 10000 ^ i) (V := vl 10000 q) (low := lo) (a := x0.toNat) hA (by rw [hqv, Nat.pow_succ, Nat.mul_comm (10000 ^ i)]) (by rw [hRR]; exact hl1)
    rw [hRR, ← hdr] at hst
    have hset := vl_setw 10000 q i lo (by omega)
    rw [hq0 i (by omega)] at hset
    have hqv2 : vl 10000 (q.set i lo) = 10000 ^ i * (10000 * Q + lo) := by
     rw [← hst.2]
     simpa using hset
    have hR2 : R' - Y * lo < Y := by
     have := hl2
     rw [Nat.mul_add, Nat.mul_one] at this
     omega
    have e10 : (i : Int) - 1 = (i : Int) - 1 := rfl
    refine xctl ?_
    refine xrg ?_
    refine xctl ?_
    refine xcF ?_
    refine xctl ?_
    refine xrg ?_
    refine xctl ?_
    refine xrg ?_; (refine xca1 ?_; refine xca (hsm) ?_)
    refine xrg ?_; (refine xca1 ?_; refine xca (hmu) ?_)
    refine xrg ?_; (refine xca1 ?_; refine xca (hsb) ?_)
    refine xrg ?_
    refine xctl ?_
    refine xrg ?_
    refine xctl ?_
    refine ⟨i, _, by omega, (Ent.cutk 1 (less_put (less_put (less_put (less_put (less_put (less_un0 _) ?_) ?_) ?_) ?_) ?_) (by exact ⟨.inr rfl, trivial⟩) (kb_put (kb_put (kb_put (kb_put (kb_put (kb_un0 _) (by simp [kb])) (by simp [kb])) (by simp [kb])) (by simp [kb])) (by simp [kb])) (by simp [kbH, kb.kbs, kb, kbs_W, kbs_SS, kbs_V])), i, R' - Y * lo, 10000 * Q + lo, q.set i lo, by omega, rfl, hst.1, hR2, by rw [List.length_set]; exact hql, ok_set hqo _ (by omega), fun i' hi' => ?_, hqv2, rfl⟩
    iterate 5 (· exact xlq)
    rw [List.getD_eq_getElem?_getD, List.getElem?_set_ne (by omega), ← List.getD_eq_getElem?_getD]
    exact hq0 i' (by omega)
end Go.Proofs.YtgdbkigaaooifaaGreatDoorK.RefT
/-
 The document's Gcd, digits, Text: what they compute.
-/
namespace Go.Proofs.YtgdbkigaaooifaaGreatDoorK.RefT
open AI NatIr Dig NatT
attribute [local irreducible] awp awpOps
attribute [local go_sem] V_getD V_set V_take V_drop V_imm V_one V_app V_app1 V_repl V_get1 V_length M List.length_append
variable {G : World → Prop}
theorem wd4_le {X Y : Nat} (h : Y ≤ X) {L : Nat} (hX : (wd 10000 X).length < L) : (wd 10000 Y).length < L := Nat.lt_of_le_of_lt (wd4_mono h) hX
theorem wd4_pos {X : Nat} (h : X ≠ 0) : 0 < (wd 10000 X).length := by
 rcases Nat.eq_zero_or_pos (wd 10000 X).length with h1 | h1
 ·exact absurd ((wd_eq_nil (by omega)).1 (List.eq_nil_of_length_eq_zero h1)) h
 ·exact h1
theorem wd4_zero : (wd 10000 0).length = 0 := by rw [wd_zero]; rfl
theorem pcr_rgcd (hG : Stable G) (X Y : Nat) (hX : (wd 10000 X).length < 30000) (hY : (wd 10000 Y).length < 30000) : PCr Tryz.prog G 211 [M X, M Y] (M (Nat.gcd X Y)) := by
 refine pcr_byq ok211 hG (n := 19) (rv := [.tmp 4]) fun r hr => ?_; unfold c211 st0
 refine xctl ?_
 refine xrg ?_
 refine xctl ?_
 refine awp_loop (fun k σ => ∃ x y : Nat, k = y ∧ Nat.gcd x y = Nat.gcd X Y ∧ (wd 10000 x).length < 30000 ∧ (wd 10000 y).length < 30000 ∧
   σ = ⟨(putE (putE un0 (some 0) (.sl (wd 10000 x).length (V (wd 10000 x)))) (some 1) (.sl (wd 10000 y).length (V (wd 10000 y)))), []⟩) Y (Ent.env (less_put (less_put (less_un0 _) ?_) ?_)) ⟨X, Y, rfl, rfl, hX, hY, rfl⟩ ?_
 iterate 2 (· exact xlq)
 rintro y σ1 ⟨x, _, rfl, hg, hx, hy, rfl⟩
 by_cases h0 : y = 0
 ·subst h0
  have e : (wd 10000 0).length = 0 := by rw [wd_zero]; rfl
  refine xctl ?_
  refine ops_sym (by simp (disch := omega) only [go_sem, Nat.reduceEqDiff, Nat.reduceAdd, Nat.reduceLT, Nat.reduceMul, Nat.reduceLeDiff, reduceCtorEq, Int.reduceNeg, Int.reduceToNat, e]; rfl) (by first | with_reducible exact True.intro | omega) ?_
  refine xctl ?_
  refine xcF ?_
  refine xctl ?_
  refine xrg ?_
  refine xctl ?_
  refine xrt ?_
  rw [hr, ← hg, Nat.gcd_zero_right]; rfl
 ·have hp : (wd 10000 y).length ≠ 0 := fun e => h0 ((wd_eq_nil (by omega)).1 (List.eq_nil_of_length_eq_zero e))
  have hd := pcr_rdiv hG x y h0 hx hy
  have hm := Nat.mod_lt x (show y > 0 by omega)
  refine xctl ?_
  refine xrg ?_
  refine xctl ?_
  refine xct ?_
  refine xctl ?_
  refine xrg ?_; (refine xca1 ?_; refine xca (hd) ?_)
  refine xrg ?_
  refine xctl ?_
  refine xrg ?_
  refine xctl ?_
  refine ⟨x % y, _, hm, Ent.env (less_put (less_put (less_un0 _) ?_) ?_), y, x % y, rfl, by rw [Nat.gcd_comm, ← Nat.gcd_rec, Nat.gcd_comm]; exact hg, hy, wd4_le (Nat.le_of_lt hm) hy, rfl⟩
  iterate 2 (· exact xlq)
theorem dec_lt (n : Nat) : n < 10 ^ (Lib.decDigits n).length := by
 have h := decV_lt (Lib.decDigits n) (dec_isD n)
 rwa [dec_val] at h
theorem dec_gt {n j : Nat} (h : 10 ^ j ≤ n) : j < (Lib.decDigits n).length := by
 rcases Nat.lt_or_ge j (Lib.decDigits n).length with h1 | h1
 ·exact h1
 ·have h2 := dec_lt n
  have h3 : 10 ^ (Lib.decDigits n).length ≤ 10 ^ j := Nat.pow_le_pow_right (by omega) h1
  omega
def nd (least n : Nat) : Nat := max least (Lib.decDigits n).length
theorem dg_next (j n : Nat) : dg (j + 1) n = UInt8.ofNat (48 + n / 10 ^ j % 10) :: dg j n := by
 induction j generalizing n with
 | zero => simp [dg]
 | succ j ih =>
  rw [dg, ih (n / 10), Nat.div_div_eq_div_mul, ← Nat.pow_succ', List.cons_append]
  rw [show dg j (n / 10) ++ [UInt8.ofNat (48 + n % 10)] = dg (j + 1) n from rfl]
theorem dg_self {n : Nat} (h : n ≠ 0) : dg (nd 1 n) n = Lib.decDigits n := by
 have hp := dec_pos n
 rw [nd, Nat.max_eq_right hp]
 have := dg_dec (Lib.decDigits n).length n hp (dec_lt n)
 rw [this.2, Nat.sub_self]; rfl
theorem div10 (n j : Nat) : n / 10 ^ j / 10 = n / 10 ^ (j + 1) := by rw [Nat.div_div_eq_div_mul, Nat.pow_succ]
theorem nd_le {least n : Nat} (h1 : least ≤ 4) (h2 : n < 10000) : nd least n ≤ 4 := by
 have := dec_len (u := n) (k := 4) (by omega) (by omega)
 unfold nd; omega
theorem pcr_rdigits (hG : Stable G) (n least : Nat) (hn : n < 10000) (hl1 : 1 ≤ least) (hl2 : least ≤ 4) : PCr Tryz.prog G 183 [.int .i64 n, .int .i64 least] (.str ⟨(dg (nd least n) n).toArray⟩) := by
 have hnd := nd_le hl2 hn
 refine pcr_byq ok183 hG (n := 25) (rv := [.tmp 4]) fun r hr => ?_; unfold c183 st0
 refine xctl ?_
 refine xrg ?_
 refine xctl ?_
 refine xrg ?_
 refine xctl ?_
 refine awp_loop (fun k σ => ∃ j : Nat, j ≤ nd least n ∧ k = nd least n - j ∧ σ = ⟨(putE (putE (putE un0 (some 0) (.int .i64 ((n / 10 ^ j : Nat) : Int))) (some 1) (.int .i64 least)) (some 5) (.str ⟨(dg j n).toArray⟩)), []⟩) (nd least n)
  (Ent.env (less_put (less_put (less_put (less_un0 _) ?_) ?_) ?_)) ⟨0, Nat.zero_le _, rfl, rfl⟩ ?_
 ·show _ = D.int .i64 ((n / 10 ^ 0 : Nat) : Int)
  rw [Nat.pow_zero, Nat.div_one]
  exact xlq
 iterate 1 (· exact xlq)
 ·show _ = D.str ⟨#[]⟩
  exact xlq
 rintro k σ1 ⟨j, hj, rfl, rfl⟩
 have hsz : (⟨(dg j n).toArray⟩ : ByteArray).size = j := by rw [ba_size, dg_length]
 have hsz2 : (dg j n).toArray.size = j := by simp [dg_length]
 have hm1 : n / 10 ^ j ≤ n := Nat.div_le_self _ _
 have hd10 := div10 n j
 have hnx := dg_next j n
 have hgt : 0 < n / 10 ^ j → j < nd least n := fun h => by
  have h1 : 10 ^ j ≤ n := by
   rcases Nat.lt_or_ge n (10 ^ j) with h2 | h2
   ·rw [Nat.div_eq_of_lt h2] at h; omega
   ·exact h2
  have := dec_gt h1
  unfold nd; omega
 have hlt : j < least → j < nd least n := fun h => by unfold nd; omega
 have hend : n / 10 ^ j = 0 → ¬ j < least → j = nd least n := fun h h1 => by
  have h2 : n < 10 ^ j := by
   rcases Nat.lt_or_ge n (10 ^ j) with h3 | h3
   ·exact h3
   ·have := Nat.div_pos h3 (Nat.pow_pos (by omega)); omega
  have := dec_len h2 (by omega)
  have : nd least n ≤ j := by unfold nd; omega
  omega
 generalize hm : n / 10 ^ j = m at *
 have fin : ∀ l : List UInt8, (⟨#[UInt8.ofNat (48 + m % 10)]⟩ : ByteArray) ++ ⟨l.toArray⟩ = ⟨(UInt8.ofNat (48 + m % 10) :: l).toArray⟩ := fun l => ba_ext (by simp [ByteArray.data_append])
 have em : (48 + (m : Int) % 10).toNat = 48 + m % 10 := by omega
 have hs1 : (Array.mk [UInt8.ofNat (48 + m % 10)]).size = 1 := rfl
 have hs2 : (#[UInt8.ofNat (48 + m % 10)]).size = 1 := rfl
 by_cases h1 : 0 < m
 ·have hjn := hgt h1
  refine xctl ?_
  refine xrg ?_
  refine xctl ?_
  refine xct ?_
  refine xctl ?_
  refine ops_sym (by simp (disch := omega) only [go_sem, Nat.reduceEqDiff, Nat.reduceAdd, Nat.reduceLT, Nat.reduceMul, Nat.reduceLeDiff, reduceCtorEq, Int.reduceNeg, Int.reduceToNat, em]; rfl) (by first | with_reducible exact True.intro | omega) ?_
  refine xctl ?_
  refine xrg ?_
  refine xctl ?_
  refine ⟨nd least n - (j + 1), _, by omega, (Ent.cutk 0 (less_put (less_put (less_put (less_un0 _) ?_) ?_) ?_) (by exact trivial) (kb_put (kb_put (kb_put (kb_un0 _) (by simp [kb])) (by simp [kb])) (by simp [kb])) (by simp [kbH, kb.kbs, kb, kbs_W, kbs_SS, kbs_V])), j + 1, by omega, rfl, rfl⟩
  ·simp only [go_sem, Nat.reduceEqDiff, Nat.reduceAdd, Nat.reduceLT, Nat.reduceMul, Nat.reduceLeDiff, reduceCtorEq, Int.reduceNeg, Int.reduceToNat]
   rw [← hd10]; exact congrArg (D.int .i64) (by omega)
  ·exact xlq
  ·simp only [go_sem, Nat.reduceEqDiff, Nat.reduceAdd, Nat.reduceLT, Nat.reduceMul, Nat.reduceLeDiff, reduceCtorEq, Int.reduceNeg, Int.reduceToNat]
   rw [hnx]; exact congrArg D.str (fin _)
 ·have hm0 : m = 0 := by omega
  by_cases h2 : j < least
  ·have hjn := hlt h2
   refine xctl ?_
   refine ops_sym (by simp (disch := omega) only [go_sem, Nat.reduceEqDiff, Nat.reduceAdd, Nat.reduceLT, Nat.reduceMul, Nat.reduceLeDiff, reduceCtorEq, Int.reduceNeg, Int.reduceToNat, hsz, hsz2]; rfl) (by first | with_reducible exact True.intro | omega) ?_
   refine xctl ?_
   refine xct ?_
   refine xctl ?_
   refine ops_sym (by simp (disch := omega) only [go_sem, Nat.reduceEqDiff, Nat.reduceAdd, Nat.reduceLT, Nat.reduceMul, Nat.reduceLeDiff, reduceCtorEq, Int.reduceNeg, Int.reduceToNat, em]; rfl) (by first | with_reducible exact True.intro | omega) ?_
   refine xctl ?_
   refine xrg ?_
   refine xctl ?_
   refine ⟨nd least n - (j + 1), _, by omega, (Ent.cutk 0 (less_put (less_put (less_put (less_un0 _) ?_) ?_) ?_) (by exact trivial) (kb_put (kb_put (kb_put (kb_un0 _) (by simp [kb])) (by simp [kb])) (by simp [kb])) (by simp [kbH, kb.kbs, kb, kbs_W, kbs_SS, kbs_V])), j + 1, by omega, rfl, rfl⟩
   ·simp only [go_sem, Nat.reduceEqDiff, Nat.reduceAdd, Nat.reduceLT, Nat.reduceMul, Nat.reduceLeDiff, reduceCtorEq, Int.reduceNeg, Int.reduceToNat]
    rw [← hd10]; exact congrArg (D.int .i64) (by omega)
   ·exact xlq
   ·simp only [go_sem, Nat.reduceEqDiff, Nat.reduceAdd, Nat.reduceLT, Nat.reduceMul, Nat.reduceLeDiff, reduceCtorEq, Int.reduceNeg, Int.reduceToNat]
    rw [hnx]; exact congrArg D.str (fin _)
  ·have hjn := hend hm0 h2
   refine xctl ?_
   refine ops_sym (by simp (disch := omega) only [go_sem, Nat.reduceEqDiff, Nat.reduceAdd, Nat.reduceLT, Nat.reduceMul, Nat.reduceLeDiff, reduceCtorEq, Int.reduceNeg, Int.reduceToNat, hsz, hsz2]; rfl) (by first | with_reducible exact True.intro | omega) ?_
   refine xctl ?_
   refine xcF ?_
   refine xctl ?_
   refine xrg ?_
   refine xctl ?_
   refine xrt ?_
   rw [hr, hjn]
theorem text_next {V d i : Nat} (hV : V ≠ 0) (hd : d < 10000) : Lib.decDigits (d + 10000 * V) = Lib.decDigits V ++ dg (nd 4 d) d := by
 have h1 := dec_add 4 V d (by omega) (by omega)
 have h2 := dec_len (u := d) (k := 4) (by omega) (by omega)
 rw [nd, Nat.max_eq_left h2, ← h1, show V * 10 ^ 4 + d = d + 10000 * V by omega]
theorem pcr_rtext (hG : Stable G) (X : Nat) (hX : (wd 10000 X).length < 30000) : PCr Tryz.prog G 143 [M X] (.str ⟨(Lib.decDigits X).toArray⟩) := by
 have ha := ok_wd (B := 10000) (by omega) X
 have hva := vl_wd (B := 10000) (by omega) X
 by_cases h0 : X = 0
 ·subst h0
  have e : (wd 10000 0).length = 0 := by rw [wd_zero]; rfl
  refine pcr_byq ok143 hG (n := 30) (rv := [.tmp 2]) fun r hr => ?_; unfold c143 st0
  refine xctl ?_
  refine xrg ?_
  refine xctl ?_
  refine ops_sym (by simp (disch := omega) only [go_sem, Nat.reduceEqDiff, Nat.reduceAdd, Nat.reduceLT, Nat.reduceMul, Nat.reduceLeDiff, reduceCtorEq, Int.reduceNeg, Int.reduceToNat, e]; rfl) (by first | with_reducible exact True.intro | omega) ?_
  refine xctl ?_
  refine xct ?_
  refine xctl ?_
  refine xrg ?_
  refine xctl ?_
  refine xrt ?_
  rw [hr, dec_small (by omega)]; rfl
 ·have hp : (wd 10000 X).length ≠ 0 := fun e => h0 ((wd_eq_nil (by omega)).1 (List.eq_nil_of_length_eq_zero e))
  have hlast := wd_last (B := 10000) (by omega) X
  rw [M]
  generalize wd 10000 X = a at *
  have hl1 := ok_get ha (by omega) (a.length - 1)
  have hl0 : a.getD (a.length - 1) 0 ≠ 0 := by
   have hne : a ≠ [] := fun e => hp (by rw [e]; rfl)
   have := getD_last hne
   exact hlast _ this
  obtain ⟨d, hd⟩ := Int.eq_ofNat_of_zero_le hl1.1
  have e1 : ((a.length : Int) - 1).toNat = a.length - 1 := by omega
  have hdig := pcr_rdigits hG d 1 (by omega) (by omega) (by omega)
  rw [dg_self (by omega)] at hdig
  have hdrop : vl 10000 (a.drop (a.length - 1)) = d := by
   rw [List.drop_eq_getElem_cons (by omega), List.drop_of_length_le (by omega), vl_cons, vl_nil]
   rw [List.getD_eq_getElem?_getD, List.getElem?_eq_getElem (by omega)] at hd
   simp only [Option.getD_some] at hd
   rw [hd]; simp
  refine pcr_byq ok143 hG (n := 30) (rv := [.tmp 2]) fun r hr => ?_; unfold c143 st0
  refine xctl ?_
  refine xrg ?_
  refine xctl ?_
  refine xrg ?_
  refine xctl ?_
  refine xcF ?_
  refine xctl ?_
  refine ops_sym (by simp (disch := omega) only [go_sem, Nat.reduceEqDiff, Nat.reduceAdd, Nat.reduceLT, Nat.reduceMul, Nat.reduceLeDiff, reduceCtorEq, Int.reduceNeg, Int.reduceToNat, e1, hd]; rfl) (by first | with_reducible exact True.intro | omega) ?_
  refine xca1 ?_; refine xca hdig ?_
  refine xrg ?_
  refine xctl ?_
  refine xrg ?_
  refine xctl ?_
  refine awp_loop (fun k σ => ∃ j : Nat, j + 1 ≤ a.length ∧ k = j ∧ σ = ⟨(putE (putE (putE un0 (some 0) (.sl a.length (V a))) (some 3) (.str ⟨(Lib.decDigits (vl 10000 (a.drop j))).toArray⟩)) (some 4) (.int .i64 ((j : Int) - 1))), []⟩) (a.length - 1)
   (Ent.env (less_put (less_put (less_put (less_un0 _) ?_) ?_) ?_)) ⟨a.length - 1, by omega, rfl, rfl⟩ ?_
  iterate 1 (· exact xlq)
  ·show _ = D.str ⟨(Lib.decDigits (vl 10000 (a.drop (a.length - 1)))).toArray⟩
   rw [hdrop]
   exact xlq
  ·simp only [go_sem, Nat.reduceEqDiff, Nat.reduceAdd, Nat.reduceLT, Nat.reduceMul, Nat.reduceLeDiff, reduceCtorEq, Int.reduceNeg, Int.reduceToNat]
   exact congrArg (D.int .i64) (by omega)
  rintro j σ1 ⟨_, hj, rfl, rfl⟩
  by_cases hj0 : j = 0
  ·subst hj0
   refine xctl ?_
   refine xrg ?_
   refine xctl ?_
   refine xcF ?_
   refine xctl ?_
   refine xrg ?_
   refine xctl ?_
   refine xrt ?_
   rw [hr, hva]
  ·obtain ⟨i, rfl⟩ : ∃ i, j = i + 1 := ⟨j - 1, by omega⟩
   have gi := ok_get ha (by omega) i
   obtain ⟨c, hc⟩ := Int.eq_ofNat_of_zero_le gi.1
   have e2 : (i : Int) + 1 - 1 = i := by omega
   have hdg := pcr_rdigits hG c 4 (by omega) (by omega) (by omega)
   have hV : vl 10000 (a.drop (i + 1)) ≠ 0 := by
    intro h
    have h1 : vl 10000 (a.drop (a.length - 1)) ≠ 0 := by rw [hdrop]; omega
    have h2 : a.drop (a.length - 1) = (a.drop (i + 1)).drop (a.length - 1 - (i + 1)) := by rw [List.drop_drop]; congr 1; omega
    have h3 := vl_take_drop 10000 (a.drop (i + 1)) (a.length - 1 - (i + 1))
    rw [h, ← h2] at h3
    have h4 : 0 < 10000 ^ min (a.length - 1 - (i + 1)) (a.drop (i + 1)).length := Nat.pow_pos (by omega)
    have h5 := Nat.mul_pos h4 (Nat.pos_of_ne_zero h1)
    omega
   have hdr : vl 10000 (a.drop i) = c + 10000 * vl 10000 (a.drop (i + 1)) := by
    rw [List.drop_eq_getElem_cons (by omega), vl_cons]
    rw [List.getD_eq_getElem?_getD, List.getElem?_eq_getElem (by omega)] at hc
    simp only [Option.getD_some] at hc
    rw [hc]; rfl
   have htn := text_next (V := vl 10000 (a.drop (i + 1))) (d := c) (i := i) hV (by omega)
   rw [← hdr] at htn
   have hlen : (Lib.decDigits (vl 10000 (a.drop (i + 1)))).length ≤ 4 * a.length + 1 := by
    refine dec_len (Nat.lt_of_lt_of_le (vl_lt (ok_drop ha (i + 1))) ?_) (by omega)
    rw [show (10000 : Nat) = 10 ^ 4 from rfl, ← Nat.pow_mul]
    refine Nat.pow_le_pow_right (by omega) ?_
    rw [List.length_drop]; omega
   have s1 : (Lib.decDigits (vl 10000 (a.drop (i + 1)))).toArray.size = (Lib.decDigits (vl 10000 (a.drop (i + 1)))).length := by simp
   have s2 : (dg (nd 4 c) c).toArray.size = nd 4 c := by simp [dg_length]
   have s3 := nd_le (least := 4) (n := c) (by omega) (by omega)
   refine xctl ?_
   refine xrg ?_
   refine xctl ?_
   refine xct ?_
   refine xctl ?_
   refine ops_sym (by simp (disch := omega) only [go_sem, Nat.reduceEqDiff, Nat.reduceAdd, Nat.reduceLT, Nat.reduceMul, Nat.reduceLeDiff, reduceCtorEq, Int.reduceNeg, Int.reduceToNat, e2, hc]; rfl) (by first | with_reducible exact True.intro | omega) ?_
   refine xca1 ?_; refine xca hdg ?_
   refine xrg ?_
   refine xctl ?_
   refine xrg ?_
   refine xctl ?_
   refine ⟨i, _, by omega, Ent.env (less_put (less_put (less_put (less_un0 _) ?_) ?_) ?_), i, by omega, rfl, rfl⟩
   iterate 1 (· exact xlq)
   ·simp only [go_sem, Nat.reduceEqDiff, Nat.reduceAdd, Nat.reduceLT, Nat.reduceMul, Nat.reduceLeDiff, reduceCtorEq, Int.reduceNeg, Int.reduceToNat]
    refine congrArg D.str ?_
    rw [htn]
    exact ba_ext (by simp [ByteArray.data_append])
   ·exact xlq
end Go.Proofs.YtgdbkigaaooifaaGreatDoorK.RefT
