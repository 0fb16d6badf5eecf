/-
  Joined: RefE, RefF, RefG.
-/
import Derived.Test.YtgimaioeifnajaaGreatDoorKRa
import Derived.Test.YtgimaioeifnajaaGreatDoorKParseN
import Derived.Test.YtgimaioeifnajaaGreatDoorKIrRef
import Derived.Test.YtgimaioeifnajaaGreatDoorKNd
set_option linter.all false
set_option maxHeartbeats 0
/-
  The document's Parse: what it computes.
-/
namespace Go.Proofs.YtgimaioeifnajaaGreatDoorK.RefT
open AI NatIr Dig NatT
attribute [local irreducible] awp awpOps
attribute [local go_sem] V_getD V_set V_take V_drop V_imm V_one V_app V_app1 V_repl V_get1 V_length M List.length_append
variable {G : World → Prop}
theorem bt_get (s : ByteArray) (i : Nat) : bt s i = ((s.data.toList.getD i 0).toNat : Int) := by
  simp [bt]
theorem bt_lt (s : ByteArray) (i : Nat) : 0 ≤ bt s i ∧ bt s i ≤ 255 := by
  rw [bt_get]
  have := (s.data.toList.getD i 0).toNat_lt
  omega
theorem allD_at {s : ByteArray} (h : allD s = true) {i : Nat} (hi : i < s.size) : 48 ≤ bt s i ∧ bt s i ≤ 57 := by
  have h1 : s.data.toList.getD i 0 ∈ s.data.toList := by
    rw [List.getD_eq_getElem?_getD, List.getElem?_eq_getElem (by rw [ba_len]; exact hi)]
    exact List.getElem_mem _
  have h2 := of_decide_eq_true (allD_iff.1 h _ h1)
  rw [bt_get]
  omega
theorem allD_of {s : ByteArray} (h : ∀ i, i < s.size → 48 ≤ bt s i ∧ bt s i ≤ 57) : allD s = true := by
  refine allD_iff.2 fun c hc => ?_
  obtain ⟨i, hi, rfl⟩ := List.getElem_of_mem hc
  have h1 := h i (by rw [ba_len] at hi; exact hi)
  rw [bt_get, List.getD_eq_getElem?_getD, List.getElem?_eq_getElem hi] at h1
  refine decide_eq_true ?_
  simp only [Option.getD_some] at h1
  omega
def chunk (l : List UInt8) (a b : Nat) : Nat := decV ((l.take b).drop a)
theorem chunk_self (l : List UInt8) (a : Nat) : chunk l a a = 0 := by
  rw [chunk, List.drop_eq_nil_of_le (by simp; omega)]; rfl
theorem chunk_next {l : List UInt8} {a b : Nat} (hab : a ≤ b) (hb : b < l.length) : chunk l a (b + 1) = 10 * chunk l a b + ((l.getD b 0).toNat - 48) := by
  have h1 : l.take (b + 1) = l.take b ++ [l.getD b 0] := by
    rw [List.take_succ, List.getElem?_eq_getElem hb, List.getD_eq_getElem?_getD, List.getElem?_eq_getElem hb]; rfl
  rw [chunk, h1, List.drop_append_of_le_length (by simp; omega), decV_app, List.length_singleton, Nat.pow_one, Nat.mul_comm, ← chunk]
  congr 1
  simp [decV]
theorem chunk_lt {l : List UInt8} (h : ∀ c ∈ l, isD c = true) (a b : Nat) : chunk l a b < 10 ^ (b - a) := by
  have h1 := decV_lt ((l.take b).drop a) (fun c hc => h c (List.mem_of_mem_take (List.mem_of_mem_drop hc)))
  refine Nat.lt_of_lt_of_le h1 (Nat.pow_le_pow_right (by omega) ?_)
  simp only [List.length_drop, List.length_take]
  omega
theorem chunk_drop {l : List UInt8} {a b : Nat} (hab : a ≤ b) (hb : b ≤ l.length) : decV (l.drop a) = chunk l a b * 10 ^ (l.length - b) + decV (l.drop b) := by
  have h1 : l.drop a = (l.take b).drop a ++ l.drop b := by
    rw [← List.drop_append_of_le_length (by simp; omega), List.take_append_drop]
  rw [h1, decV_app, List.length_drop]; rfl
theorem pow4 (c : Nat) : 10 ^ (4 * c) = 10000 ^ c := by rw [Nat.pow_mul]
end Go.Proofs.YtgimaioeifnajaaGreatDoorK.RefT
/-
  The document's Sub, Div, Gcd: what they compute.
-/
namespace Go.Proofs.YtgimaioeifnajaaGreatDoorK.RefT
open AI NatIr Dig NatT
attribute [local irreducible] awp awpOps
attribute [local go_sem] V_getD V_set V_take V_drop V_imm V_one V_app V_app1 V_repl V_get1 V_length M List.length_append
variable {G : World → Prop}
theorem wd4_mono {X Y : Nat} (h : Y ≤ X) : (wd 10000 Y).length ≤ (wd 10000 X).length := by
  refine wd_length_le (by omega) (Nat.lt_of_le_of_lt h ?_)
  have := vl_lt (ok_wd (B := 10000) (by omega) X)
  rwa [vl_wd (by omega)] at this
theorem sub_stp {P A B L a b c c' d : Nat} (h : A + P * c = L + B) (hd : a + 10000 * c' = d + b + c) : (A + P * a) + P * (10000 * c') = (L + P * d) + (B + P * b) := by
  have h1 := congrArg (P * ·) hd
  simp only [Nat.mul_add] at h1
  omega
theorem lt_stop {X Y L P c : Nat} (h : X + P * c = L + Y) (hL : L < P) (hc : c ≤ 1) (hYX : Y ≤ X) : c = 0 ∧ L = X - Y := by
  rcases Nat.eq_zero_or_pos c with h0 | h0
  · subst h0; omega
  · obtain rfl : c = 1 := by omega
    omega
end Go.Proofs.YtgimaioeifnajaaGreatDoorK.RefT
/-
  The document's Gcd, digits, Text: what they compute.
-/
namespace Go.Proofs.YtgimaioeifnajaaGreatDoorK.RefT
open AI NatIr Dig NatT
attribute [local irreducible] awp awpOps
attribute [local go_sem] V_getD V_set V_take V_drop V_imm V_one V_app V_app1 V_repl V_get1 V_length M List.length_append
variable {G : World → Prop}
theorem wd4_le {X Y : Nat} (h : Y ≤ X) {L : Nat} (hX : (wd 10000 X).length < L) : (wd 10000 Y).length < L := Nat.lt_of_le_of_lt (wd4_mono h) hX
theorem wd4_pos {X : Nat} (h : X ≠ 0) : 0 < (wd 10000 X).length := by
  rcases Nat.eq_zero_or_pos (wd 10000 X).length with h1 | h1
  · exact absurd ((wd_eq_nil (by omega)).1 (List.eq_nil_of_length_eq_zero h1)) h
  · exact h1
theorem wd4_zero : (wd 10000 0).length = 0 := by rw [wd_zero]; rfl
theorem dec_lt (n : Nat) : n < 10 ^ (Lib.decDigits n).length := by
  have h := decV_lt (Lib.decDigits n) (dec_isD n)
  rwa [dec_val] at h
theorem dec_gt {n j : Nat} (h : 10 ^ j ≤ n) : j < (Lib.decDigits n).length := by
  rcases Nat.lt_or_ge j (Lib.decDigits n).length with h1 | h1
  · exact h1
  · have h2 := dec_lt n
    have h3 : 10 ^ (Lib.decDigits n).length ≤ 10 ^ j := Nat.pow_le_pow_right (by omega) h1
    omega
def nd (least n : Nat) : Nat := max least (Lib.decDigits n).length
theorem dg_next (j n : Nat) : dg (j + 1) n = UInt8.ofNat (48 + n / 10 ^ j % 10) :: dg j n := by
  induction j generalizing n with
  | zero => simp [dg]
  | succ j ih =>
    rw [dg, ih (n / 10), Nat.div_div_eq_div_mul, ← Nat.pow_succ', List.cons_append]
    rw [show dg j (n / 10) ++ [UInt8.ofNat (48 + n % 10)] = dg (j + 1) n from rfl]
theorem dg_self {n : Nat} (h : n ≠ 0) : dg (nd 1 n) n = Lib.decDigits n := by
  have hp := dec_pos n
  rw [nd, Nat.max_eq_right hp]
  have := dg_dec (Lib.decDigits n).length n hp (dec_lt n)
  rw [this.2, Nat.sub_self]; rfl
theorem div10 (n j : Nat) : n / 10 ^ j / 10 = n / 10 ^ (j + 1) := by rw [Nat.div_div_eq_div_mul, Nat.pow_succ]
theorem nd_le {least n : Nat} (h1 : least ≤ 4) (h2 : n < 10000) : nd least n ≤ 4 := by
  have := dec_len (u := n) (k := 4) (by omega) (by omega)
  unfold nd; omega
theorem pcr_rdigits (hG : Stable G) (n least : Nat) (hn : n < 10000) (hl1 : 1 ≤ least) (hl2 : least ≤ 4) : PCr Tryz.prog G 166 [.int .i64 n, .int .i64 least] (.str ⟨(dg (nd least n) n).toArray⟩) := by
  have hnd := nd_le hl2 hn
  refine pcr_byq ok166 hG (n := 25) (rv := [.tmp 4]) fun r hr => ?_; unfold c166 st0
  refine xctl ?_
  refine xrg ?_
  refine xctl ?_
  refine xrg ?_
  refine xctl ?_
  refine awp_loop (fun k σ => ∃ j : Nat, j ≤ nd least n ∧ k = nd least n - j ∧ σ = ⟨(putE (putE (putE un0 (some 0) (.int .i64 ((n / 10 ^ j : Nat) : Int))) (some 1) (.int .i64 least)) (some 5) (.str ⟨(dg j n).toArray⟩)), []⟩) (nd least n)
    (Ent.env (less_put (less_put (less_put (less_un0 _) ?_) ?_) ?_)) ⟨0, Nat.zero_le _, rfl, rfl⟩ ?_
  · show _ = D.int .i64 ((n / 10 ^ 0 : Nat) : Int)
    rw [Nat.pow_zero, Nat.div_one]
    exact xlq
  iterate 1 (· exact xlq)
  · show _ = D.str ⟨#[]⟩
    exact xlq
  rintro k σ1 ⟨j, hj, rfl, rfl⟩
  have hsz : (⟨(dg j n).toArray⟩ : ByteArray).size = j := by rw [ba_size, dg_length]
  have hsz2 : (dg j n).toArray.size = j := by simp [dg_length]
  have hm1 : n / 10 ^ j ≤ n := Nat.div_le_self _ _
  have hd10 := div10 n j
  have hnx := dg_next j n
  have hgt : 0 < n / 10 ^ j → j < nd least n := fun h => by
    have h1 : 10 ^ j ≤ n := by
      rcases Nat.lt_or_ge n (10 ^ j) with h2 | h2
      · rw [Nat.div_eq_of_lt h2] at h; omega
      · exact h2
    have := dec_gt h1
    unfold nd; omega
  have hlt : j < least → j < nd least n := fun h => by unfold nd; omega
  have hend : n / 10 ^ j = 0 → ¬ j < least → j = nd least n := fun h h1 => by
    have h2 : n < 10 ^ j := by
      rcases Nat.lt_or_ge n (10 ^ j) with h3 | h3
      · exact h3
      · have := Nat.div_pos h3 (Nat.pow_pos (by omega)); omega
    have := dec_len h2 (by omega)
    have : nd least n ≤ j := by unfold nd; omega
    omega
  generalize hm : n / 10 ^ j = m at *
  have fin : ∀ l : List UInt8, (⟨#[UInt8.ofNat (48 + m % 10)]⟩ : ByteArray) ++ ⟨l.toArray⟩ = ⟨(UInt8.ofNat (48 + m % 10) :: l).toArray⟩ := fun l => ba_ext (by simp [ByteArray.data_append])
  have em : (48 + (m : Int) % 10).toNat = 48 + m % 10 := by omega
  have hs1 : (Array.mk [UInt8.ofNat (48 + m % 10)]).size = 1 := rfl
  have hs2 : (#[UInt8.ofNat (48 + m % 10)]).size = 1 := rfl
  by_cases h1 : 0 < m
  · have hjn := hgt h1
    refine xctl ?_
    refine xrg ?_
    refine xctl ?_
    refine xct ?_
    refine xctl ?_
    refine ops_sym (by simp (disch := omega) only [go_sem, Nat.reduceEqDiff, Nat.reduceAdd, Nat.reduceLT, Nat.reduceMul, Nat.reduceLeDiff, reduceCtorEq, Int.reduceNeg, Int.reduceToNat, em]; rfl) (by first | with_reducible exact True.intro | omega) ?_
    refine xctl ?_
    refine xrg ?_
    refine xctl ?_
    refine ⟨nd least n - (j + 1), _, by omega, (Ent.cutk 0 (less_put (less_put (less_put (less_un0 _) ?_) ?_) ?_) (by exact trivial) (kb_put (kb_put (kb_put (kb_un0 _) (by simp [kb])) (by simp [kb])) (by simp [kb])) (by simp [kbH, kb.kbs, kb, kbs_W, kbs_SS, kbs_V])), j + 1, by omega, rfl, rfl⟩
    · simp only [go_sem, Nat.reduceEqDiff, Nat.reduceAdd, Nat.reduceLT, Nat.reduceMul, Nat.reduceLeDiff, reduceCtorEq, Int.reduceNeg, Int.reduceToNat]
      rw [← hd10]; exact congrArg (D.int .i64) (by omega)
    · exact xlq
    · simp only [go_sem, Nat.reduceEqDiff, Nat.reduceAdd, Nat.reduceLT, Nat.reduceMul, Nat.reduceLeDiff, reduceCtorEq, Int.reduceNeg, Int.reduceToNat]
      rw [hnx]; exact congrArg D.str (fin _)
  · have hm0 : m = 0 := by omega
    by_cases h2 : j < least
    · have hjn := hlt h2
      refine xctl ?_
      refine ops_sym (by simp (disch := omega) only [go_sem, Nat.reduceEqDiff, Nat.reduceAdd, Nat.reduceLT, Nat.reduceMul, Nat.reduceLeDiff, reduceCtorEq, Int.reduceNeg, Int.reduceToNat, hsz, hsz2]; rfl) (by first | with_reducible exact True.intro | omega) ?_
      refine xctl ?_
      refine xct ?_
      refine xctl ?_
      refine ops_sym (by simp (disch := omega) only [go_sem, Nat.reduceEqDiff, Nat.reduceAdd, Nat.reduceLT, Nat.reduceMul, Nat.reduceLeDiff, reduceCtorEq, Int.reduceNeg, Int.reduceToNat, em]; rfl) (by first | with_reducible exact True.intro | omega) ?_
      refine xctl ?_
      refine xrg ?_
      refine xctl ?_
      refine ⟨nd least n - (j + 1), _, by omega, (Ent.cutk 0 (less_put (less_put (less_put (less_un0 _) ?_) ?_) ?_) (by exact trivial) (kb_put (kb_put (kb_put (kb_un0 _) (by simp [kb])) (by simp [kb])) (by simp [kb])) (by simp [kbH, kb.kbs, kb, kbs_W, kbs_SS, kbs_V])), j + 1, by omega, rfl, rfl⟩
      · simp only [go_sem, Nat.reduceEqDiff, Nat.reduceAdd, Nat.reduceLT, Nat.reduceMul, Nat.reduceLeDiff, reduceCtorEq, Int.reduceNeg, Int.reduceToNat]
        rw [← hd10]; exact congrArg (D.int .i64) (by omega)
      · exact xlq
      · simp only [go_sem, Nat.reduceEqDiff, Nat.reduceAdd, Nat.reduceLT, Nat.reduceMul, Nat.reduceLeDiff, reduceCtorEq, Int.reduceNeg, Int.reduceToNat]
        rw [hnx]; exact congrArg D.str (fin _)
    · have hjn := hend hm0 h2
      refine xctl ?_
      refine ops_sym (by simp (disch := omega) only [go_sem, Nat.reduceEqDiff, Nat.reduceAdd, Nat.reduceLT, Nat.reduceMul, Nat.reduceLeDiff, reduceCtorEq, Int.reduceNeg, Int.reduceToNat, hsz, hsz2]; rfl) (by first | with_reducible exact True.intro | omega) ?_
      refine xctl ?_
      refine xcF ?_
      refine xctl ?_
      refine xrg ?_
      refine xctl ?_
      refine xrt ?_
      rw [hr, hjn]
theorem text_next {V d i : Nat} (hV : V ≠ 0) (hd : d < 10000) : Lib.decDigits (d + 10000 * V) = Lib.decDigits V ++ dg (nd 4 d) d := by
  have h1 := dec_add 4 V d (by omega) (by omega)
  have h2 := dec_len (u := d) (k := 4) (by omega) (by omega)
  rw [nd, Nat.max_eq_left h2, ← h1, show V * 10 ^ 4 + d = d + 10000 * V by omega]
theorem pcr_rtext (hG : Stable G) (X : Nat) (hX : (wd 10000 X).length < 30000) : PCr Tryz.prog G 144 [M X] (.str ⟨(Lib.decDigits X).toArray⟩) := by
  have ha := ok_wd (B := 10000) (by omega) X
  have hva := vl_wd (B := 10000) (by omega) X
  by_cases h0 : X = 0
  · subst h0
    have e : (wd 10000 0).length = 0 := by rw [wd_zero]; rfl
    refine pcr_byq ok144 hG (n := 30) (rv := [.tmp 2]) fun r hr => ?_; unfold c144 st0
    refine xctl ?_
    refine xrg ?_
    refine xctl ?_
    refine ops_sym (by simp (disch := omega) only [go_sem, Nat.reduceEqDiff, Nat.reduceAdd, Nat.reduceLT, Nat.reduceMul, Nat.reduceLeDiff, reduceCtorEq, Int.reduceNeg, Int.reduceToNat, e]; rfl) (by first | with_reducible exact True.intro | omega) ?_
    refine xctl ?_
    refine xct ?_
    refine xctl ?_
    refine xrg ?_
    refine xctl ?_
    refine xrt ?_
    rw [hr, dec_small (by omega)]; rfl
  · have hp : (wd 10000 X).length ≠ 0 := fun e => h0 ((wd_eq_nil (by omega)).1 (List.eq_nil_of_length_eq_zero e))
    have hlast := wd_last (B := 10000) (by omega) X
    rw [M]
    generalize wd 10000 X = a at *
    have hl1 := ok_get ha (by omega) (a.length - 1)
    have hl0 : a.getD (a.length - 1) 0 ≠ 0 := by
      have hne : a ≠ [] := fun e => hp (by rw [e]; rfl)
      have := getD_last hne
      exact hlast _ this
    obtain ⟨d, hd⟩ := Int.eq_ofNat_of_zero_le hl1.1
    have e1 : ((a.length : Int) - 1).toNat = a.length - 1 := by omega
    have hdig := pcr_rdigits hG d 1 (by omega) (by omega) (by omega)
    rw [dg_self (by omega)] at hdig
    have hdrop : vl 10000 (a.drop (a.length - 1)) = d := by
      rw [List.drop_eq_getElem_cons (by omega), List.drop_of_length_le (by omega), vl_cons, vl_nil]
      rw [List.getD_eq_getElem?_getD, List.getElem?_eq_getElem (by omega)] at hd
      simp only [Option.getD_some] at hd
      rw [hd]; simp
    refine pcr_byq ok144 hG (n := 30) (rv := [.tmp 2]) fun r hr => ?_; unfold c144 st0
    refine xctl ?_
    refine xrg ?_
    refine xctl ?_
    refine xrg ?_
    refine xctl ?_
    refine xcF ?_
    refine xctl ?_
    refine ops_sym (by simp (disch := omega) only [go_sem, Nat.reduceEqDiff, Nat.reduceAdd, Nat.reduceLT, Nat.reduceMul, Nat.reduceLeDiff, reduceCtorEq, Int.reduceNeg, Int.reduceToNat, e1, hd]; rfl) (by first | with_reducible exact True.intro | omega) ?_
    refine xca1 ?_; refine xca hdig ?_
    refine xrg ?_
    refine xctl ?_
    refine xrg ?_
    refine xctl ?_
    refine awp_loop (fun k σ => ∃ j : Nat, j + 1 ≤ a.length ∧ k = j ∧ σ = ⟨(putE (putE (putE un0 (some 0) (.sl a.length (V a))) (some 3) (.str ⟨(Lib.decDigits (vl 10000 (a.drop j))).toArray⟩)) (some 4) (.int .i64 ((j : Int) - 1))), []⟩) (a.length - 1)
      (Ent.env (less_put (less_put (less_put (less_un0 _) ?_) ?_) ?_)) ⟨a.length - 1, by omega, rfl, rfl⟩ ?_
    iterate 1 (· exact xlq)
    · show _ = D.str ⟨(Lib.decDigits (vl 10000 (a.drop (a.length - 1)))).toArray⟩
      rw [hdrop]
      exact xlq
    · simp only [go_sem, Nat.reduceEqDiff, Nat.reduceAdd, Nat.reduceLT, Nat.reduceMul, Nat.reduceLeDiff, reduceCtorEq, Int.reduceNeg, Int.reduceToNat]
      exact congrArg (D.int .i64) (by omega)
    rintro j σ1 ⟨_, hj, rfl, rfl⟩
    by_cases hj0 : j = 0
    · subst hj0
      refine xctl ?_
      refine xrg ?_
      refine xctl ?_
      refine xcF ?_
      refine xctl ?_
      refine xrg ?_
      refine xctl ?_
      refine xrt ?_
      rw [hr, hva]
    · obtain ⟨i, rfl⟩ : ∃ i, j = i + 1 := ⟨j - 1, by omega⟩
      have gi := ok_get ha (by omega) i
      obtain ⟨c, hc⟩ := Int.eq_ofNat_of_zero_le gi.1
      have e2 : (i : Int) + 1 - 1 = i := by omega
      have hdg := pcr_rdigits hG c 4 (by omega) (by omega) (by omega)
      have hV : vl 10000 (a.drop (i + 1)) ≠ 0 := by
        intro h
        have h1 : vl 10000 (a.drop (a.length - 1)) ≠ 0 := by rw [hdrop]; omega
        have h2 : a.drop (a.length - 1) = (a.drop (i + 1)).drop (a.length - 1 - (i + 1)) := by rw [List.drop_drop]; congr 1; omega
        have h3 := vl_take_drop 10000 (a.drop (i + 1)) (a.length - 1 - (i + 1))
        rw [h, ← h2] at h3
        have h4 : 0 < 10000 ^ min (a.length - 1 - (i + 1)) (a.drop (i + 1)).length := Nat.pow_pos (by omega)
        have h5 := Nat.mul_pos h4 (Nat.pos_of_ne_zero h1)
        omega
      have hdr : vl 10000 (a.drop i) = c + 10000 * vl 10000 (a.drop (i + 1)) := by
        rw [List.drop_eq_getElem_cons (by omega), vl_cons]
        rw [List.getD_eq_getElem?_getD, List.getElem?_eq_getElem (by omega)] at hc
        simp only [Option.getD_some] at hc
        rw [hc]; rfl
      have htn := text_next (V := vl 10000 (a.drop (i + 1))) (d := c) (i := i) hV (by omega)
      rw [← hdr] at htn
      have hlen : (Lib.decDigits (vl 10000 (a.drop (i + 1)))).length ≤ 4 * a.length + 1 := by
        refine dec_len (Nat.lt_of_lt_of_le (vl_lt (ok_drop ha (i + 1))) ?_) (by omega)
        rw [show (10000 : Nat) = 10 ^ 4 from rfl, ← Nat.pow_mul]
        refine Nat.pow_le_pow_right (by omega) ?_
        rw [List.length_drop]; omega
      have s1 : (Lib.decDigits (vl 10000 (a.drop (i + 1)))).toArray.size = (Lib.decDigits (vl 10000 (a.drop (i + 1)))).length := by simp
      have s2 : (dg (nd 4 c) c).toArray.size = nd 4 c := by simp [dg_length]
      have s3 := nd_le (least := 4) (n := c) (by omega) (by omega)
      refine xctl ?_
      refine xrg ?_
      refine xctl ?_
      refine xct ?_
      refine xctl ?_
      refine ops_sym (by simp (disch := omega) only [go_sem, Nat.reduceEqDiff, Nat.reduceAdd, Nat.reduceLT, Nat.reduceMul, Nat.reduceLeDiff, reduceCtorEq, Int.reduceNeg, Int.reduceToNat, e2, hc]; rfl) (by first | with_reducible exact True.intro | omega) ?_
      refine xca1 ?_; refine xca hdg ?_
      refine xrg ?_
      refine xctl ?_
      refine xrg ?_
      refine xctl ?_
      refine ⟨i, _, by omega, Ent.env (less_put (less_put (less_put (less_un0 _) ?_) ?_) ?_), i, by omega, rfl, rfl⟩
      iterate 1 (· exact xlq)
      · simp only [go_sem, Nat.reduceEqDiff, Nat.reduceAdd, Nat.reduceLT, Nat.reduceMul, Nat.reduceLeDiff, reduceCtorEq, Int.reduceNeg, Int.reduceToNat]
        refine congrArg D.str ?_
        rw [htn]
        exact ba_ext (by simp [ByteArray.data_append])
      · exact xlq
end Go.Proofs.YtgimaioeifnajaaGreatDoorK.RefT
