/-
  nat.Parse: what it computes.
-/
import Derived.Test.YtgimaioeifnajaaGreatDoorKIrNat
import Derived.Test.YtgimaioeifnajaaGreatDoorKNc
import Derived.Test.YtgimaioeifnajaaGreatDoorKP
set_option linter.all false
set_option maxHeartbeats 0
namespace Go.Proofs.YtgimaioeifnajaaGreatDoorK.NatT
open AI NatIr Dig LibT
attribute [local irreducible] awp awpOps
variable {G : World → Prop}
def allD (s : ByteArray) : Bool := s.data.toList.all isD
theorem allD_iff {s : ByteArray} : allD s = true ↔ ∀ c ∈ s.data.toList, isD c = true := List.all_eq_true
theorem ba_len (s : ByteArray) : s.data.toList.length = s.size := rfl
theorem ext_list (s : ByteArray) (a b : Nat) : (s.extract a b).data.toList = (s.data.toList.drop a).take (b - a) := by
  rw [ByteArray.data_extract, Array.toList_extract, List.extract_eq_take_drop]
theorem ba_nil {s : ByteArray} (h : s.size = 0) : s = ⟨#[]⟩ := ba_ext (List.eq_nil_of_length_eq_zero h)
theorem ba_ne {s : ByteArray} (h : s.size ≠ 0) : s ≠ ⟨#[]⟩ := fun e => h (by rw [e]; rfl)
theorem pcr_parse_not (hG : Stable G) (s : ByteArray) (hs : s.size < 1000000) (h : s.size = 0 ∨ allD s = false) :
    PCr Tryz.prog G 50 [.str s] (.tup [N 0, .bool false]) := by
  refine pcr_byq ok50 hG (n := 67) (rv := [.cell 2 true 1, .tmp 3]) fun r hr => ?_; unfold c50 st0
  have hN0 : N 0 = .agg [.sl 0 []] := by rw [N, wd_zero]; rfl
  have htr := lib_trim (G := G) s ⟨#[48, 49, 50, 51, 52, 53, 54, 55, 56, 57]⟩ (by omega) (by decide) (by decide)
  refine xctl ?_
  refine xrg ?_
  refine xctl ?_
  by_cases h0 : s.size = 0
  · have e1 : (s = (⟨#[]⟩ : ByteArray)) = True := eq_true (ba_nil h0)
    refine ops_sym (by simp (disch := omega) only [go_sem, Nat.reduceEqDiff, Nat.reduceAdd, Nat.reduceLT, Nat.reduceMul, Nat.reduceLeDiff, reduceCtorEq, Int.reduceNeg, Int.reduceToNat, e1]; rfl) (by first | with_reducible exact True.intro | omega) ?_
    refine xctl ?_
    refine xct ?_
    refine xctl ?_
    refine xrg ?_
    refine xctl ?_
    refine xrt ?_
    rw [hr, hN0]
  · have e1 : (s = (⟨#[]⟩ : ByteArray)) = False := eq_false (ba_ne h0)
    have hnd : ¬ ∀ c ∈ s.data.toList, isD c = true := fun hc => by
      rcases h with h | h
      · exact h0 h
      · rw [allD_iff.2 hc] at h; cases h
    have e2 : ((⟨(Lib.trimS s.data.toList (⟨#[48, 49, 50, 51, 52, 53, 54, 55, 56, 57]⟩ : ByteArray).data.toList).toArray⟩ : ByteArray) = (⟨#[]⟩ : ByteArray)) = False := eq_false fun e => trim_some hnd (by
      have := congrArg (fun b : ByteArray => b.data.toList) e
      simpa [tenD] using this)
    refine ops_sym (by simp (disch := omega) only [go_sem, Nat.reduceEqDiff, Nat.reduceAdd, Nat.reduceLT, Nat.reduceMul, Nat.reduceLeDiff, reduceCtorEq, Int.reduceNeg, Int.reduceToNat, e1]; rfl) (by first | with_reducible exact True.intro | omega) ?_
    refine xcgf1 ?_; refine xcf htr rfl ?_
    refine ops_sym (by simp (disch := omega) only [go_sem, Nat.reduceEqDiff, Nat.reduceAdd, Nat.reduceLT, Nat.reduceMul, Nat.reduceLeDiff, reduceCtorEq, Int.reduceNeg, Int.reduceToNat, e2]; rfl) (by first | with_reducible exact True.intro | omega) ?_
    refine xctl ?_
    refine xct ?_
    refine xctl ?_
    refine xrg ?_
    refine xctl ?_
    refine xrt ?_
    rw [hr, hN0]
theorem trim_ok {s : ByteArray} (h : allD s = true) : (⟨(Lib.trimS s.data.toList (⟨#[48, 49, 50, 51, 52, 53, 54, 55, 56, 57]⟩ : ByteArray).data.toList).toArray⟩ : ByteArray) = (⟨#[]⟩ : ByteArray) := by
  have := trim_all (allD_iff.1 h)
  rw [show (⟨#[48, 49, 50, 51, 52, 53, 54, 55, 56, 57]⟩ : ByteArray).data.toList = tenD from rfl, this]
theorem pcr_parse (hG : Stable G) (s0 : ByteArray) (hs : s0.size < 1000000) (h0 : s0.size ≠ 0) (hd : allD s0 = true) :
    PCr Tryz.prog G 50 [.str s0] (.tup [N (decV s0.data.toList), .bool true]) := by
  refine pcr_byq ok50 hG (n := 67) (rv := [.cell 2 true 1, .tmp 3]) fun r hr => ?_; unfold c50 st0
  have htr := lib_trim (G := G) s0 ⟨#[48, 49, 50, 51, 52, 53, 54, 55, 56, 57]⟩ (by omega) (by decide) (by decide)
  have e1 : (s0 = (⟨#[]⟩ : ByteArray)) = False := eq_false (ba_ne h0)
  have e2 := eq_true (trim_ok hd)
  refine xctl ?_
  refine xrg ?_
  refine xctl ?_
  refine ops_sym (by simp (disch := omega) only [go_sem, Nat.reduceEqDiff, Nat.reduceAdd, Nat.reduceLT, Nat.reduceMul, Nat.reduceLeDiff, reduceCtorEq, Int.reduceNeg, Int.reduceToNat, e1]; rfl) (by first | with_reducible exact True.intro | omega) ?_
  refine xcgf1 ?_; refine xcf htr rfl ?_
  refine ops_sym (by simp (disch := omega) only [go_sem, Nat.reduceEqDiff, Nat.reduceAdd, Nat.reduceLT, Nat.reduceMul, Nat.reduceLeDiff, reduceCtorEq, Int.reduceNeg, Int.reduceToNat, e2]; rfl) (by first | with_reducible exact True.intro | omega) ?_
  refine xctl ?_
  refine xcF ?_
  refine xctl ?_
  refine xrg ?_
  refine xctl ?_
  refine awp_loop (fun k σ => ∃ (p : List UInt8) (s : ByteArray) (l : List Int) (ver : Nat), s0.data.toList = p ++ s.data.toList ∧ k = s.size ∧ l = wd 4294967296 (decV p) ∧ l.length ≤ p.length ∧ (l = [] ∨ s.size % 9 = 0) ∧
      σ = ⟨(putE (putE (putE un0 (some 0) (.str s)) (some 2) (.ptr 0 0 0)) (some 4) (.own 1 ver 0 l.length)),
        [some (0, 50, 1, [.nils]), some (ver, 79, 1, W l)]⟩) s0.size
    ((Ent.nils (s := 4) 79 1 (by simp only [go_sem, Nat.reduceEqDiff, Nat.reduceAdd, Nat.reduceLT, Nat.reduceMul, Nat.reduceLeDiff, reduceCtorEq, Int.reduceNeg, Int.reduceToNat])).trans (by simp) (Ent.st (less_put (less_put (less_put (less_un0 _) ?_) ?_) ?_) (by exact ⟨.inr rfl, .inr rfl, trivial⟩))) ⟨[], s0, [], 0, rfl, rfl, (wd_zero _).symm, by simp, .inl rfl, rfl⟩ ?_
  iterate 3 (· exact xlq)
  rintro k σ1 ⟨p, s, l, ver, hps, rfl, hl, hlp, h9, rfl⟩
  have hlen : p.length + s.size = s0.size := by
    have := congrArg List.length hps
    rw [List.length_append] at this
    rw [← ba_len s0, ← ba_len s]; omega
  refine xctl ?_
  refine xrg ?_
  refine xctl ?_
  refine xcs (fun hb => ?_) (fun hb => ?_)
  · have hb' := of_decide_eq_true hb
    obtain ⟨n, hn⟩ : ∃ n : Nat, ((s.size : Int) - 1) % 9 + 1 = n := ⟨(((s.size : Int) - 1) % 9 + 1).toNat, by omega⟩
    have hn9 : 1 ≤ n ∧ n ≤ 9 ∧ n ≤ s.size ∧ (s.size % 9 = 0 → n = 9) ∧ (s.size - n) % 9 = 0 := by omega
    have hds : ∀ c ∈ s.data.toList, isD c = true := fun c hc => allD_iff.1 hd c (by rw [hps]; exact List.mem_append_right _ hc)
    have hch : (s.extract 0 n).data.toList = s.data.toList.take n := by rw [ext_list]; simp
    have hrs : (s.extract n s.size).data.toList = s.data.toList.drop n := by
      rw [ext_list, List.take_of_length_le]
      rw [List.length_drop, ba_len]; omega
    have hdt : ∀ c ∈ s.data.toList.take n, isD c = true := fun c hc => hds c (List.mem_of_mem_take hc)
    have hlt : (s.data.toList.take n).length = n := by rw [List.length_take, ba_len]; omega
    have hpu := parse32 (s.data.toList.take n) (by intro e; rw [e] at hlt; simp at hlt; omega) (by omega) hdt
    have hpr := lib_parse32 (G := G) (s.extract 0 n) (by rw [← ba_len, hch, hlt]; omega) _ (by rw [hch]; exact hpu)
    have hvlt := decV_lt _ hdt
    rw [hlt] at hvlt
    have hvlt9 : decV (s.data.toList.take n) < 1000000000 := Nat.lt_of_lt_of_le hvlt (Nat.pow_le_pow_right (n := 10) (by omega) hn9.2.1)
    have hps2 : s0.data.toList = (p ++ s.data.toList.take n) ++ (s.extract n s.size).data.toList := by rw [hrs, List.append_assoc, List.take_append_drop]; exact hps
    have hVnew : decV (p ++ s.data.toList.take n) = decV p * 1000000000 + decV (s.data.toList.take n) := by
      rw [decV_app, hlt]
      rcases h9 with h9 | h9
      · have h0 : decV p = 0 := (wd_eq_nil (B := 4294967296) (by omega)).1 (by rw [← hl]; exact h9)
        rw [h0, Nat.zero_mul, Nat.zero_mul]
      · rw [hn9.2.2.2.1 h9]
    have hsz2 : (s.extract n s.size).size = s.size - n := by rw [← ba_len, hrs, List.length_drop, ba_len]
    have hplen : (p ++ s.data.toList.take n).length = p.length + n := by rw [List.length_append, hlt]
    generalize hv : decV (s.data.toList.take n) = v at *
    refine xctl ?_
    refine xrg ?_
    rw [hn]
    refine xctl ?_
    refine xrg ?_
    refine xca1 ?_; refine xca hpr ?_
    refine xrg ?_
    refine xctl ?_
    refine xrg ?_
    refine xctl ?_
    refine xrg ?_
    refine xctl ?_
    refine xrg ?_
    refine xctl ?_
    have hol := ok_wd (B := 4294967296) (by omega) (decV p)
    rw [← hl] at hol
    have hvl := vl_wd (B := 4294967296) (by omega) (decV p)
    rw [← hl] at hvl
    refine awp_loop (fun k σ => ∃ (j : Nat) (cur : List Int) (c : Int), j ≤ l.length ∧ k = l.length - j ∧ cur.length = l.length ∧ ok 4294967296 cur ∧ cur.drop j = l.drop j ∧ 0 ≤ c ∧ c < 1000000000 ∧ vl 4294967296 (cur.take j) + 4294967296 ^ j * c.toNat = vl 4294967296 (l.take j) * 1000000000 + v ∧
        σ = ⟨(putE (putE (putE (putE (putE (putE (putE un0 (some 0) (.str (s.extract n s.size))) (some 2) (.ptr 0 0 0)) (some 4) (.own 1 ver 0 l.length)) (some 8) (.int .u64 c)) (some 38) (.own 1 ver 0 l.length)) (some 39) (.int .i64 l.length)) (some 40) (.int .i64 j)),
          [some (0, 50, 1, [.nils]), some (ver, 79, 1, W cur)]⟩) l.length
      (Ent.env (less_put (less_put (less_put (less_put (less_put (less_put (less_put (less_un0 _) ?_) ?_) ?_) ?_) ?_) ?_) ?_)) ⟨0, l, v, by omega, rfl, rfl, hol, rfl, by omega, by omega, by simp [vl], rfl⟩ ?_
    iterate 7 (· exact xlq)
    rintro k σ1 ⟨j, cur, c, hj, rfl, hlc, hoc, hdr, hc0, hc1, heq, rfl⟩
    refine xctl ?_
    refine xrg ?_
    refine xctl ?_
    refine xcs (fun hb => ?_) (fun hb => ?_)
    · have hb2 := of_decide_eq_true hb
      have gw := ok_get hoc (by omega) j
      have e1 : l.getD j 0 = cur.getD j 0 := by
        have := congrArg (fun l => l.getD 0 0) hdr
        simpa [List.getD_eq_getElem?_getD] using this.symm
      refine xctl ?_
      refine xrg ?_
      refine xctl ?_
      refine xrg ?_
      refine xctl ?_
      have hT : 0 ≤ c + cur.getD j 0 * 1000000000 ∧ c + cur.getD j 0 * 1000000000 < 4294967296000000000 := by omega
      have hTn : (c + cur.getD j 0 * 1000000000).toNat = c.toNat + (cur.getD j 0).toNat * 1000000000 := by omega
      have hst := muladd_step (B := 4294967296) (i := j) (w := (cur.getD j 0).toNat) heq
      rw [← hTn] at hst
      generalize c + cur.getD j 0 * 1000000000 = T at *
      refine xrg ?_
      refine xctl ?_
      refine xrg ?_
      refine xctl ?_
      refine xrg ?_
      refine xctl ?_
      refine ⟨l.length - (j + 1), _, by omega, Ent.env (less_put (less_put (less_put (less_put (less_put (less_put (less_put (less_un0 _) ?_) ?_) ?_) ?_) ?_) ?_) ?_), j + 1, cur.set j (T % 4294967296), T / 4294967296, by omega, rfl, by simp [hlc], ok_set hoc _ (by omega), ?_, by omega, by omega, ?_, rfl⟩
      iterate 7 (· exact xlq)
      · rw [drop_set_lt (by omega), ← List.drop_drop, hdr, List.drop_drop]
      · rw [vl_set _ _ _ _ (by omega), vl_take_next _ l, e1, show (T % 4294967296).toNat = T.toNat % 4294967296 by omega, show (T / 4294967296).toNat = T.toNat / 4294967296 by omega]
        exact hst
    · have hb2 := of_decide_eq_false hb
      have hjl : j = l.length := by omega
      subst hjl
      rw [List.take_of_length_le (by omega), List.take_length, hvl] at heq
      refine xctl ?_
      refine xrg ?_
      refine xctl ?_
      refine xcs (fun hb => ?_) (fun hb => ?_)
      · have hb3 := of_decide_eq_true hb
        have hnew : cur ++ [c] = wd 4294967296 (decV (p ++ s.data.toList.take n)) := by
          have hov : vl 4294967296 (cur ++ [c]) = decV (p ++ s.data.toList.take n) := by
            rw [vl_append, hVnew, ← heq, hlc]; simp [vl]
          rw [← hov]
          refine eq_wd (by omega) (ok_append.2 ⟨hoc, ok_cons.2 ⟨⟨hc0, by omega⟩, ok_nil _⟩⟩) fun x hx => ?_
          rw [List.getLast?_append] at hx
          simp at hx
          omega
        have hwc : W cur ++ [.int .u32 c] = W (cur ++ [c]) := by simp [W]
        refine xctl ?_
        refine xrg ?_
        rw [hwc]
        refine xctl ?_
        refine ⟨s.size - n, _, by omega, (Ent.cutk 2 (less_put (less_put (less_put (less_un0 _) ?_) ?_) ?_) (by exact ⟨.inr rfl, .inr rfl, trivial⟩) (kb_put (kb_put (kb_put (kb_un0 _) (by simp [kb])) (by simp [kb])) (by simp [kb])) (by simp [kbH, kb.kbs, kb, kbs_W, kbs_SS])), p ++ s.data.toList.take n, s.extract n s.size, cur ++ [c], ver + 1, hps2, hsz2.symm, hnew, by rw [List.length_append, hplen, hlc]; simp; omega, .inr (by rw [hsz2]; exact hn9.2.2.2.2), rfl⟩
        iterate 2 (· exact xlq)
        · simp only [go_sem, Nat.reduceEqDiff, Nat.reduceAdd, Nat.reduceLT, Nat.reduceMul, Nat.reduceLeDiff, reduceCtorEq, Int.reduceNeg, Int.reduceToNat]
          simp [hlc]
      · have hb3 := of_decide_eq_false hb
        have hc0' : c = 0 := by omega
        subst hc0'
        simp only [Int.toNat_zero, Nat.mul_zero, Nat.add_zero] at heq
        have hnew : cur = wd 4294967296 (decV (p ++ s.data.toList.take n)) := by
          rw [hVnew, ← heq]
          by_cases h0 : l.length = 0
          · have : cur = [] := List.eq_nil_of_length_eq_zero (by omega)
            subst this
            rw [vl_nil, wd_zero]
          · refine eq_wd (by omega) hoc (last_of_ge (by omega) hoc ?_)
            have hne : decV p ≠ 0 := fun e => h0 (by rw [hl, e, wd_zero]; rfl)
            have h2 := wd_ge (B := 4294967296) (by omega) hne
            rw [← hl] at h2
            rw [hlc]
            omega
        refine xctl ?_
        refine ⟨s.size - n, _, by omega, Ent.env (less_put (less_put (less_put (less_un0 _) ?_) ?_) ?_), p ++ s.data.toList.take n, s.extract n s.size, cur, ver, hps2, hsz2.symm, hnew, by rw [hplen, hlc]; omega, .inr (by rw [hsz2]; exact hn9.2.2.2.2), rfl⟩
        iterate 2 (· exact xlq)
        · simp only [go_sem, Nat.reduceEqDiff, Nat.reduceAdd, Nat.reduceLT, Nat.reduceMul, Nat.reduceLeDiff, reduceCtorEq, Int.reduceNeg, Int.reduceToNat]
          rw [hlc]
  · have hb' := of_decide_eq_false hb
    have hs0 : s.data.toList = [] := List.eq_nil_of_length_eq_zero (by rw [ba_len]; omega)
    rw [hs0, List.append_nil] at hps
    subst hl
    refine xctl ?_
    refine xrg ?_
    refine xctl ?_
    refine xrt ?_
    rw [hr, hps]; rfl
end Go.Proofs.YtgimaioeifnajaaGreatDoorK.NatT
