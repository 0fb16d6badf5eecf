/-
  Joined: DivN, GcdN, TextN, TextO.
-/
import Derived.Test.YtgimaioeifnajaaGreatDoorKNb
import Derived.Test.YtgimaioeifnajaaGreatDoorKLb
import Derived.Test.YtgimaioeifnajaaGreatDoorKIrLib
import Derived.Test.YtgimaioeifnajaaGreatDoorKP
import Derived.Test.YtgimaioeifnajaaGreatDoorKIrNat
set_option linter.all false
set_option maxHeartbeats 0
/-
  nat.Div: what it computes.
-/
namespace Go.Proofs.YtgimaioeifnajaaGreatDoorK.NatT
open AI NatIr Dig LibT
attribute [local irreducible] awp awpOps
variable {G : World → Prop}
theorem bitLen_lt (x : Nat) : x < 18446744073709551616 → x < 2 ^ Lib.bitLen x := by
  induction x using Nat.strongRecOn with
  | _ x ih =>
    intro h
    by_cases h0 : x = 0
    · subst h0; exact Nat.pow_pos (by omega)
    · have h1 := ih (x / 2) (by omega) (by omega)
      rw [Lib.bitLen_half x h0 h, Nat.add_comm, Nat.pow_succ]
      omega
theorem bitLen_pos {x : Nat} (h0 : x ≠ 0) (h : x < 18446744073709551616) : 1 ≤ Lib.bitLen x := by
  rw [Lib.bitLen_half x h0 h]; omega
end Go.Proofs.YtgimaioeifnajaaGreatDoorK.NatT
/-
  nat.Gcd, Pow, Low: what they compute.
-/
namespace Go.Proofs.YtgimaioeifnajaaGreatDoorK.NatT
open AI NatIr Dig LibT
attribute [local irreducible] awp awpOps
variable {G : World → Prop}
theorem wd_len_mono {B a b : Nat} (hB : 2 ≤ B) (h : a ≤ b) : (wd B a).length ≤ (wd B b).length := by
  have h1 := vl_lt (ok_wd hB b)
  rw [vl_wd hB] at h1
  exact wd_length_le hB (Nat.lt_of_le_of_lt h h1)
theorem pow_len {B v n e : Nat} (hB : 2 ≤ B) (h : v < B ^ n) (he : 0 < e ∨ 0 < n) : (wd B (v ^ e)).length ≤ n * e + 1 := by
  refine wd_length_le hB ?_
  have h1 : v ^ e ≤ (B ^ n) ^ e := Nat.pow_le_pow_left (Nat.le_of_lt h) e
  rw [← Nat.pow_mul] at h1
  have h2 : B ^ (n * e) < B ^ (n * e + 1) := Nat.pow_lt_pow_right (by omega) (by omega)
  omega
end Go.Proofs.YtgimaioeifnajaaGreatDoorK.NatT
/-
  slices.Reverse of strings; nat.Text: what they compute.
-/
namespace Go.Proofs.YtgimaioeifnajaaGreatDoorK.NatT
open AI NatIr Dig LibT
attribute [local irreducible] awp awpOps
variable {G : World → Prop}
theorem pcg_reverse (ss : List ByteArray) (n ver t : Nat) (hn : n = ss.length) (hl : ss.length < 1000000) :
    PCg Tryz.prog G 42 [.own 0 ver 0 n] [some (ver, t, 1, SS ss)] (.tup []) [some (ver, t, 1, SS ss.reverse)] := by
  refine pcg_by (fn := Tryz.f42) (n := 28) (rv := []) (by kernel_rfl) ok42 (by kernel_rfl) (by decide) (by kernel_rfl) (by simp) (by kernel_rfl) (by simp) (fun r hh hr hhe => ?_); unfold c42
  subst hhe hn
  refine xctl ?_
  refine xrg ?_
  refine xctl ?_
  refine awp_loopm (fun k σ => ∃ (i : Nat) (cur : List ByteArray), k = ss.length - i ∧ 2 * i ≤ ss.length ∧ cur.length = ss.length ∧ (∀ j, j < ss.length → cur.getD j ByteArray.empty = if j < i ∨ ss.length - i ≤ j then ss.getD (ss.length - 1 - j) ByteArray.empty else ss.getD j ByteArray.empty) ∧
      σ = ⟨(putE (putE (putE un0 (some 0) (.own 0 ver 0 ss.length)) (some 2) (.int .i64 i)) (some 3) (.int .i64 ((ss.length : Int) - 1 - i))), [some (ver, t, 1, SS cur)]⟩) ss.length
    (Ent.env (less_put (less_put (less_put (less_un0 _) ?_) ?_) ?_)) ⟨0, ss, rfl, by omega, rfl, fun j hj => by rw [if_neg (by omega)], rfl⟩ (by rintro k σ ⟨_, _, _, _, _, _, rfl⟩; exact Nat.le_refl _) ?_
  iterate 2 (· exact xlq)
  · exact xlq
  rintro k σ1 ⟨i, cur, rfl, hi2, hlc, hcur, rfl⟩
  refine xctl ?_
  refine xrg ?_
  refine xctl ?_
  refine xcs (fun hb => ?_) (fun hb => ?_)
  · have hb' := of_decide_eq_true hb
    obtain ⟨j, hj⟩ : ∃ j : Nat, (ss.length : Int) - 1 - i = j := ⟨ss.length - 1 - i, by omega⟩
    rw [hj]
    refine xctl ?_
    refine xrg ?_
    refine xctl ?_
    refine xdr ?_
    refine xctl ?_
    refine xrg ?_
    refine xctl ?_
    refine ⟨ss.length - (i + 1), _, by omega, Ent.env (less_put (less_put (less_put (less_un0 _) ?_) ?_) ?_), i + 1, (cur.set i (cur.getD j ByteArray.empty)).set j (cur.getD i ByteArray.empty), rfl, by omega, by simp [hlc], fun j' hj' => ?_, rfl⟩
    iterate 2 (· exact xlq)
    · simp only [go_sem, Nat.reduceEqDiff, Nat.reduceAdd, Nat.reduceLT, Nat.reduceMul, Nat.reduceLeDiff, reduceCtorEq, Int.reduceNeg, Int.reduceToNat]
      congr 1
      omega
    have h1 := hcur i (by omega)
    have h2 := hcur j (by omega)
    rw [if_neg (by omega)] at h1 h2
    by_cases e1 : j' = j
    · subst e1
      rw [List.getD_eq_getElem?_getD, List.getElem?_set_self (by simp; omega), Option.getD_some, h1, if_pos (by omega)]
      congr 1
      omega
    · rw [List.getD_eq_getElem?_getD, List.getElem?_set_ne (by omega)]
      by_cases e2 : j' = i
      · subst e2
        rw [List.getElem?_set_self (by omega), Option.getD_some, h2, if_pos (by omega)]
        congr 1
        omega
      · rw [List.getElem?_set_ne (by omega), ← List.getD_eq_getElem?_getD, hcur j' hj']
        by_cases e3 : j' < i ∨ ss.length - i ≤ j'
        · rw [if_pos e3, if_pos (by omega)]
        · rw [if_neg e3, if_neg (by omega)]
  · have hb' := of_decide_eq_false hb
    have hfin : cur = ss.reverse := by
      refine List.ext_getElem (by simp [hlc]) fun j h1 h2 => ?_
      have h3 := hcur j (by omega)
      have e1 : cur.getD j ByteArray.empty = cur[j] := by rw [List.getD_eq_getElem?_getD, List.getElem?_eq_getElem h1]; rfl
      have e2 : ss.getD (ss.length - 1 - j) ByteArray.empty = ss.reverse[j] := by
        rw [List.getElem_reverse, List.getD_eq_getElem?_getD, List.getElem?_eq_getElem (by omega)]; rfl
      rw [← e1, h3, ← e2]
      split
      · rfl
      · congr 1
        omega
    subst hfin
    refine xctl ?_
    refine resg_end (ds := []) rfl ?_ ?_ ?_
    · rw [hr]; rfl
    · rw [hr]; simp [kb, kb.kbs]
    · exact kbH_imm (by simp [immH, SS_imm])
end Go.Proofs.YtgimaioeifnajaaGreatDoorK.NatT
/-
  nat.Text: what it computes.
-/
namespace Go.Proofs.YtgimaioeifnajaaGreatDoorK.NatT
open AI NatIr Dig LibT
attribute [local irreducible] awp awpOps
variable {G : World → Prop}
def flat (ss : List ByteArray) : List UInt8 := (ss.reverse.map (·.data.toList)).flatten
theorem flat_snoc (ss : List ByteArray) (s : ByteArray) : flat (ss ++ [s]) = s.data.toList ++ flat ss := by simp [flat]
theorem join_nosep : ∀ xs : List (List UInt8), Lib.join xs [] = xs.flatten
  | [] => rfl
  | x :: r => by
    rw [Lib.join_cons]
    simp [Lib.joinTail]
theorem ba_size (l : List UInt8) : (⟨l.toArray⟩ : ByteArray).size = l.length := by simp [ByteArray.size]
theorem flat_len {ss : List ByteArray} (h : ∀ s ∈ ss, s.size ≤ 9) : (flat ss).length ≤ 9 * ss.length := by
  induction ss with
  | nil => simp [flat]
  | cons x l ih =>
    have h1 := ih (fun s hs => h s (List.mem_cons_of_mem _ hs))
    have h2 := h x List.mem_cons_self
    have e : flat (x :: l) = flat l ++ x.data.toList := by simp [flat]
    rw [e, List.length_append, List.length_cons]
    have : x.data.toList.length = x.size := rfl
    omega
theorem pieces {k m V : Nat} (h : 1000000000 ^ k ≤ V) (hV : V < 4294967296 ^ m) : 29 * k < 32 * m := by
  have h1 : (2 ^ 29) ^ k ≤ 1000000000 ^ k := Nat.pow_le_pow_left (by omega) k
  have h2 : (4294967296 : Nat) ^ m = 2 ^ (32 * m) := by rw [Nat.pow_mul]
  rw [← Nat.pow_mul] at h1
  exact (Nat.pow_lt_pow_iff_right (a := 2) (by omega)).1 (by omega)
theorem pcr_text (hG : Stable G) (hT : ∀ w, G w → Lib.TabIs Tryz.prog w "internal/strconv.uint64pow10" .u64 Lib.pow10Tab) (a : List Int) (n : Nat) (hn : n = a.length) (ha : ok 4294967296 a) (hla : a.length < 100000) :
    PCr Tryz.prog G 21 [.agg [.sl n (W a)]] (.str ⟨(Lib.decDigits (vl 4294967296 a)).toArray⟩) := by
  refine pcr_byq ok21 hG (n := 46) (rv := [.tmp 2]) fun r hr => ?_; unfold c21 st0
  refine xctl ?_
  refine xrg ?_
  refine xctl ?_
  refine xrg ?_
  refine xca1 ?_; refine xca (pcr_trim hG a n hn ha (by omega)) ?_
  have hlw := wd_len_small ha
  generalize hV0 : vl 4294967296 a = V0 at *
  refine xrg ?_
  refine xctl ?_
  refine xrg ?_
  refine xctl ?_
  by_cases h0 : V0 = 0
  · subst h0
    have hl0 : (wd 4294967296 0).length = 0 := by rw [wd_zero]; rfl
    refine awp_cond_t (by simp only [go_sem, Nat.reduceEqDiff, Nat.reduceAdd, Nat.reduceLT, Nat.reduceMul, Nat.reduceLeDiff, reduceCtorEq, Int.reduceNeg, Int.reduceToNat]; exact congrArg D.bool (decide_eq_true (by omega))) ?_
    refine xctl ?_
    refine xrg ?_
    refine xctl ?_
    refine xrt ?_
    rw [hr, dec_small (by omega)]; rfl
  · have hlp : 0 < (wd 4294967296 V0).length := by
      rcases Nat.eq_zero_or_pos (wd 4294967296 V0).length with h | h
      · exact absurd ((wd_eq_nil (by omega)).1 (List.eq_nil_of_length_eq_zero h)) h0
      · exact h
    refine awp_cond_f (by simp only [go_sem, Nat.reduceEqDiff, Nat.reduceAdd, Nat.reduceLT, Nat.reduceMul, Nat.reduceLeDiff, reduceCtorEq, Int.reduceNeg, Int.reduceToNat]; exact congrArg D.bool (decide_eq_false (by omega))) ?_
    refine xctl ?_
    refine xrg ?_
    refine xctl ?_
    refine awp_loop (fun k σ => ∃ (V ver : Nat) (ss : List ByteArray), k = V ∧ (wd 4294967296 V).length < 100000 ∧ V * 1000000000 ^ ss.length ≤ V0 ∧ 1000000000 ^ (ss.length - 1) ≤ V0 ∧ (∀ s ∈ ss, s.size ≤ 9) ∧ Lib.decDigits V0 = (if V = 0 then [] else Lib.decDigits V) ++ flat ss ∧
        σ = ⟨(putE (putE (putE un0 (some 2) (.str ⟨#[]⟩)) (some 3) (.sl (wd 4294967296 V).length (W (wd 4294967296 V)))) (some 4) (.own 1 ver 0 ss.length)),
          [none, some (ver, 9, 1, SS ss)]⟩) V0
      ((Ent.nils (s := 4) 9 1 (by simp only [go_sem, Nat.reduceEqDiff, Nat.reduceAdd, Nat.reduceLT, Nat.reduceMul, Nat.reduceLeDiff, reduceCtorEq, Int.reduceNeg, Int.reduceToNat])).trans (by simp) (Ent.st (less_put (less_put (less_put (less_un0 _) ?_) ?_) ?_) (by exact ⟨.inl rfl, .inr rfl, trivial⟩))) ⟨V0, 0, [], rfl, by omega, by simp, by simp; omega, by simp, by rw [if_neg h0]; simp [flat], rfl⟩ ?_
    iterate 3 (· exact xlq)
    have hV0l : V0 < 4294967296 ^ a.length := by rw [← hV0]; exact vl_lt ha
    rintro V σ1 ⟨_, ver, ss, rfl, hlV, hVs, hVs1, hs9, hdec, rfl⟩
    have hpc := pieces hVs1 hV0l
    refine xctl ?_
    refine xrg ?_
    refine xctl ?_
    refine xcs (fun hb => ?_) (fun hb => ?_)
    · have hb' := of_decide_eq_true hb
      have hVn : V ≠ 0 := fun h => by subst h; rw [wd_zero] at hb'; simp at hb'
      have hsm := pcr_small hG (wd 4294967296 V) 1000000000 _ rfl (by omega) (by omega) (ok_wd (by omega) V) (by omega)
      rw [show (((1000000000 : Nat)) : Int) = 1000000000 from rfl] at hsm
      have hsl := sdiv_len 4294967296 1000000000 (wd 4294967296 V)
      have hso := sdiv_ok (B := 4294967296) (d := 1000000000) (by omega) (by omega) _ (ok_wd (by omega) V)
      have hsq := sdiv_q (B := 4294967296) (d := 1000000000) (by omega) (wd 4294967296 V)
      have hsr := sdiv_r (B := 4294967296) (d := 1000000000) (by omega) (wd 4294967296 V)
      rw [vl_wd (by omega)] at hsq hsr
      generalize sdiv 4294967296 1000000000 (wd 4294967296 V) = sd at *
      obtain ⟨sl, sr⟩ := sd
      simp only at hsl hso hsq hsr hsm
      have htr := pcr_trim hG sl (wd 4294967296 V).length hsl.symm hso (by omega)
      rw [hsq] at htr
      have hr9 : sr < 1000000000 := by rw [hsr]; exact Nat.mod_lt _ (by omega)
      have hdv := Nat.div_add_mod V 1000000000
      rw [← hsr] at hdv
      have hqm := wd_len_mono (B := 4294967296) (by omega) (Nat.div_le_self V 1000000000)
      have hql : V / 1000000000 < V := Nat.div_lt_self (by omega) (by omega)
      have hqV : V / 1000000000 * 1000000000 ^ (ss.length + 1) ≤ V0 ∧ 1000000000 ^ ss.length ≤ V0 := by
        rw [Nat.pow_succ, Nat.mul_comm (1000000000 ^ ss.length), ← Nat.mul_assoc]
        have h1 : V / 1000000000 * 1000000000 * 1000000000 ^ ss.length ≤ V * 1000000000 ^ ss.length := Nat.mul_le_mul_right _ (by omega)
        have h2 : 1 * 1000000000 ^ ss.length ≤ V * 1000000000 ^ ss.length := Nat.mul_le_mul_right _ (by omega)
        omega
      generalize V / 1000000000 = q at *
      obtain ⟨hd9, hdg⟩ := dg_dec 9 sr (by omega) (by omega)
      have hit : Lib.itoa (sr : Int) = Lib.decDigits sr := by rw [Lib.itoa, if_neg (by omega), Int.toNat_natCast]
      have hita := lib_itoa hT (sr : Int) (by omega) (by omega)
      rw [hit] at hita
      refine xctl ?_
      refine xrg ?_
      refine xca1 ?_; refine xca hsm ?_
      refine xrg ?_
      refine xctl ?_
      refine xrg ?_
      refine xca1 ?_; refine xca htr ?_
      refine xrg ?_
      refine xctl ?_
      refine xrg ?_
      refine xcf1 ?_; refine xcf hita rfl ?_
      refine xrg ?_
      refine xctl1 ?_
      refine awp_seq_mid (fun σ => ∃ s : ByteArray, s.size ≤ 9 ∧ Lib.decDigits V = (if q = 0 then [] else Lib.decDigits q) ++ s.data.toList ∧
        σ = ⟨(putE (putE (putE (putE un0 (some 2) (.str ⟨#[]⟩)) (some 3) (.sl (wd 4294967296 q).length (W (wd 4294967296 q)))) (some 4) (.own 1 ver 0 ss.length)) (some 7) (.str s)), [none, some (ver, 9, 1, SS ss)]⟩) ?_ ?_
      · rintro σ ⟨s, hs, hsd, rfl⟩
        refine xctl ?_
        refine xrg ?_
        refine xctl ?_
        refine ⟨q, _, hql, (Ent.cutk 2 (less_put (less_put (less_put (less_un0 _) ?_) ?_) ?_) (by exact ⟨.inr rfl, .inr rfl, trivial⟩) (kb_put (kb_put (kb_put (kb_un0 _) (by simp [kb])) (by simp [kb])) (by simp [kb])) (by simp [kbH, kb.kbs, kb, kbs_W, kbs_SS])), q, ver + 1, ss ++ [s], rfl, by omega, by simpa using hqV.1, by simpa using hqV.2, ?_, ?_, rfl⟩
        iterate 2 (· exact xlq)
        · simp only [go_sem, Nat.reduceEqDiff, Nat.reduceAdd, Nat.reduceLT, Nat.reduceMul, Nat.reduceLeDiff, reduceCtorEq, Int.reduceNeg, Int.reduceToNat]
          simp
        · intro x hx
          rcases List.mem_append.1 hx with hx | hx
          · exact hs9 x hx
          · rw [List.mem_singleton] at hx; rw [hx]; exact hs
        · rw [hdec, if_neg hVn, hsd, flat_snoc, List.append_assoc]
      · refine xctl ?_
        refine xrg ?_
        refine xctl ?_
        refine xcs (fun hb => ?_) (fun hb => ?_)
        · have hb2 := of_decide_eq_true hb
          have hq0 : q ≠ 0 := fun h => by subst h; rw [wd_zero] at hb2; simp at hb2
          have hsz := ba_size (Lib.decDigits sr)
          generalize hsx : (⟨(Lib.decDigits sr).toArray⟩ : ByteArray) = x at *
          have hxl : x.data.toList = Lib.decDigits sr := by rw [← hsx]
          obtain ⟨mz, hmz⟩ : ∃ mz, x.size + mz = 9 := ⟨9 - x.size, by omega⟩
          have hrp := lib_repeat (G := G) ⟨#[48]⟩ mz (by omega) (by show 1 * mz ≤ _; omega)
          rw [repeat1] at hrp
          have hzs := ba_size (List.replicate mz 48)
          rw [List.length_replicate] at hzs
          generalize hzx : (⟨(List.replicate mz 48).toArray⟩ : ByteArray) = z at *
          have hzl : z.data.toList = List.replicate mz 48 := by rw [← hzx]
          have happ : (z ++ x).size = 9 := by rw [ByteArray.size_append]; omega
          refine xctl ?_
          refine xrg ?_
          rw [show (9 : Int) - x.size = mz by omega]
          refine xcf1 ?_; refine xcf hrp rfl ?_
          refine xrg ?_
          refine xctl ?_
          refine ⟨_, Nat.zero_le _, Ent.env (less_put (less_put (less_put (less_put (less_un0 _) ?_) ?_) ?_) ?_), z ++ x, by omega, ?_, rfl⟩
          iterate 4 (· exact xlq)
          rw [if_neg hq0, ← hdv, Nat.mul_comm, show (1000000000 : Nat) = 10 ^ 9 from rfl, dec_add 9 q sr (by omega) (by omega), hdg, ByteArray.data_append, Array.toList_append, hzl, hxl, show 9 - (Lib.decDigits sr).length = mz by omega]
        · have hb2 := of_decide_eq_false hb
          have hq0 : q = 0 := by
            rw [← vl_wd (B := 4294967296) (by omega) q, List.eq_nil_of_length_eq_zero (by omega : (wd 4294967296 q).length = 0)]; rfl
          subst hq0
          have hsz := ba_size (Lib.decDigits sr)
          refine xctl ?_
          refine ⟨_, Nat.zero_le _, Ent.env (less_put (less_put (less_put (less_put (less_un0 _) ?_) ?_) ?_) ?_), ⟨(Lib.decDigits sr).toArray⟩, by omega, ?_, rfl⟩
          iterate 4 (· exact xlq)
          rw [if_pos rfl, ← hdv]; simp
    · have hb' := of_decide_eq_false hb
      have hV : V = 0 := by
        rw [← vl_wd (B := 4294967296) (by omega) V, List.eq_nil_of_length_eq_zero (by omega : (wd 4294967296 V).length = 0)]; rfl
      subst hV
      rw [if_pos rfl, List.nil_append] at hdec
      have hfl := flat_len hs9
      have hrl : ss.reverse.length = ss.length := by simp
      have hjn : Lib.join (ss.reverse.map (·.data.toList)) [] = flat ss := join_nosep _
      have hjo := lib_join (G := G) ss.reverse ⟨#[]⟩ ss.length (by simp) (by simp; omega) (by rw [show (⟨#[]⟩ : ByteArray).data.toList = [] from rfl, hjn]; omega)
      rw [show (⟨#[]⟩ : ByteArray).data.toList = [] from rfl, hjn] at hjo
      refine xctl ?_
      refine xrg ?_
      refine ops_callw [1] (pcg_reverse ss ss.length ver 9 rfl (by omega)) (by simp (disch := omega) only [go_sem, Nat.reduceEqDiff, Nat.reduceAdd, Nat.reduceLT, Nat.reduceMul, Nat.reduceLeDiff, reduceCtorEq, Int.reduceNeg, Int.reduceToNat]; rfl) (by simp [kb]) (by decide) rfl (by simp) rfl (by simp) (by simp [immH, W_imm, SS_imm]) (by simp [immH, W_imm, SS_imm]) (by simp only [D.ren, List.getD_cons_zero, List.getD_cons_succ]; rfl) (by simp only [List.zip_cons_cons, List.zip_nil_left, List.zip_nil_right]; rfl) ?_
      refine xrg ?_
      refine xctl ?_
      refine xrg ?_
      refine xca1 ?_; refine xca hjo ?_
      refine xrg ?_
      refine xctl ?_
      refine xrt ?_
      rw [hr, hdec]
end Go.Proofs.YtgimaioeifnajaaGreatDoorK.NatT
