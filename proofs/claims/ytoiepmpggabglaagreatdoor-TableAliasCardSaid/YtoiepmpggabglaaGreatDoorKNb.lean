/-
 Joined: LessN, StepN.
-/
import Derived.Test.YtoiepmpggabglaaGreatDoorKIrNat
import Derived.Test.YtoiepmpggabglaaGreatDoorKNa
set_option linter.all false
set_option maxHeartbeats 4000000
/-
 nat.less: what it computes.
-/
namespace Go.Proofs.YtoiepmpggabglaaGreatDoorK.NatT
open AI NatIr Dig
attribute [local irreducible] awp awpOps
variable {G : World → Prop}
theorem pcr_less (us vs : List Int) (off n q : Nat) (hn : n ≤ vs.length) (hoff : off + n + 1 ≤ us.length) (hu : ok 4294967296 us) (hv : ok 4294967296 vs) (hlu : us.length < 1000000) (hlv : vs.length < 1000000) (hq : q < 4294967296) :
  PCg Tryz.prog G 142 [.own 0 0 off (n + 1), .own 1 0 0 n, .int .u64 q] [some (0, 104, 1, W us), some (0, 104, 1, W vs)]
   (.bool (decide (vl 4294967296 (win us off (n + 1)) < q * vl 4294967296 (vs.take n))))
   [some (0, 104, 1, W (putW us off (pd 4294967296 (left (4294967296 ^ (n + 1)) (vl 4294967296 (win us off (n + 1))) (q * vl 4294967296 (vs.take n))) (n + 1)))), some (0, 104, 1, W vs)] := by
 refine pcg_by (fn := Tryz.f142) (n := 68) (rv := [.tmp 6]) (by kernel_rfl) ok142 (by kernel_rfl) (by decide) (by kernel_rfl) (by simp) (by kernel_rfl) (by simp) (fun r hh hr hhe => ?_); unfold c142
 subst hhe
 refine xctl ?_
 refine xrg ?_
 refine xctl ?_
 refine xrg ?_
 refine xctl ?_
 refine xrg ?_
 refine xctl ?_
 refine awp_loopm (fun k σ => ∃ (i : Nat) (us1 : List Int) (c b : Int), i ≤ n ∧ k = n - i ∧ us1.length = us.length ∧ ok 4294967296 us1 ∧ us1.take off = us.take off ∧ us1.drop (off + i) = us.drop (off + i) ∧ 0 ≤ c ∧ c < 4294967296 ∧ 0 ≤ b ∧ b ≤ 1 ∧
    vl 4294967296 (win us1 off i) + q * vl 4294967296 (vs.take i) = vl 4294967296 (win us off i) + 4294967296 ^ i * (c.toNat + b.toNat) ∧
   σ = ⟨(putE (putE (putE (putE (putE (putE (putE un0 (some 0) (.own 0 0 off (n + 1))) (some 1) (.own 1 0 0 n)) (some 2) (.int .u64 q)) (some 7) (.int .u64 c)) (some 8) (.int .u64 b)) (some 14) (.int .i64 n)) (some 15) (.int .i64 i)), [some (0, 104, 1, W us1), some (0, 104, 1, W vs)]⟩) n
  (Ent.env (less_put (less_put (less_put (less_put (less_put (less_put (less_put (less_un0 _) ?_) ?_) ?_) ?_) ?_) ?_) ?_)) ⟨0, us, 0, 0, by omega, rfl, rfl, hu, rfl, rfl, by omega, by omega, by omega, by omega, by simp [vl, win], rfl⟩ (by rintro k σ ⟨_, _, _, _, _, _, _, _, _, _, _, _, _, _, _, rfl⟩; exact Nat.le_refl _) ?_
 iterate 7 (· exact xlq)
 rintro k σ1 ⟨i, us1, c, b, hi, rfl, hl1, ho1, ht1, hd1, hc0, hc1, hb0, hb1, heq, rfl⟩
 refine xctl ?_
 refine xrg ?_
 refine xctl ?_
 refine xcs (fun hb => ?_) (fun hb => ?_)
 ·have hb' := of_decide_eq_true hb
  have gv := ok_get hv (by omega) i
  have gu := ok_get ho1 (by omega) (off + i)
  have hqy := mul_bound (x := q) (y := vs.getD i 0) (n := 4294967295) (by omega) (by omega)
  refine xctl ?_
  refine xrg ?_
  refine xctl ?_
  refine xrg ?_
  refine xctl ?_
  refine xrg ?_
  refine xctl ?_
  generalize hD : ((us1.getD (off + i) 0 - (c + q * vs.getD i 0) % 4294967296) % 18446744073709551616 - b) % 18446744073709551616 = d
  have hd0 : 0 ≤ d ∧ d < 18446744073709551616 := by omega
  have hq2 : d / 4294967296 % 2 = 0 ∧ d % 4294967296 + (c + q * vs.getD i 0) % 4294967296 + b = us1.getD (off + i) 0 ∨ d / 4294967296 % 2 = 1 ∧ d % 4294967296 + (c + q * vs.getD i 0) % 4294967296 + b = us1.getD (off + i) 0 + 4294967296 := by omega
  have eC : (c + q * vs.getD i 0).toNat = c.toNat + q * (vs.getD i 0).toNat := by
   rw [Int.toNat_add (by omega) (by omega), Int.toNat_mul (by omega) (by omega)]; rfl
  have hst := less_step (B := 4294967296) (i := i) (q := q) (x := (us1.getD (off + i) 0).toNat) (y := (vs.getD i 0).toNat) (d := (d % 4294967296).toNat) (t := (d / 4294967296 % 2).toNat) heq (by rw [← eC]; omega)
  rw [← eC] at hst
  refine xrg ?_
  refine xctl ?_
  refine xrg ?_
  refine xctl ?_
  refine xrg ?_
  refine xctl ?_
  refine xrg ?_
  refine xctl ?_
  refine ⟨n - (i + 1), _, by omega, Ent.env (less_put (less_put (less_put (less_put (less_put (less_put (less_put (less_un0 _) ?_) ?_) ?_) ?_) ?_) ?_) ?_), i + 1, us1.set (off + i) (d % 4294967296), (c + q * vs.getD i 0) / 4294967296, d / 4294967296 % 2, by omega, rfl, by simp [hl1], ok_set ho1 _ (by omega), by rw [take_set_ge (by omega), ht1], ?_, by omega, by omega, by omega, by omega, ?_, rfl⟩
  iterate 7 (· exact xlq)
  ·rw [show off + (i + 1) = off + i + 1 by omega, drop_set_lt (by omega), ← List.drop_drop, hd1, List.drop_drop]
  ·rw [vl_win_set (by omega), vl_take_next _ vs, vl_win_next (by omega)]
   have e1 : us.getD (off + i) 0 = us1.getD (off + i) 0 := by
    have := congrArg (fun l => l.getD 0 0) hd1
    simpa [List.getD_eq_getElem?_getD] using this.symm
   rw [e1, show ((c + q * vs.getD i 0) / 4294967296).toNat = (c + q * vs.getD i 0).toNat / 4294967296 by omega]
   exact hst
 ·have hb' := of_decide_eq_false hb
  have hiN : i = n := by omega
  subst hiN
  have gu := ok_get ho1 (by omega) (off + i)
  refine xctl ?_
  refine xrg ?_
  refine xctl ?_
  refine xrg ?_
  refine xctl ?_
  generalize hD : ((us1.getD (off + i) 0 - c) % 18446744073709551616 - b) % 18446744073709551616 = d
  have hd0 : 0 ≤ d ∧ d < 18446744073709551616 := by omega
  have hq2 : d / 4294967296 = 0 ∧ d % 4294967296 + c + b = us1.getD (off + i) 0 ∨ d / 4294967296 ≠ 0 ∧ d % 4294967296 + c + b = us1.getD (off + i) 0 + 4294967296 := by omega
  obtain ⟨t, ht01, htd, hte⟩ : ∃ t : Nat, t ≤ 1 ∧ (t = 1 ↔ d / 4294967296 ≠ 0) ∧ (d % 4294967296).toNat + c.toNat + b.toNat = (us1.getD (off + i) 0).toNat + 4294967296 * t := by
   rcases hq2 with ⟨h1, h2⟩ | ⟨h1, h2⟩
   ·exact ⟨0, by omega, by omega, by omega⟩
   ·exact ⟨1, by omega, by omega, by omega⟩
  have e1 : us.getD (off + i) 0 = us1.getD (off + i) 0 := by
   have := congrArg (fun l => l.getD 0 0) hd1
   simpa [List.getD_eq_getElem?_getD] using this.symm
  have hfin : vl 4294967296 (win (us1.set (off + i) (d % 4294967296)) off (i + 1)) + q * vl 4294967296 (vs.take i) = vl 4294967296 (win us off (i + 1)) + 4294967296 ^ (i + 1) * t := by
   rw [vl_win_set (by omega), vl_win_next (by omega), e1, Nat.pow_succ, Nat.mul_assoc]
   have := congrArg (4294967296 ^ i * ·) hte
   simp only [Nat.mul_add] at this heq
   omega
  have hok2 : ok 4294967296 (us1.set (off + i) (d % 4294967296)) := ok_set ho1 _ (by omega)
  have hwl := vl_lt (win_ok hok2 off (i + 1))
  rw [win_len (by simp; omega)] at hwl
  have hwu := vl_lt (win_ok hu off (i + 1))
  rw [win_len (by omega)] at hwu
  obtain ⟨hleft, hlt⟩ := left_of hfin hwl ht01 hwu
  have hput : us1.set (off + i) (d % 4294967296) = putW us off (pd 4294967296 (left (4294967296 ^ (i + 1)) (vl 4294967296 (win us off (i + 1))) (q * vl 4294967296 (vs.take i))) (i + 1)) := by
   rw [← hleft]
   have h1 := pd_eq (by omega) (win_ok hok2 off (i + 1))
   rw [win_len (by simp; omega)] at h1
   rw [← h1]
   refine putW_of ?_ ?_ (by simp; omega)
   ·rw [take_set_ge (by omega), ht1]
   ·rw [show off + (i + 1) = off + i + 1 by omega, drop_set_lt (by omega), ← List.drop_drop, hd1, List.drop_drop]
  refine xrg ?_
  refine xctl ?_
  refine xrg ?_
  refine xctl ?_
  rw [← hput]
  refine resg_ret (by simp (disch := omega) only [go_sem, Nat.reduceEqDiff, Nat.reduceAdd, Nat.reduceLT, Nat.reduceMul, Nat.reduceLeDiff, reduceCtorEq, Int.reduceNeg, Int.reduceToNat]; rfl) ?_ ?_ ?_
  ·rw [hr]
   show D.bool _ = D.bool _
   congr 1
   rw [decide_eq_decide, ← hlt, htd]
  ·rw [hr]; simp [kb]
  ·exact kbH_imm (by simp [immH, W_imm])
end Go.Proofs.YtoiepmpggabglaaGreatDoorK.NatT
/-
 nat.step: what it computes.
-/
namespace Go.Proofs.YtoiepmpggabglaaGreatDoorK.NatT
open AI NatIr Dig
attribute [local irreducible] awp awpOps
variable {G : World → Prop}
theorem step_res {Q : Nat} (h : Q + 1 < 4294967296) : D.int .u32 ((((Q + 1 : Nat) : Int) - 1) % 18446744073709551616 % 4294967296) = D.int .u32 (Q : Int) := by
 congr 1
 omega
theorem pcr_step (us vs : List Int) (off n : Nat) (hn2 : 2 ≤ n) (hn : n ≤ vs.length) (hoff : off + n + 1 ≤ us.length) (hu : ok 4294967296 us) (hv : ok 4294967296 vs) (hlu : us.length < 1000000) (hlv : vs.length < 1000000)
  (htop : 0 < vs.getD (n - 1) 0) (hUV : vl 4294967296 (win us off (n + 1)) < vl 4294967296 (vs.take n) * 4294967296) :
  PCg Tryz.prog G 119 [.own 0 0 off (n + 1), .own 1 0 0 n] [some (0, 104, 1, W us), some (0, 104, 1, W vs)]
   (.int .u32 (vl 4294967296 (win us off (n + 1)) / vl 4294967296 (vs.take n) : Nat))
   [some (0, 104, 1, W (putW us off (pd 4294967296 (vl 4294967296 (win us off (n + 1)) % vl 4294967296 (vs.take n)) (n + 1)))), some (0, 104, 1, W vs)] := by
 refine pcg_by (fn := Tryz.f119) (n := 117) (rv := [.tmp 4]) (by kernel_rfl) ok119 (by kernel_rfl) (by decide) (by kernel_rfl) (by simp) (by kernel_rfl) (by simp) (fun r hh hr hhe => ?_); unfold c119
 subst hhe
 have g1 := ok_get hu (by omega) (off + n)
 have g2 := ok_get hu (by omega) (off + (n - 1))
 have g3 := ok_get hu (by omega) (off + (n - 2))
 have g4 := ok_get hv (by omega) (n - 1)
 have g5 := ok_get hv (by omega) (n - 2)
 refine xctl ?_
 refine xrg ?_
 refine xctl ?_
 refine xrg ?_
 refine xctl ?_
 refine xrg ?_
 refine xctl ?_
 refine xdr ?_
 refine xctl ?_
 refine xrg ?_
 refine xctl ?_
 refine xdr ?_
 refine xctl ?_
 -- the numbers
 have hVe := vl_top2 (B := 4294967296) hn2 hn
 have hV0 := vl_lt (ok_take hv (n - 2))
 rw [List.length_take, Nat.min_eq_left (by omega)] at hV0
 have hUe : vl 4294967296 (win us off (n + 1)) = vl 4294967296 (win us off (n - 2)) + 4294967296 ^ (n - 2) * (us.getD (off + (n - 2)) 0).toNat + 4294967296 ^ (n - 2) * 4294967296 * ((us.getD (off + n) 0).toNat * 4294967296 + (us.getD (off + (n - 1)) 0).toNat) := by
  obtain ⟨k, rfl⟩ : ∃ k, n = k + 2 := ⟨n - 2, by omega⟩
  rw [show k + 2 + 1 = k + 1 + 1 + 1 by omega, vl_win_next (by omega), vl_win_next (by omega), vl_win_next (by omega), show k + 2 - 2 = k by omega, show k + 2 - 1 = k + 1 by omega, show k + 1 + 1 = k + 2 by omega, show 4294967296 ^ (k + 2) = 4294967296 ^ (k + 1) * 4294967296 from Nat.pow_succ _ _, show off + (k + 1 + 1) = off + (k + 2) by omega]
  rw [show 4294967296 ^ (k + 1) = 4294967296 ^ k * 4294967296 from Nat.pow_succ _ _]
  generalize 4294967296 ^ k = P
  generalize (us.getD (off + (k + 2)) 0).toNat = a2
  generalize (us.getD (off + (k + 1)) 0).toNat = a1
  rw [Nat.mul_add, Nat.mul_assoc (P * 4294967296) 4294967296 a2, Nat.mul_comm a2]
  omega
 have hU0 := vl_lt (win_ok hu off (n - 2))
 rw [win_len (by omega)] at hU0
 have hVp : 0 < vl 4294967296 (vs.take n) := by
  rcases Nat.eq_zero_or_pos (vl 4294967296 (vs.take n)) with h | h
  ·rw [h] at hUV; omega
  ·exact h
 generalize hH : us.getD (off + n) 0 * 4294967296 + us.getD (off + (n - 1)) 0 = H
 obtain ⟨HN, rfl⟩ : ∃ HN : Nat, H = HN := ⟨H.toNat, by omega⟩
 rw [show (us.getD (off + n) 0).toNat * 4294967296 + (us.getD (off + (n - 1)) 0).toNat = HN by omega] at hUe
 generalize hT : vs.getD (n - 1) 0 = T at *
 obtain ⟨TN, rfl⟩ : ∃ TN : Nat, T = TN := ⟨T.toNat, by omega⟩
 generalize hX : vs.getD (n - 2) 0 = X at *
 obtain ⟨XN, rfl⟩ : ∃ XN : Nat, X = XN := ⟨X.toNat, by omega⟩
 simp only [Int.toNat_natCast] at hVe
 generalize hY : us.getD (off + (n - 2)) 0 = Y at *
 obtain ⟨YN, rfl⟩ : ∃ YN : Nat, Y = YN := ⟨Y.toNat, by omega⟩
 simp only [Int.toNat_natCast] at hUe
 have hqd : 0 ≤ (HN : Int) / TN ∧ (HN : Int) / TN ≤ HN := by
  have := Nat.div_le_self HN TN
  exact ⟨by exact Int.natCast_nonneg (HN / TN), by exact_mod_cast this⟩
 have hrd : 0 ≤ (HN : Int) % TN ∧ (HN : Int) % TN < TN := ⟨Int.emod_nonneg _ (by omega), Int.emod_lt_of_pos _ (by omega)⟩
 refine xrg ?_
 refine xctl ?_
 refine xrg ?_
 refine xctl1 ?_
 refine awp_seq_mid (fun σ => ∃ q : Nat, q < 4294967296 ∧ vl 4294967296 (win us off (n + 1)) / vl 4294967296 (vs.take n) ≤ q ∧ q ≤ vl 4294967296 (win us off (n + 1)) / vl 4294967296 (vs.take n) + 1 ∧
  σ = ⟨(putE (putE (putE (putE un0 (some 0) (.own 0 0 off (n + 1))) (some 1) (.own 1 0 0 n)) (some 5) (.int .i64 n)) (some 9) (.int .u64 q)), [some (0, 104, 1, W us), some (0, 104, 1, W vs)]⟩) ?_ ?_
 ·rintro σ ⟨q, hqB, hge, hmost, rfl⟩
  have hVn : vl 4294967296 (vs.take n) < 4294967296 ^ n := by
   have := vl_lt (ok_take hv n)
   rwa [List.length_take, Nat.min_eq_left hn] at this
  have hPn : 4294967296 ^ (n + 1) = 4294967296 ^ n * 4294967296 := Nat.pow_succ _ _
  have hUn := vl_lt (win_ok hu off (n + 1))
  rw [win_len (by omega)] at hUn
  refine xctl ?_
  refine xrg ?_
  refine ops_callw [0, 1] (pcr_less us vs off n q hn hoff hu hv hlu hlv hqB) (by simp (disch := omega) only [go_sem, Nat.reduceEqDiff, Nat.reduceAdd, Nat.reduceLT, Nat.reduceMul, Nat.reduceLeDiff, reduceCtorEq, Int.reduceNeg, Int.reduceToNat]; rfl) (by simp [kb]) (by decide) rfl (by simp) rfl (by simp) (by simp [immH, W_imm, SS_imm]) (by simp [immH, W_imm, SS_imm]) (by simp only [D.ren, List.getD_cons_zero, List.getD_cons_succ]; rfl) (by simp only [List.zip_cons_cons, List.zip_nil_left, List.zip_nil_right]; rfl) ?_
  refine xrg ?_
  refine xctl ?_
  by_cases hcm : vl 4294967296 (win us off (n + 1)) < q * vl 4294967296 (vs.take n)
  ·refine awp_cond_f (by simp only [go_sem, Nat.reduceEqDiff, Nat.reduceAdd, Nat.reduceLT, Nat.reduceMul, Nat.reduceLeDiff, reduceCtorEq, Int.reduceNeg, Int.reduceToNat]; simp [hcm]) ?_
   have hqe : q = vl 4294967296 (win us off (n + 1)) / vl 4294967296 (vs.take n) + 1 := by
    have : q ≠ vl 4294967296 (win us off (n + 1)) / vl 4294967296 (vs.take n) := fun h => by
     have := Nat.div_mul_le_self (vl 4294967296 (win us off (n + 1))) (vl 4294967296 (vs.take n))
     rw [← h] at this
     omega
    generalize vl 4294967296 (win us off (n + 1)) / vl 4294967296 (vs.take n) = Q at *
    omega
   have hqP : q * vl 4294967296 (vs.take n) ≤ vl 4294967296 (win us off (n + 1)) + vl 4294967296 (vs.take n) := by
    have := Nat.div_mul_le_self (vl 4294967296 (win us off (n + 1))) (vl 4294967296 (vs.take n))
    rw [hqe, Nat.add_mul]; omega
   have hlb := left_back (P := 4294967296 ^ (n + 1)) hVp (by omega) hqe hcm hqP
   have hlP : left (4294967296 ^ (n + 1)) (vl 4294967296 (win us off (n + 1))) (q * vl 4294967296 (vs.take n)) < 4294967296 ^ (n + 1) := by
    unfold left
    rw [if_neg (by omega)]; omega
   generalize left (4294967296 ^ (n + 1)) (vl 4294967296 (win us off (n + 1))) (q * vl 4294967296 (vs.take n)) = x at *
   have hpl : (pd 4294967296 x (n + 1)).length = n + 1 := pd_length _ _ _
   have hwin : win (putW us off (pd 4294967296 x (n + 1))) off (n + 1) = pd 4294967296 x (n + 1) := by
    have := putW_win (l := us) (off := off) (ws := pd 4294967296 x (n + 1)) (by omega)
    rwa [hpl] at this
   have hwv : vl 4294967296 (win (putW us off (pd 4294967296 x (n + 1))) off (n + 1)) = x := by rw [hwin, pd_vl (by omega) _ _ hlP]
   have hpu : putW (putW us off (pd 4294967296 x (n + 1))) off (pd 4294967296 (vl 4294967296 (win us off (n + 1)) % vl 4294967296 (vs.take n)) (n + 1)) = putW us off (pd 4294967296 (vl 4294967296 (win us off (n + 1)) % vl 4294967296 (vs.take n)) (n + 1)) := putW_put (by omega) (by rw [hpl, pd_length])
   have hul : (putW us off (pd 4294967296 x (n + 1))).length = us.length := putW_len (by omega)
   have huo : ok 4294967296 (putW us off (pd 4294967296 x (n + 1))) := putW_ok hu (pd_ok (by omega) _ _)
   rw [← hpu]
   generalize putW us off (pd 4294967296 x (n + 1)) = ut at *
   refine xctl ?_
   refine xrg ?_
   refine xctl1 ?_
   refine awp_seq_mid (fun σ => ∃ (u2 : List Int) (c : Int), u2.length = us.length ∧ ok 4294967296 u2 ∧ u2.take off = ut.take off ∧ u2.drop (off + n) = ut.drop (off + n) ∧ 0 ≤ c ∧ c ≤ 1 ∧
     vl 4294967296 (win u2 off n) + 4294967296 ^ n * c.toNat = vl 4294967296 (win ut off n) + vl 4294967296 (vs.take n) ∧
    σ = ⟨(putE (putE (putE (putE un0 (some 0) (.own 0 0 off (n + 1))) (some 5) (.int .i64 n)) (some 9) (.int .u64 q)) (some 11) (.int .u64 c)), [some (0, 104, 1, W u2), some (0, 104, 1, W vs)]⟩) ?_ ?_
   ·rintro σ ⟨u2, c, hl2, ho2, ht2, hd2, hc0, hc1, heq, rfl⟩
    have gt := ok_get ho2 (by omega) (off + n)
    have e1 : ut.getD (off + n) 0 = u2.getD (off + n) 0 := by
     have := congrArg (fun l => l.getD 0 0) hd2
     simpa [List.getD_eq_getElem?_getD] using this.symm
    have hfin : u2.set (off + n) ((u2.getD (off + n) 0 + c) % 4294967296) = putW ut off (pd 4294967296 (vl 4294967296 (win us off (n + 1)) % vl 4294967296 (vs.take n)) (n + 1)) := by
     have hok2 : ok 4294967296 (u2.set (off + n) ((u2.getD (off + n) 0 + c) % 4294967296)) := ok_set ho2 _ (by omega)
     have hwl := vl_lt (win_ok hok2 off (n + 1))
     rw [win_len (by simp; omega)] at hwl
     have h2 := vl_win_set (B := 4294967296) (l := u2) (off := off) (i := n) (by omega) ((u2.getD (off + n) 0 + c) % 4294967296)
     have h3 := back_end (B := 4294967296) (un := (u2.getD (off + n) 0).toNat) heq (by rw [show ((u2.getD (off + n) 0).toNat + c.toNat) % 4294967296 = ((u2.getD (off + n) 0 + c) % 4294967296).toNat by omega]; exact h2) hwl
     rw [← e1, ← vl_win_next (by omega), hwv, hlb, e1] at h3
     have h1 := pd_eq (by omega) (win_ok hok2 off (n + 1))
     rw [win_len (by simp; omega), h3] at h1
     rw [← h1]
     refine putW_of ?_ ?_ (by simp; omega)
     ·rw [take_set_ge (by omega), ht2]
     ·rw [show off + (n + 1) = off + n + 1 by omega, drop_set_lt (by omega), ← List.drop_drop, hd2, List.drop_drop]
    rw [← hfin]
    refine xctl ?_
    refine xrg ?_
    refine xctl ?_
    refine xrg ?_
    refine xctl ?_
    refine resg_ret (by simp (disch := omega) only [go_sem, Nat.reduceEqDiff, Nat.reduceAdd, Nat.reduceLT, Nat.reduceMul, Nat.reduceLeDiff, reduceCtorEq, Int.reduceNeg, Int.reduceToNat]; rfl) ?_ ?_ ?_
    ·rw [hr, hqe]
     exact step_res (by omega)
    ·rw [hr]; simp [kb]
    ·exact kbH_imm (by simp [immH, W_imm])
   ·refine xctl ?_
    refine xrg ?_
    refine xctl ?_
    refine awp_loopm (fun k σ => ∃ (i : Nat) (u2 : List Int) (c : Int), i ≤ n ∧ k = n - i ∧ u2.length = us.length ∧ ok 4294967296 u2 ∧ u2.take off = ut.take off ∧ u2.drop (off + i) = ut.drop (off + i) ∧ 0 ≤ c ∧ c ≤ 1 ∧
       vl 4294967296 (win u2 off i) + 4294967296 ^ i * c.toNat = vl 4294967296 (win ut off i) + vl 4294967296 (vs.take i) ∧
      σ = ⟨(putE (putE (putE (putE (putE (putE (putE un0 (some 0) (.own 0 0 off (n + 1))) (some 1) (.own 1 0 0 n)) (some 5) (.int .i64 n)) (some 9) (.int .u64 q)) (some 11) (.int .u64 c)) (some 81) (.int .i64 n)) (some 82) (.int .i64 i)), [some (0, 104, 1, W u2), some (0, 104, 1, W vs)]⟩) n
     (Ent.env (less_put (less_put (less_put (less_put (less_put (less_put (less_put (less_un0 _) ?_) ?_) ?_) ?_) ?_) ?_) ?_)) ⟨0, ut, 0, by omega, rfl, hul, huo, rfl, rfl, by omega, by omega, by simp [vl, win], rfl⟩ (by rintro k σ ⟨_, _, _, _, _, _, _, _, _, _, _, _, rfl⟩; exact Nat.le_refl _) ?_
    iterate 7 (· exact xlq)
    rintro k σ1 ⟨i, u2, c, hi, rfl, hl2, ho2, ht2, hd2, hc0, hc1, heq, rfl⟩
    refine xctl ?_
    refine xrg ?_
    refine xctl ?_
    refine xcs (fun hb => ?_) (fun hb => ?_)
    ·have hb' := of_decide_eq_true hb
     have gv := ok_get hv (by omega) i
     have gu := ok_get ho2 (by omega) (off + i)
     refine xctl ?_
     refine xrg ?_
     refine xctl ?_
     refine xrg ?_
     refine xctl ?_
     refine xdr ?_
     refine xctl ?_
     refine xrg ?_
     refine xctl ?_
     refine xrg ?_
     refine xctl ?_
     refine xrg ?_
     refine xctl ?_
     have hst := add_step (B := 4294967296) (i := i) (x := (u2.getD (off + i) 0).toNat) (y := (vs.getD i 0).toNat) heq
     refine ⟨n - (i + 1), _, by omega, Ent.env (less_put (less_put (less_put (less_put (less_put (less_put (less_put (less_un0 _) ?_) ?_) ?_) ?_) ?_) ?_) ?_), i + 1, u2.set (off + i) ((c + (u2.getD (off + i) 0 + vs.getD i 0)) % 4294967296), (c + (u2.getD (off + i) 0 + vs.getD i 0)) / 4294967296, by omega, rfl, by simp [hl2], ok_set ho2 _ (by omega), by rw [take_set_ge (by omega), ht2], ?_, by omega, by omega, ?_, rfl⟩
     iterate 7 (· exact xlq)
     ·rw [show off + (i + 1) = off + i + 1 by omega, drop_set_lt (by omega), ← List.drop_drop, hd2, List.drop_drop]
     ·have e1 : ut.getD (off + i) 0 = u2.getD (off + i) 0 := by
       have := congrArg (fun l => l.getD 0 0) hd2
       simpa [List.getD_eq_getElem?_getD] using this.symm
      rw [vl_win_set (by omega), vl_take_next _ vs, vl_win_next (by omega), e1, show ((c + (u2.getD (off + i) 0 + vs.getD i 0)) % 4294967296).toNat = (c.toNat + ((u2.getD (off + i) 0).toNat + (vs.getD i 0).toNat)) % 4294967296 by omega, show ((c + (u2.getD (off + i) 0 + vs.getD i 0)) / 4294967296).toNat = (c.toNat + ((u2.getD (off + i) 0).toNat + (vs.getD i 0).toNat)) / 4294967296 by omega]
      exact hst
    ·have hb' := of_decide_eq_false hb
     have hiN : i = n := by omega
     subst hiN
     refine xctl ?_
     refine ⟨_, Nat.le_refl _, Ent.env (less_put (less_put (less_put (less_put (less_un0 _) ?_) ?_) ?_) ?_), u2, c, hl2, ho2, ht2, hd2, hc0, hc1, heq, rfl⟩
     iterate 4 (· exact xlq)
  ·refine awp_cond_t (by simp only [go_sem, Nat.reduceEqDiff, Nat.reduceAdd, Nat.reduceLT, Nat.reduceMul, Nat.reduceLeDiff, reduceCtorEq, Int.reduceNeg, Int.reduceToNat]; simp [hcm]) ?_
   obtain ⟨h1, h2⟩ := left_just (P := 4294967296 ^ (n + 1)) hVp (by omega) hge
   rw [h2]
   refine xctl ?_
   refine xrg ?_
   refine xctl ?_
   refine resg_ret (by simp (disch := omega) only [go_sem, Nat.reduceEqDiff, Nat.reduceAdd, Nat.reduceLT, Nat.reduceMul, Nat.reduceLeDiff, reduceCtorEq, Int.reduceNeg, Int.reduceToNat]; rfl) ?_ ?_ ?_
   ·rw [hr, ← h1]; rfl
   ·rw [hr]; simp [kb]
   ·exact kbH_imm (by simp [immH, W_imm])
 ·refine xctl1 ?_
  have inv0 : HN / TN * TN + HN % TN = HN := by rw [Nat.mul_comm]; exact Nat.div_add_mod HN TN
  have hrl : HN % TN < TN := Nat.mod_lt _ (by omega)
  refine awp_loopm (fun k σ => ∃ q rest : Nat, k = q ∧ q * TN + rest = HN ∧ rest < 4294967296 ∧ vl 4294967296 (win us off (n + 1)) / vl 4294967296 (vs.take n) ≤ q ∧
   σ = ⟨(putE (putE (putE (putE (putE (putE (putE un0 (some 0) (.own 0 0 off (n + 1))) (some 1) (.own 1 0 0 n)) (some 5) (.int .i64 n)) (some 7) (.int .u64 TN)) (some 8) (.int .u64 XN)) (some 9) (.int .u64 q)) (some 10) (.int .u64 rest)), [some (0, 104, 1, W us), some (0, 104, 1, W vs)]⟩) (HN / TN)
   (Ent.env (less_put (less_put (less_put (less_put (less_put (less_put (less_put (less_un0 _) ?_) ?_) ?_) ?_) ?_) ?_) ?_)) ⟨HN / TN, HN % TN, rfl, inv0, by omega, ?_, rfl⟩ (by rintro k σ ⟨_, _, _, _, _, _, rfl⟩; exact Nat.le_refl _) ?_
  iterate 5 (· exact xlq)
  ·simp only [go_sem, Nat.reduceEqDiff, Nat.reduceAdd, Nat.reduceLT, Nat.reduceMul, Nat.reduceLeDiff, reduceCtorEq, Int.reduceNeg, Int.reduceToNat]
   rfl
  ·simp only [go_sem, Nat.reduceEqDiff, Nat.reduceAdd, Nat.reduceLT, Nat.reduceMul, Nat.reduceLeDiff, reduceCtorEq, Int.reduceNeg, Int.reduceToNat]
   rfl
  ·exact q_first hVe hUe hU0 (by omega) hVp (by omega)
  rintro q σ1 ⟨_, rest, rfl, hinv, hrest, hge, rfl⟩
  refine awp_seq_i ?_
  refine awp_seq_mid (fun σ => ∃ b : Bool, (b = true ↔ 4294967296 ≤ q ∨ rest * 4294967296 + YN < q * XN) ∧
   σ = ⟨(putE (putE (putE (putE (putE (putE (putE (putE un0 (some 0) (.own 0 0 off (n + 1))) (some 1) (.own 1 0 0 n)) (some 5) (.int .i64 n)) (some 7) (.int .u64 TN)) (some 8) (.int .u64 XN)) (some 9) (.int .u64 q)) (some 10) (.int .u64 rest)) (some 66) (.bool b)), [some (0, 104, 1, W us), some (0, 104, 1, W vs)]⟩) ?_ ?_
  ·rintro σ ⟨b, hbc, rfl⟩
   refine xcs (fun hb => ?_) (fun hb => ?_)
   ·have hlt := q_less hVe hUe hU0 hinv hVp hUV (hbc.1 hb)
    have hq1 : 0 < q := Nat.lt_of_le_of_lt (Nat.zero_le _) hlt
    have hqH : q ≤ HN := by
     have := Nat.le_mul_of_pos_right q (show 0 < TN by omega)
     omega
    refine xctl ?_
    refine xrg ?_
    refine xctl ?_
    refine xrg ?_
    refine xctl ?_
    refine xrg ?_
    refine xctl ?_
    have hinv2 : (q - 1) * TN + (rest + TN) = HN := by
     have : q * TN = (q - 1) * TN + TN := by
      obtain ⟨q', rfl⟩ : ∃ q', q = q' + 1 := ⟨q - 1, by omega⟩
      rw [Nat.add_mul]; simp
     omega
    refine xcs (fun hb => ?_) (fun hb => ?_)
    ·have hb2 := of_decide_eq_true hb
     have hqB : q - 1 < 4294967296 := by
      rcases Nat.lt_or_ge (q - 1) 4294967296 with h | h
      ·exact h
      ·have : 4294967296 * TN ≤ (q - 1) * TN := Nat.mul_le_mul_right _ h
       have hu9 := q_top hVe hUe hV0 (by omega) hUV
       omega
     refine xctl ?_
     refine ⟨_, Nat.le_refl _, Ent.env (less_put (less_put (less_put (less_put (less_un0 _) ?_) ?_) ?_) ?_), q - 1, hqB, Nat.le_sub_one_of_lt hlt, q_most hVe hUe hV0 (by omega) hinv2 hqB (by omega) (.inl (by omega)), rfl⟩
     iterate 3 (· exact xlq)
     ·simp only [go_sem, Nat.reduceEqDiff, Nat.reduceAdd, Nat.reduceLT, Nat.reduceMul, Nat.reduceLeDiff, reduceCtorEq, Int.reduceNeg, Int.reduceToNat]
      rw [show ((q - 1 : Nat) : Int) = (q : Int) - 1 by omega]
    ·have hb2 := of_decide_eq_false hb
     refine xctl ?_
     refine ⟨q - 1, _, by omega, Ent.env (less_put (less_put (less_put (less_put (less_put (less_put (less_put (less_un0 _) ?_) ?_) ?_) ?_) ?_) ?_) ?_), q - 1, rest + TN, rfl, hinv2, by omega, Nat.le_sub_one_of_lt hlt, rfl⟩
     iterate 5 (· exact xlq)
     ·simp only [go_sem, Nat.reduceEqDiff, Nat.reduceAdd, Nat.reduceLT, Nat.reduceMul, Nat.reduceLeDiff, reduceCtorEq, Int.reduceNeg, Int.reduceToNat]
      rw [show ((q - 1 : Nat) : Int) = (q : Int) - 1 by omega]
     ·simp only [go_sem, Nat.reduceEqDiff, Nat.reduceAdd, Nat.reduceLT, Nat.reduceMul, Nat.reduceLeDiff, reduceCtorEq, Int.reduceNeg, Int.reduceToNat]
      rfl
   ·have hnc : ¬ (4294967296 ≤ q ∨ rest * 4294967296 + YN < q * XN) := fun h => by rw [hbc.2 h] at hb; cases hb
    refine xctl ?_
    refine ⟨_, Nat.le_refl _, Ent.env (less_put (less_put (less_put (less_put (less_un0 _) ?_) ?_) ?_) ?_), q, by omega, hge, q_most hVe hUe hV0 (by omega) hinv (by omega) (by omega) (.inr (by omega)), rfl⟩
    iterate 4 (· exact xlq)
  ·refine xctl1 ?_
   by_cases hqB : 4294967296 ≤ q
   ·refine xrg ?_
    refine xctl1 ?_
    refine ⟨_, Nat.le_refl _, Ent.env (less_put (less_put (less_put (less_put (less_put (less_put (less_put (less_put (less_un0 _) ?_) ?_) ?_) ?_) ?_) ?_) ?_) ?_), true, by simp [hqB], rfl⟩
    iterate 8 (· exact xlq)
   ·have hqx : 0 ≤ (q : Int) * XN ∧ (q : Int) * XN ≤ 4294967295 * 4294967295 := mul_bound (by omega) (by omega)
    refine xrg ?_
    refine xctl1 ?_
    refine ⟨_, Nat.le_refl _, Ent.env (less_put (less_put (less_put (less_put (less_put (less_put (less_put (less_put (less_un0 _) ?_) ?_) ?_) ?_) ?_) ?_) ?_) ?_), decide (rest * 4294967296 + YN < q * XN), ?_, rfl⟩
    iterate 7 (· exact xlq)
    ·simp only [go_sem, Nat.reduceEqDiff, Nat.reduceAdd, Nat.reduceLT, Nat.reduceMul, Nat.reduceLeDiff, reduceCtorEq, Int.reduceNeg, Int.reduceToNat]
     congr 1
     rw [decide_eq_decide]
     have e : ((q * XN : Nat) : Int) = (q : Int) * XN := Int.natCast_mul q XN
     omega
    ·rw [decide_eq_true_eq]
     constructor
     ·exact .inr
     ·rintro (h | h)
      ·exact absurd h hqB
      ·exact h
end Go.Proofs.YtoiepmpggabglaaGreatDoorK.NatT
