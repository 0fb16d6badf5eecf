/-
 Joined: DivN, GcdN, TextN, TextO.
-/
import Derived.Test.YtoiepmpggabglaaGreatDoorKIrNat
import Derived.Test.YtoiepmpggabglaaGreatDoorKNb
import Derived.Test.YtoiepmpggabglaaGreatDoorKLb
import Derived.Test.YtoiepmpggabglaaGreatDoorKIrLib
import Derived.Test.YtoiepmpggabglaaGreatDoorKP
set_option linter.all false
set_option maxHeartbeats 0
/-
 nat.Div: what it computes.
-/
namespace Go.Proofs.YtoiepmpggabglaaGreatDoorK.NatT
open AI NatIr Dig LibT
attribute [local irreducible] awp awpOps
variable {G : World → Prop}
theorem pcr_clone (n : Nat) (l : List Int) (hn : n = l.length) (hl : l.length < 1000000) : PCr Tryz.prog G 116 [.sl n (W l)] (.sl n (W l)) := by
 obtain ⟨i0, hi, hz0, hz1, hz2⟩ := info_parts (by kernel_rfl : (Tryz.prog.info? 104).map (fun i => (i.zero, i.size, i.bytes)) = some (some (.int .u32 0), 1, 4))
 exact lib_clone Tryz.laysCloneW rfl rfl i0 (.int .u32 0) 1 4 hi hz0 hz1 hz2 rfl (by omega) (by kernel_rfl) n (W l) (by rw [W_length]; omega) (fun d hd => by obtain ⟨x, _, rfl⟩ := List.mem_map.1 hd; rfl) (W_one l) (by omega)
theorem bitLen_lt (x : Nat) : x < 18446744073709551616 → x < 2 ^ Lib.bitLen x := by
 induction x using Nat.strongRecOn with
 | _ x ih =>
  intro h
  by_cases h0 : x = 0
  ·subst h0; exact Nat.pow_pos (by omega)
  ·have h1 := ih (x / 2) (by omega) (by omega)
   rw [Lib.bitLen_half x h0 h, Nat.add_comm, Nat.pow_succ]
   omega
theorem bitLen_pos {x : Nat} (h0 : x ≠ 0) (h : x < 18446744073709551616) : 1 ≤ Lib.bitLen x := by
 rw [Lib.bitLen_half x h0 h]; omega
theorem pcr_div (hG : Stable G) (a b : List Int) (n m : Nat) (hn : n = a.length) (hm : m = b.length) (ha : ok 4294967296 a) (hb : ok 4294967296 b) (hla : a.length < 400000) (hlb : b.length < 400000) :
  PCr Tryz.prog G 80 [.agg [.sl n (W a)], .agg [.sl m (W b)]]
   (.tup [if vl 4294967296 b = 0 then N 0 else N (vl 4294967296 a / vl 4294967296 b), if vl 4294967296 b = 0 then N 0 else N (vl 4294967296 a % vl 4294967296 b), .bool (decide (vl 4294967296 b ≠ 0))]) := by
 refine pcr_byq ok80 hG (n := 105) (rv := [.cell 4 true 1, .cell 5 true 1, .tmp 6]) fun r hr => ?_; unfold c80 st0
 refine xctl ?_
 refine xrg ?_
 refine xctl ?_
 refine xrg ?_
 refine xca1 ?_; refine xca (pcr_trim hG a n hn ha (by omega)) ?_
 refine xrg ?_
 refine xca1 ?_; refine xca (pcr_trim hG b m hm hb (by omega)) ?_
 refine xrg ?_
 refine xctl ?_
 refine xdr ?_
 refine xctl ?_
 have hxa := ok_wd (B := 4294967296) (by omega) (vl 4294967296 a)
 have hxb := ok_wd (B := 4294967296) (by omega) (vl 4294967296 b)
 have hva := vl_wd (B := 4294967296) (by omega) (vl 4294967296 a)
 have hvb := vl_wd (B := 4294967296) (by omega) (vl 4294967296 b)
 have h1 := wd_len_small ha
 have h2 := wd_len_small hb
 have hy0 := @wd_eq_nil 4294967296 (by omega) (vl 4294967296 b)
 have hNa : N (vl 4294967296 a) = .agg [.sl (wd 4294967296 (vl 4294967296 a)).length (W (wd 4294967296 (vl 4294967296 a)))] := rfl
 have hlast := wd_last (B := 4294967296) (by omega) (vl 4294967296 b)
 have hlex := @wd_less 4294967296 (by omega) (vl 4294967296 a) (vl 4294967296 b)
 generalize hx : wd 4294967296 (vl 4294967296 a) = x at *
 generalize hy : wd 4294967296 (vl 4294967296 b) = y at *
 generalize hX : vl 4294967296 a = X at *
 generalize hY : vl 4294967296 b = Y at *
 have hlx : x.length < 400000 := by omega
 have hly : y.length < 400000 := by omega
 have hN0 : N 0 = .agg [.sl 0 []] := by rw [N, wd_zero]; rfl
 by_cases hY0 : Y = 0
 ·have hyn : y.length = 0 := by rw [hy0.2 hY0]; rfl
  refine xrg ?_
  refine xctl ?_
  refine xct ?_
  refine xctl ?_
  refine xrg ?_
  refine xctl ?_
  refine xrt ?_
  rw [hr, if_pos hY0, if_pos hY0, hN0]
  simp [hY0]
 ·have hyn : 0 < y.length := by
   rcases Nat.eq_zero_or_pos y.length with h | h
   ·exact absurd (hy0.1 (List.eq_nil_of_length_eq_zero h)) hY0
   ·exact h
  rw [if_neg hY0, if_neg hY0, decide_eq_true hY0] at hr
  refine xrg ?_
  refine xctl ?_
  refine xcF ?_
  refine xctl ?_
  refine xrg ?_
  refine xcf1 ?_; refine xcf (pcr_cmp hG a b n m hn hm ha hb (by omega) (by omega)) rfl ?_
  rw [hX, hY]
  by_cases hXY : X < Y
  ·have hcm : cmpN X Y < 0 := by unfold cmpN; rw [if_pos hXY]; omega
   generalize cmpN X Y = cm at *
   refine xrg ?_
   refine xctl ?_
   refine xct ?_
   refine xctl ?_
   refine xrg ?_
   refine xca1 ?_; refine xca (pcr_clone x.length x rfl (by omega)) ?_
   refine xrg ?_
   refine xctl ?_
   refine xrt ?_
   rw [hr, Nat.div_eq_of_lt hXY, Nat.mod_eq_of_lt hXY, hN0, hNa]
  ·have hcm : ¬ cmpN X Y < 0 := by unfold cmpN; rw [if_neg hXY]; split <;> omega
   generalize cmpN X Y = cm at *
   refine xrg ?_
   refine xctl ?_
   refine xcF ?_
   refine xctl ?_
   refine xrg ?_
   refine xctl ?_
   by_cases hy1 : y.length = 1
   ·obtain ⟨d, rfl⟩ := List.length_eq_one_iff.1 hy1
    have hd := (ok_cons.1 hxb).1
    obtain ⟨dn, rfl⟩ : ∃ dn : Nat, d = dn := ⟨d.toNat, by omega⟩
    have hYd : dn = Y := by rw [← hvb]; simp [vl]
    subst hYd
    have hsl : (sdiv 4294967296 dn x).1.length = x.length := sdiv_len _ _ _
    have hsr := sdiv_lt (B := 4294967296) (d := dn) (by omega) x
    refine awp_cond_t (by simp only [go_sem, Nat.reduceEqDiff, Nat.reduceAdd, Nat.reduceLT, Nat.reduceMul, Nat.reduceLeDiff, reduceCtorEq, Int.reduceNeg, Int.reduceToNat]; rfl) ?_
    refine xctl ?_
    refine xrg ?_
    refine xca1 ?_; refine xca (pcr_small hG x dn x.length rfl (by omega) (by omega) hxa (by omega)) ?_
    refine xrg ?_
    refine xctl ?_
    refine xrg ?_
    refine xca1 ?_; refine xca (pcr_trim hG (sdiv 4294967296 dn x).1 x.length hsl.symm (sdiv_ok (by omega) (by omega) x hxa) (by omega)) ?_
    refine xrg ?_
    refine xca1 ?_; refine xca (pcr_of hG (sdiv 4294967296 dn x).2 (by omega)) ?_
    refine xrg ?_
    refine xctl ?_
    refine xrt ?_
    rw [hr, sdiv_q (by omega), sdiv_r (by omega), hva]; rfl
   ·refine awp_cond_f (by simp only [go_sem, Nat.reduceEqDiff, Nat.reduceAdd, Nat.reduceLT, Nat.reduceMul, Nat.reduceLeDiff, reduceCtorEq, Int.reduceNeg, Int.reduceToNat]; exact congrArg D.bool (decide_eq_false (by omega))) ?_
    refine xctl ?_
    refine xrg ?_
    -- long division
    have hly2 : 2 ≤ y.length := by omega
    have gT := ok_get hxb (by omega) (y.length - 1)
    have hTn : y.getD (y.length - 1) 0 ≠ 0 := hlast _ (getD_last (by intro h; subst h; simp at hyn))
    have hYlt : Y < ((y.getD (y.length - 1) 0).toNat + 1) * 4294967296 ^ (y.length - 1) ∧ (y.getD (y.length - 1) 0).toNat * 4294967296 ^ (y.length - 1) ≤ Y := by
     have h3 := vl_take_succ 4294967296 y (y.length - 1) (by omega)
     rw [show y.length - 1 + 1 = y.length by omega, List.take_length, hvb] at h3
     have h4 := vl_lt (ok_take hxb (y.length - 1))
     rw [List.length_take, Nat.min_eq_left (by omega)] at h4
     rw [Nat.add_mul, Nat.mul_comm (y.getD (y.length - 1) 0).toNat]
     omega
    generalize hTg : y.getD (y.length - 1) 0 = T at *
    obtain ⟨TN, rfl⟩ : ∃ TN : Nat, T = TN := ⟨T.toNat, by omega⟩
    refine xcf1 ?_; refine xcf (lib_clz TN (by omega)) rfl ?_
    have hbl := bitLen_lt TN (by omega)
    have hbp := bitLen_pos (x := TN) (by omega) (by omega)
    have hb32 := Any.bitLen_le32 TN (by omega) (by omega)
    simp only [Int.toNat_natCast] at hYlt hb32
    obtain ⟨k, hk⟩ : ∃ k, Lib.bitLen TN + k = 32 := ⟨32 - Lib.bitLen TN, by omega⟩
    rw [show (32 - (Lib.bitLen TN : Int)) = (k : Int) by omega]
    have hk31 : k ≤ 31 := by omega
    have hpp : 2 ^ Lib.bitLen TN * 2 ^ k = 4294967296 := by rw [← Nat.pow_add, hk]
    have hp1 : 0 < 2 ^ k := Nat.pow_pos (by omega)
    have hV : Y * 2 ^ k < 4294967296 ^ y.length := by
     have h3 : Y * 2 ^ k < (TN + 1) * 4294967296 ^ (y.length - 1) * 2 ^ k := Nat.mul_lt_mul_of_pos_right hYlt.1 hp1
     have h4 : (TN + 1) * 4294967296 ^ (y.length - 1) * 2 ^ k ≤ 2 ^ Lib.bitLen TN * 4294967296 ^ (y.length - 1) * 2 ^ k := Nat.mul_le_mul_right _ (Nat.mul_le_mul_right _ hbl)
     have h5 : 2 ^ Lib.bitLen TN * 4294967296 ^ (y.length - 1) * 2 ^ k = 4294967296 ^ y.length := by
      rw [Nat.mul_right_comm, hpp, Nat.mul_comm, ← Nat.pow_succ]
      congr 1
      omega
     omega
    have hXp : X * 2 ^ k < 4294967296 ^ (x.length + 1) := by
     have h3 := vl_lt hxa
     rw [hva] at h3
     have h4 : 2 ^ k ≤ 4294967296 := Nat.pow_le_pow_right (n := 2) (by omega) (show k ≤ 32 by omega)
     rw [Nat.pow_succ]
     exact Nat.mul_lt_mul_of_lt_of_le h3 h4 (by omega)
    obtain ⟨mm, hmm⟩ : ∃ mm, x.length = y.length + mm := ⟨x.length - y.length, by omega⟩
    refine xrg ?_
    refine xctl ?_
    refine xrg ?_
    refine ops_callw [4] (pcg_shift x x.length k rfl hxa (by omega) hk31) (by simp (disch := omega) only [go_sem, Nat.reduceEqDiff, Nat.reduceAdd, Nat.reduceLT, Nat.reduceMul, Nat.reduceLeDiff, reduceCtorEq, Int.reduceNeg, Int.reduceToNat]; rfl) (by simp [kb]) (by decide) rfl (by simp) rfl (by simp) (by simp [immH, W_imm, SS_imm]) (by simp [immH, W_imm, SS_imm]) (by simp only [D.ren, List.getD_cons_zero, List.getD_cons_succ]; rfl) (by simp only [List.zip_cons_cons, List.zip_nil_left, List.zip_nil_right]; rfl) ?_
    rw [hva]
    refine xrg ?_
    refine ops_callw [5] (pcg_shift y y.length k rfl hxb (by omega) hk31) (by simp (disch := omega) only [go_sem, Nat.reduceEqDiff, Nat.reduceAdd, Nat.reduceLT, Nat.reduceMul, Nat.reduceLeDiff, reduceCtorEq, Int.reduceNeg, Int.reduceToNat]; rfl) (by simp [kb]) (by decide) rfl (by simp) rfl (by simp) (by simp [immH, W_imm, SS_imm]) (by simp [immH, W_imm, SS_imm]) (by simp only [D.ren, List.getD_cons_zero, List.getD_cons_succ]; rfl) (by simp only [List.zip_cons_cons, List.zip_nil_left, List.zip_nil_right]; rfl) ?_
    rw [hvb]
    have hul0 : (pd 4294967296 (X * 2 ^ k) (x.length + 1)).length = x.length + 1 := pd_length _ _ _
    have huo0 : ok 4294967296 (pd 4294967296 (X * 2 ^ k) (x.length + 1)) := pd_ok (by omega) _ _
    have huv0 := pd_vl (B := 4294967296) (by omega) (x.length + 1) (X * 2 ^ k) hXp
    have hvl0 : (pd 4294967296 (Y * 2 ^ k) (y.length + 1)).length = y.length + 1 := pd_length _ _ _
    have hvo0 : ok 4294967296 (pd 4294967296 (Y * 2 ^ k) (y.length + 1)) := pd_ok (by omega) _ _
    have hPs : 4294967296 ^ (y.length + 1) = 4294967296 ^ y.length * 4294967296 := Nat.pow_succ _ _
    have hvv0 := pd_vl (B := 4294967296) (by omega) (y.length + 1) (Y * 2 ^ k) (by omega)
    have hvt := (vl_take_small (B := 4294967296) (n := y.length) (by rw [hvv0]; exact hV) (by omega) : vl 4294967296 ((pd 4294967296 (Y * 2 ^ k) (y.length + 1)).take y.length) = _ ∧ _).1
    rw [hvv0] at hvt
    have hBp : 0 < 4294967296 ^ (y.length - 1) := Nat.pow_pos (by omega)
    have hYp : 4294967296 ^ (y.length - 1) * 2 ^ k ≤ Y * 2 ^ k := by
     refine Nat.mul_le_mul_right _ ?_
     have : 1 * 4294967296 ^ (y.length - 1) ≤ TN * 4294967296 ^ (y.length - 1) := Nat.mul_le_mul_right _ (by omega)
     omega
    have hvtop : 0 < (pd 4294967296 (Y * 2 ^ k) (y.length + 1)).getD (y.length - 1) 0 := by
     rw [pd_getD _ _ _ (by omega)]
     have h3 : 1 ≤ Y * 2 ^ k / 4294967296 ^ (y.length - 1) := by
      rw [Nat.le_div_iff_mul_le hBp]
      have : 4294967296 ^ (y.length - 1) * 1 ≤ 4294967296 ^ (y.length - 1) * 2 ^ k := Nat.mul_le_mul_left _ hp1
      omega
     have h4 : Y * 2 ^ k / 4294967296 ^ (y.length - 1) < 4294967296 := by
      rw [Nat.div_lt_iff_lt_mul hBp, ← Nat.pow_succ', show (y.length - 1).succ = y.length by omega]
      exact hV
     rw [Nat.mod_eq_of_lt h4]
     omega
    have hu0 : vl 4294967296 ((pd 4294967296 (X * 2 ^ k) (x.length + 1)).drop (mm + 1)) < Y * 2 ^ k := by
     rw [← vl_div_pow (by omega) huo0, huv0, Nat.div_lt_iff_lt_mul (Nat.pow_pos (by omega))]
     have h3 := vl_lt hxa
     rw [hva, hmm, show y.length + mm = (y.length - 1) + (mm + 1) by omega, Nat.pow_add] at h3
     have h4 : X * 2 ^ k < 4294967296 ^ (y.length - 1) * 4294967296 ^ (mm + 1) * 2 ^ k := Nat.mul_lt_mul_of_pos_right h3 hp1
     have h5 : 4294967296 ^ (y.length - 1) * 2 ^ k * 4294967296 ^ (mm + 1) ≤ Y * 2 ^ k * 4294967296 ^ (mm + 1) := Nat.mul_le_mul_right _ hYp
     rw [Nat.mul_right_comm] at h4
     omega
    generalize pd 4294967296 (X * 2 ^ k) (x.length + 1) = u0 at *
    generalize pd 4294967296 (Y * 2 ^ k) (y.length + 1) = v0 at *
    refine xrg ?_
    refine xctl ?_
    refine xdr ?_
    refine xctl ?_
    refine xrg ?_
    rw [show ((x.length : Int) - y.length + 1).toNat = mm + 1 by omega]
    refine xctl ?_
    refine xrg ?_
    refine xctl ?_
    refine awp_loop (fun i σ => ∃ (u out : List Int), i ≤ mm + 1 ∧ u.length = x.length + 1 ∧ ok 4294967296 u ∧ out.length = mm + 1 ∧ ok 4294967296 out ∧ vl 4294967296 u + Y * 2 ^ k * (4294967296 ^ i * vl 4294967296 (out.drop i)) = X * 2 ^ k ∧ vl 4294967296 (u.drop i) < Y * 2 ^ k ∧
      σ = ⟨(putE (putE (putE (putE (putE (putE (putE un0 (some 4) (.ptr 2 0 0)) (some 5) (.ptr 3 0 0)) (some 11) (.int .i64 k)) (some 12) (.own 4 0 0 (x.length + 1))) (some 13) (.own 5 0 0 y.length)) (some 14) (.own 6 0 0 (mm + 1))) (some 15) (.int .i64 ((i : Int) - 1))),
       [none, none, some (0, 37, 1, [.nils]), some (0, 37, 1, [.nils]), some (0, 104, 1, W u), some (0, 104, 1, W v0), some (0, 104, 1, W out)]⟩) (mm + 1)
     (Ent.st (less_put (less_put (less_put (less_put (less_put (less_put (less_put (less_un0 _) ?_) ?_) ?_) ?_) ?_) ?_) ?_) (by exact ⟨.inl rfl, .inl rfl, .inr rfl, .inr rfl, .inr rfl, .inr rfl, .inr rfl, trivial⟩)) ⟨u0, List.replicate (mm + 1) 0, by omega, hul0, huo0, by simp, ok_replicate (by omega) _, ?_, hu0, rfl⟩ ?_
    iterate 6 (· exact xlq)
    iterate 1 (· exact xlq)
    ·rw [huv0, List.drop_of_length_le (by simp), vl_nil, Nat.mul_zero, Nat.mul_zero, Nat.add_zero]
    rintro i σ1 ⟨u, out, hi, hul, huo, hol, hoo, heq, hlt, rfl⟩
    refine xctl ?_
    refine xrg ?_
    refine xctl ?_
    refine xcs (fun hb => ?_) (fun hb => ?_)
    ·have hb' := of_decide_eq_true hb
     obtain ⟨j, rfl⟩ : ∃ j, i = j + 1 := ⟨i - 1, by omega⟩
     have hdj := vl_drop_all 4294967296 u j
     have guj := ok_get huo (by omega) j
     have hUj : vl 4294967296 (u.drop j) < Y * 2 ^ k * 4294967296 := by
      have : (vl 4294967296 (u.drop (j + 1)) + 1) * 4294967296 ≤ Y * 2 ^ k * 4294967296 := Nat.mul_le_mul_right _ hlt
      rw [Nat.add_mul] at this
      omega
     have hwl : (u.drop j).length = x.length + 1 - j := by rw [List.length_drop, hul]
     obtain ⟨hw1, hw2⟩ := vl_take_small (B := 4294967296) (l := u.drop j) (n := y.length + 1) (by
      have : Y * 2 ^ k * 4294967296 < 4294967296 ^ y.length * 4294967296 := Nat.mul_lt_mul_of_pos_right hV (by omega)
      omega) (by omega)
     have hwe : vl 4294967296 (win u j (y.length + 1)) = vl 4294967296 (u.drop j) := hw1
     rw [List.drop_drop] at hw2
     have hstep := pcr_step (G := G) u v0 j y.length hly2 (by omega) (by omega) huo hvo0 (by omega) (by omega) hvtop (by rw [hwe, hvt]; exact hUj)
     rw [hwe, hvt] at hstep
     have hVp : 0 < Y * 2 ^ k := Nat.mul_pos (by omega) hp1
     have hmod := Nat.mod_lt (vl 4294967296 (u.drop j)) hVp
     have hpl : (pd 4294967296 (vl 4294967296 (u.drop j) % (Y * 2 ^ k)) (y.length + 1)).length = y.length + 1 := pd_length _ _ _
     have hpv := pd_vl (B := 4294967296) (by omega) (y.length + 1) (vl 4294967296 (u.drop j) % (Y * 2 ^ k)) (by omega)
     obtain ⟨hq1, hq2⟩ := vl_putW (B := 4294967296) (u := u) (j := j) (ws := pd 4294967296 (vl 4294967296 (u.drop j) % (Y * 2 ^ k)) (y.length + 1)) (by rw [hpl]; omega) (by rw [hpl]; exact hw2)
     rw [hpv] at hq1 hq2
     have hqB : vl 4294967296 (u.drop j) / (Y * 2 ^ k) < 4294967296 := (Nat.div_lt_iff_lt_mul hVp).2 (by rw [Nat.mul_comm]; exact hUj)
     have hut : vl 4294967296 u = vl 4294967296 (u.take j) + 4294967296 ^ j * vl 4294967296 (u.drop j) := by
      have := vl_take_drop 4294967296 u j
      rwa [Nat.min_eq_left (by omega)] at this
     have hds := div_step (B := 4294967296) (j := j) (U := vl 4294967296 (u.drop j)) (V := Y * 2 ^ k) (O := vl 4294967296 (out.drop (j + 1))) (T := vl 4294967296 (u.take j)) (R := X * 2 ^ k) (by rw [← hut]; exact heq)
     have hpul : (putW u j (pd 4294967296 (vl 4294967296 (u.drop j) % (Y * 2 ^ k)) (y.length + 1))).length = x.length + 1 := by rw [putW_len (by rw [hpl]; omega), hul]
     have hpuo : ok 4294967296 (putW u j (pd 4294967296 (vl 4294967296 (u.drop j) % (Y * 2 ^ k)) (y.length + 1))) := putW_ok huo (pd_ok (by omega) _ _)
     generalize putW u j (pd 4294967296 (vl 4294967296 (u.drop j) % (Y * 2 ^ k)) (y.length + 1)) = u' at *
     generalize vl 4294967296 (u.drop j) / (Y * 2 ^ k) = Q at *
     rw [show (((j + 1 : Nat) : Int) - 1) = (j : Int) by omega]
     refine xctl ?_
     refine xrg ?_
     rw [show ((j : Int) + y.length + 1 - (j : Int)).toNat = y.length + 1 by omega]
     refine ops_callw [4, 5] hstep (by simp (disch := omega) only [go_sem, Nat.reduceEqDiff, Nat.reduceAdd, Nat.reduceLT, Nat.reduceMul, Nat.reduceLeDiff, reduceCtorEq, Int.reduceNeg, Int.reduceToNat]; rfl) (by simp [kb]) (by decide) rfl (by simp) rfl (by simp) (by simp [immH, W_imm, SS_imm]) (by simp [immH, W_imm, SS_imm]) (by simp only [D.ren, List.getD_cons_zero, List.getD_cons_succ]; rfl) (by simp only [List.zip_cons_cons, List.zip_nil_left, List.zip_nil_right]; rfl) ?_
     refine xrg ?_
     refine xctl ?_
     refine xrg ?_
     refine xctl ?_
     refine ⟨j, _, by omega, Ent.env (less_put (less_put (less_put (less_put (less_put (less_put (less_put (less_un0 _) ?_) ?_) ?_) ?_) ?_) ?_) ?_), u', out.set j Q, by omega, hpul, hpuo, by simp [hol], ok_set hoo _ (by omega), ?_, by rw [hq2]; exact hmod, rfl⟩
     iterate 7 (· exact xlq)
     rw [drop_set (by omega), vl_cons, hq1]
     exact hds
    ·have hb' := of_decide_eq_false hb
     have hi0 : i = 0 := by omega
     subst hi0
     rw [List.drop_zero, Nat.pow_zero, Nat.one_mul] at heq
     rw [List.drop_zero] at hlt
     obtain ⟨e1, e2⟩ := div_end (by omega) hp1 heq hlt
     have hul' : vl 4294967296 u / 2 ^ k < 4294967296 ^ (x.length + 1) := Nat.lt_of_le_of_lt (Nat.div_le_self _ _) (by rw [← hul]; exact vl_lt huo)
     refine xctl ?_
     refine xrg ?_
     refine xca1 ?_; refine xca (pcr_trim hG out (mm + 1) hol.symm hoo (by omega)) ?_
     refine xrg ?_
     refine xca1 ?_; refine xca (pcr_back hG u (x.length + 1) k hul.symm huo (by omega) hk31) ?_
     refine xrg ?_
     refine xca1 ?_; refine xca (pcr_trim hG (pd 4294967296 (vl 4294967296 u / 2 ^ k) (x.length + 1)) (x.length + 1) (pd_length _ _ _).symm (pd_ok (by omega) _ _) (by rw [pd_length]; omega)) ?_
     refine xrg ?_
     refine xctl ?_
     refine xrt ?_
     rw [hr, pd_vl (by omega) _ _ hul', e1, e2]; rfl
end Go.Proofs.YtoiepmpggabglaaGreatDoorK.NatT
/-
 nat.Gcd, Pow, Low: what they compute.
-/
namespace Go.Proofs.YtoiepmpggabglaaGreatDoorK.NatT
open AI NatIr Dig LibT
attribute [local irreducible] awp awpOps
variable {G : World → Prop}
theorem wd_len_mono {B a b : Nat} (hB : 2 ≤ B) (h : a ≤ b) : (wd B a).length ≤ (wd B b).length := by
 have h1 := vl_lt (ok_wd hB b)
 rw [vl_wd hB] at h1
 exact wd_length_le hB (Nat.lt_of_le_of_lt h h1)
theorem pcr_gcd (hG : Stable G) (a b : List Int) (n m : Nat) (hn : n = a.length) (hm : m = b.length) (ha : ok 4294967296 a) (hb : ok 4294967296 b) (hla : a.length < 400000) (hlb : b.length < 400000) :
  PCr Tryz.prog G 79 [.agg [.sl n (W a)], .agg [.sl m (W b)]] (N (Nat.gcd (vl 4294967296 a) (vl 4294967296 b))) := by
 refine pcr_byq ok79 hG (n := 31) (rv := [.cell 4 true 1]) fun r hr => ?_; unfold c79 st0
 refine xctl ?_
 refine xrg ?_
 refine xctl ?_
 refine xrg ?_
 refine xca1 ?_; refine xca (pcr_trim hG a n hn ha (by omega)) ?_
 refine xrg ?_
 refine xca1 ?_; refine xca (pcr_trim hG b m hm hb (by omega)) ?_
 refine xrg ?_
 refine xctl ?_
 refine xdr ?_
 refine xctl ?_
 refine awp_loop (fun k σ => ∃ A B : Nat, k = B ∧ (wd 4294967296 A).length < 400000 ∧ (wd 4294967296 B).length < 400000 ∧ Nat.gcd A B = Nat.gcd (vl 4294967296 a) (vl 4294967296 b) ∧
   σ = ⟨(putE (putE (putE un0 (some 2) (.ptr 0 0 0)) (some 3) (.ptr 1 0 0)) (some 4) (.ptr 2 0 0)), [some (0, 37, 1, [.sl (wd 4294967296 A).length (W (wd 4294967296 A))]), some (0, 37, 1, [.sl (wd 4294967296 B).length (W (wd 4294967296 B))]), some (0, 37, 1, [.nils])]⟩) (vl 4294967296 b)
  (Ent.env (less_put (less_put (less_put (less_un0 _) ?_) ?_) ?_)) ⟨vl 4294967296 a, vl 4294967296 b, rfl, Nat.lt_of_le_of_lt (wd_len_small ha) hla, Nat.lt_of_le_of_lt (wd_len_small hb) hlb, rfl, rfl⟩ ?_
 iterate 3 (· exact xlq)
 rintro B σ1 ⟨A, _, rfl, hlA, hlB, hg, rfl⟩
 have hoA := ok_wd (B := 4294967296) (by omega) A
 have hoB := ok_wd (B := 4294967296) (by omega) B
 refine xctl ?_
 refine xrg ?_
 refine xctl ?_
 refine xcs (fun hb => ?_) (fun hb => ?_)
 ·have hb' := of_decide_eq_true hb
  have hB0 : B ≠ 0 := fun h => by subst h; rw [wd_zero] at hb'; simp at hb'
  have hdiv := pcr_div hG (wd 4294967296 A) (wd 4294967296 B) _ _ rfl rfl hoA hoB hlA hlB
  rw [vl_wd (by omega), vl_wd (by omega), if_neg hB0, if_neg hB0, decide_eq_true hB0] at hdiv
  have hlt := Nat.mod_lt A (Nat.pos_of_ne_zero hB0)
  have hlm := wd_len_mono (B := 4294967296) (by omega) (Nat.le_of_lt hlt)
  refine xctl ?_
  refine xrg ?_
  refine xca1 ?_; refine xca hdiv ?_
  refine xrg ?_
  refine xctl ?_
  refine xrg ?_
  refine xctl ?_
  refine xdr ?_
  refine xctl ?_
  refine ⟨A % B, _, hlt, (Ent.cutk 3 (less_put (less_put (less_put (less_un0 _) ?_) ?_) ?_) (by exact ⟨.inr rfl, .inr rfl, .inr rfl, trivial⟩) (kb_put (kb_put (kb_put (kb_un0 _) (by simp [kb])) (by simp [kb])) (by simp [kb])) (by simp [kbH, kb.kbs, kb, kbs_W, kbs_SS])), B, A % B, rfl, hlB, by omega, ?_, rfl⟩
  iterate 3 (· exact xlq)
  rw [← hg, Nat.gcd_comm A B, Nat.gcd_rec B A, Nat.gcd_comm]
 ·have hb' := of_decide_eq_false hb
  have hB0 : B = 0 := by
   rw [← vl_wd (B := 4294967296) (by omega) B, List.eq_nil_of_length_eq_zero (by omega : (wd 4294967296 B).length = 0)]; rfl
  subst hB0
  rw [Nat.gcd_zero_right] at hg
  refine xctl ?_
  refine xrg ?_
  refine xca1 ?_; refine xca (pcr_clone _ _ rfl (by omega)) ?_
  refine xrg ?_
  refine xctl ?_
  refine xrt ?_
  rw [hr, ← hg]; rfl
theorem pow_len {B v n e : Nat} (hB : 2 ≤ B) (h : v < B ^ n) (he : 0 < e ∨ 0 < n) : (wd B (v ^ e)).length ≤ n * e + 1 := by
 refine wd_length_le hB ?_
 have h1 : v ^ e ≤ (B ^ n) ^ e := Nat.pow_le_pow_left (Nat.le_of_lt h) e
 rw [← Nat.pow_mul] at h1
 have h2 : B ^ (n * e) < B ^ (n * e + 1) := Nat.pow_lt_pow_right (by omega) (by omega)
 omega
theorem pcr_pow (hG : Stable G) (a : List Int) (n : Nat) (k : Int) (hn : n = a.length) (ha : ok 4294967296 a) (hk : k < 1000) (hlen : a.length < 200) :
  PCr Tryz.prog G 96 [.agg [.sl n (W a)], .int .i64 k] (N (vl 4294967296 a ^ k.toNat)) := by
 refine pcr_byq ok96 hG (n := 23) (rv := [.cell 4 true 1]) fun r hr => ?_; unfold c96 st0
 refine xctl ?_
 refine xrg ?_
 refine xctl ?_
 refine xrg ?_
 refine xca1 ?_; refine xca (pcr_of hG 1 (by omega)) ?_
 refine xrg ?_
 refine xctl ?_
 have hva := vl_lt ha
 generalize hv : vl 4294967296 a = v at *
 have hplen : ∀ e, e ≤ 1000 → (wd 4294967296 (v ^ e)).length ≤ 200001 := fun e he => by
  have := pow_len (B := 4294967296) (n := 200) (e := e) (by omega) (Nat.lt_of_lt_of_le hva (Nat.pow_le_pow_right (by omega) (by omega))) (.inr (by omega))
  omega
 refine awp_loop (fun μ σ => ∃ (kk : Int) (e f : Nat) (A : List Int) (nA : Nat), nA = A.length ∧ μ = kk.toNat ∧ kk < 1000 ∧ f + e * kk.toNat = k.toNat ∧ ok 4294967296 A ∧ vl 4294967296 A = v ^ e ∧ A.length ≤ 200001 ∧
   σ = ⟨(putE (putE (putE (putE un0 (some 1) (.int .i64 kk)) (some 2) (.ptr 0 0 0)) (some 4) (.ptr 1 0 0)) (some 5) (.ptr 2 0 0)), [some (0, 37, 1, [.sl nA (W A)]), some (0, 37, 1, [.nils]), some (0, 37, 1, [.sl (wd 4294967296 (v ^ f)).length (W (wd 4294967296 (v ^ f)))])]⟩) k.toNat
  (Ent.env (less_put (less_put (less_put (less_put (less_un0 _) ?_) ?_) ?_) ?_)) ⟨k, 1, 0, a, n, hn, rfl, hk, by omega, ha, by rw [hv, Nat.pow_one], by omega, rfl⟩ ?_
 iterate 4 (· exact xlq)
 rintro μ σ1 ⟨kk, e, f, A, nA, rfl, rfl, hkk, hef, hoA, hvA, hlA, rfl⟩
 refine xctl ?_
 refine xrg ?_
 refine xctl ?_
 refine xcs (fun hb => ?_) (fun hb => ?_)
 ·have hb' := of_decide_eq_true hb
  obtain ⟨j, rfl⟩ : ∃ j : Nat, kk = j := ⟨kk.toNat, by omega⟩
  rw [Int.toNat_natCast] at hef
  have hef2 : f + e ≤ k.toNat := by
   have : e * 1 ≤ e * j := Nat.mul_le_mul_left _ (by omega)
   omega
  refine xctl1 ?_
  refine awp_seq_i ?_
  refine xctl1 ?_
  refine awp_seq_mid (fun σ => ∃ f', f' + e * (2 * (j / 2)) = k.toNat ∧
   σ = ⟨(putE (putE (putE (putE un0 (some 1) (.int .i64 j)) (some 2) (.ptr 0 0 0)) (some 4) (.ptr 1 0 0)) (some 5) (.ptr 2 0 0)), [some (0, 37, 1, [.sl A.length (W A)]), some (0, 37, 1, [.nils]), some (0, 37, 1, [.sl (wd 4294967296 (v ^ f')).length (W (wd 4294967296 (v ^ f')))])]⟩) ?_ ?_
  ·rintro σ ⟨f', hf', rfl⟩
   refine xctl ?_
   refine xrg ?_
   refine xctl ?_
   refine xcs (fun hb => ?_) (fun hb => ?_)
   ·have hb2 := of_decide_eq_true hb
    have he2 : e + e ≤ k.toNat := by
     have : e * 2 ≤ e * (2 * (j / 2)) := Nat.mul_le_mul_left _ (by omega)
     omega
    have hmul := pcr_mul hG A A _ _ rfl rfl hoA hoA (by omega) (by omega)
    rw [hvA, ← Nat.pow_add] at hmul
    refine xctl ?_
    refine xrg ?_
    refine xca1 ?_; refine xca hmul ?_
    refine xrg ?_
    refine xctl ?_
    refine xrg ?_
    refine xctl ?_
    refine ⟨j / 2, _, by omega, Ent.env (less_put (less_put (less_put (less_put (less_un0 _) ?_) ?_) ?_) ?_), (j : Int) / 2, e + e, f', wd 4294967296 (v ^ (e + e)), _, rfl, by omega, by omega, ?_, ok_wd (by omega) _, vl_wd (by omega) _, hplen _ (by omega), rfl⟩
    iterate 4 (· exact xlq)
    rw [← hf', show ((j : Int) / 2).toNat = j / 2 by omega, ← Nat.mul_assoc, Nat.mul_two]
   ·have hb2 := of_decide_eq_false hb
    have hj1 : j = 1 := by omega
    subst hj1
    refine xctl ?_
    refine xrg ?_
    refine xctl ?_
    refine ⟨0, _, by omega, Ent.env (less_put (less_put (less_put (less_put (less_un0 _) ?_) ?_) ?_) ?_), 0, e, f', A, _, rfl, by omega, by omega, by simpa using hf', hoA, hvA, hlA, rfl⟩
    ·simp only [go_sem, Nat.reduceEqDiff, Nat.reduceAdd, Nat.reduceLT, Nat.reduceMul, Nat.reduceLeDiff, reduceCtorEq, Int.reduceNeg, Int.reduceToNat]
     rfl
    iterate 3 (· exact xlq)
  ·refine xctl ?_
   refine xrg ?_
   refine xctl ?_
   refine xcs (fun hb => ?_) (fun hb => ?_)
   ·have hb2 := of_decide_eq_true hb
    have hmul := pcr_mul hG (wd 4294967296 (v ^ f)) A _ _ rfl rfl (ok_wd (by omega) _) hoA (by have := hplen f (by omega); omega) (by omega)
    rw [hvA, vl_wd (by omega), ← Nat.pow_add] at hmul
    refine xctl ?_
    refine xrg ?_
    refine xca1 ?_; refine xca hmul ?_
    refine xrg ?_
    refine xctl ?_
    refine ⟨_, Nat.zero_le _, Ent.env (less_put (less_put (less_put (less_put (less_un0 _) ?_) ?_) ?_) ?_), f + e, ?_, rfl⟩
    iterate 4 (· exact xlq)
    rw [← hef, show j = 2 * (j / 2) + 1 by omega, Nat.mul_add, show (2 * (j / 2) + 1) / 2 = j / 2 by omega]
    omega
   ·have hb2 := of_decide_eq_false hb
    refine xctl ?_
    refine ⟨_, Nat.zero_le _, Ent.env (less_put (less_put (less_put (less_put (less_un0 _) ?_) ?_) ?_) ?_), f, ?_, rfl⟩
    iterate 4 (· exact xlq)
    rw [← hef, show 2 * (j / 2) = j by omega]
 ·have hb' := of_decide_eq_false hb
  have hf : f = k.toNat := by
   rw [show kk.toNat = 0 by omega] at hef
   omega
  subst hf
  refine xctl ?_
  refine xrg ?_
  refine xctl ?_
  refine xrt ?_
  rw [hr]; rfl
end Go.Proofs.YtoiepmpggabglaaGreatDoorK.NatT
/-
 slices.Reverse of strings; nat.Text: what they compute.
-/
namespace Go.Proofs.YtoiepmpggabglaaGreatDoorK.NatT
open AI NatIr Dig LibT
attribute [local irreducible] awp awpOps
variable {G : World → Prop}
theorem pcg_reverse (ss : List ByteArray) (n ver t : Nat) (hn : n = ss.length) (hl : ss.length < 1000000) :
  PCg Tryz.prog G 48 [.own 0 ver 0 n] [some (ver, t, 1, SS ss)] (.tup []) [some (ver, t, 1, SS ss.reverse)] := by
 refine pcg_by (fn := Tryz.f48) (n := 28) (rv := []) (by kernel_rfl) ok48 (by kernel_rfl) (by decide) (by kernel_rfl) (by simp) (by kernel_rfl) (by simp) (fun r hh hr hhe => ?_); unfold c48
 subst hhe hn
 refine xctl ?_
 refine xrg ?_
 refine xctl ?_
 refine awp_loopm (fun k σ => ∃ (i : Nat) (cur : List ByteArray), k = ss.length - i ∧ 2 * i ≤ ss.length ∧ cur.length = ss.length ∧ (∀ j, j < ss.length → cur.getD j ByteArray.empty = if j < i ∨ ss.length - i ≤ j then ss.getD (ss.length - 1 - j) ByteArray.empty else ss.getD j ByteArray.empty) ∧
   σ = ⟨(putE (putE (putE un0 (some 0) (.own 0 ver 0 ss.length)) (some 2) (.int .i64 i)) (some 3) (.int .i64 ((ss.length : Int) - 1 - i))), [some (ver, t, 1, SS cur)]⟩) ss.length
  (Ent.env (less_put (less_put (less_put (less_un0 _) ?_) ?_) ?_)) ⟨0, ss, rfl, by omega, rfl, fun j hj => by rw [if_neg (by omega)], rfl⟩ (by rintro k σ ⟨_, _, _, _, _, _, rfl⟩; exact Nat.le_refl _) ?_
 iterate 2 (· exact xlq)
 ·exact xlq
 rintro k σ1 ⟨i, cur, rfl, hi2, hlc, hcur, rfl⟩
 refine xctl ?_
 refine xrg ?_
 refine xctl ?_
 refine xcs (fun hb => ?_) (fun hb => ?_)
 ·have hb' := of_decide_eq_true hb
  obtain ⟨j, hj⟩ : ∃ j : Nat, (ss.length : Int) - 1 - i = j := ⟨ss.length - 1 - i, by omega⟩
  rw [hj]
  refine xctl ?_
  refine xrg ?_
  refine xctl ?_
  refine xdr ?_
  refine xctl ?_
  refine xrg ?_
  refine xctl ?_
  refine ⟨ss.length - (i + 1), _, by omega, Ent.env (less_put (less_put (less_put (less_un0 _) ?_) ?_) ?_), i + 1, (cur.set i (cur.getD j ByteArray.empty)).set j (cur.getD i ByteArray.empty), rfl, by omega, by simp [hlc], fun j' hj' => ?_, rfl⟩
  iterate 2 (· exact xlq)
  ·simp only [go_sem, Nat.reduceEqDiff, Nat.reduceAdd, Nat.reduceLT, Nat.reduceMul, Nat.reduceLeDiff, reduceCtorEq, Int.reduceNeg, Int.reduceToNat]
   congr 1
   omega
  have h1 := hcur i (by omega)
  have h2 := hcur j (by omega)
  rw [if_neg (by omega)] at h1 h2
  by_cases e1 : j' = j
  ·subst e1
   rw [List.getD_eq_getElem?_getD, List.getElem?_set_self (by simp; omega), Option.getD_some, h1, if_pos (by omega)]
   congr 1
   omega
  ·rw [List.getD_eq_getElem?_getD, List.getElem?_set_ne (by omega)]
   by_cases e2 : j' = i
   ·subst e2
    rw [List.getElem?_set_self (by omega), Option.getD_some, h2, if_pos (by omega)]
    congr 1
    omega
   ·rw [List.getElem?_set_ne (by omega), ← List.getD_eq_getElem?_getD, hcur j' hj']
    by_cases e3 : j' < i ∨ ss.length - i ≤ j'
    ·rw [if_pos e3, if_pos (by omega)]
    ·rw [if_neg e3, if_neg (by omega)]
 ·have hb' := of_decide_eq_false hb
  have hfin : cur = ss.reverse := by
   refine List.ext_getElem (by simp [hlc]) fun j h1 h2 => ?_
   have h3 := hcur j (by omega)
   have e1 : cur.getD j ByteArray.empty = cur[j] := by rw [List.getD_eq_getElem?_getD, List.getElem?_eq_getElem h1]; rfl
   have e2 : ss.getD (ss.length - 1 - j) ByteArray.empty = ss.reverse[j] := by
    rw [List.getElem_reverse, List.getD_eq_getElem?_getD, List.getElem?_eq_getElem (by omega)]; rfl
   rw [← e1, h3, ← e2]
   split
   ·rfl
   ·congr 1
    omega
  subst hfin
  refine xctl ?_
  refine resg_end (ds := []) rfl ?_ ?_ ?_
  ·rw [hr]; rfl
  ·rw [hr]; simp [kb, kb.kbs]
  ·exact kbH_imm (by simp [immH, SS_imm])
end Go.Proofs.YtoiepmpggabglaaGreatDoorK.NatT
/-
 nat.Text: what it computes.
-/
namespace Go.Proofs.YtoiepmpggabglaaGreatDoorK.NatT
open AI NatIr Dig LibT
attribute [local irreducible] awp awpOps
variable {G : World → Prop}
def flat (ss : List ByteArray) : List UInt8 := (ss.reverse.map (·.data.toList)).flatten
theorem flat_snoc (ss : List ByteArray) (s : ByteArray) : flat (ss ++ [s]) = s.data.toList ++ flat ss := by simp [flat]
theorem join_nosep : ∀ xs : List (List UInt8), Lib.join xs [] = xs.flatten
 | [] => rfl
 | x :: r => by
  rw [Lib.join_cons]
  simp [Lib.joinTail]
theorem ba_size (l : List UInt8) : (⟨l.toArray⟩ : ByteArray).size = l.length := by simp [ByteArray.size]
theorem flat_len {ss : List ByteArray} (h : ∀ s ∈ ss, s.size ≤ 9) : (flat ss).length ≤ 9 * ss.length := by
 induction ss with
 | nil => simp [flat]
 | cons x l ih =>
  have h1 := ih (fun s hs => h s (List.mem_cons_of_mem _ hs))
  have h2 := h x List.mem_cons_self
  have e : flat (x :: l) = flat l ++ x.data.toList := by simp [flat]
  rw [e, List.length_append, List.length_cons]
  have : x.data.toList.length = x.size := rfl
  omega
theorem pieces {k m V : Nat} (h : 1000000000 ^ k ≤ V) (hV : V < 4294967296 ^ m) : 29 * k < 32 * m := by
 have h1 : (2 ^ 29) ^ k ≤ 1000000000 ^ k := Nat.pow_le_pow_left (by omega) k
 have h2 : (4294967296 : Nat) ^ m = 2 ^ (32 * m) := by rw [Nat.pow_mul]
 rw [← Nat.pow_mul] at h1
 exact (Nat.pow_lt_pow_iff_right (a := 2) (by omega)).1 (by omega)
theorem pcr_text (hG : Stable G) (hT : ∀ w, G w → Lib.TabIs Tryz.prog w "internal/strconv.uint64pow10" .u64 Lib.pow10Tab) (a : List Int) (n : Nat) (hn : n = a.length) (ha : ok 4294967296 a) (hla : a.length < 100000) :
  PCr Tryz.prog G 21 [.agg [.sl n (W a)]] (.str ⟨(Lib.decDigits (vl 4294967296 a)).toArray⟩) := by
 refine pcr_byq ok21 hG (n := 46) (rv := [.tmp 2]) fun r hr => ?_; unfold c21 st0
 refine xctl ?_
 refine xrg ?_
 refine xctl ?_
 refine xrg ?_
 refine xca1 ?_; refine xca (pcr_trim hG a n hn ha (by omega)) ?_
 have hlw := wd_len_small ha
 generalize hV0 : vl 4294967296 a = V0 at *
 refine xrg ?_
 refine xctl ?_
 refine xrg ?_
 refine xctl ?_
 by_cases h0 : V0 = 0
 ·subst h0
  have hl0 : (wd 4294967296 0).length = 0 := by rw [wd_zero]; rfl
  refine awp_cond_t (by simp only [go_sem, Nat.reduceEqDiff, Nat.reduceAdd, Nat.reduceLT, Nat.reduceMul, Nat.reduceLeDiff, reduceCtorEq, Int.reduceNeg, Int.reduceToNat]; exact congrArg D.bool (decide_eq_true (by omega))) ?_
  refine xctl ?_
  refine xrg ?_
  refine xctl ?_
  refine xrt ?_
  rw [hr, dec_small (by omega)]; rfl
 ·have hlp : 0 < (wd 4294967296 V0).length := by
   rcases Nat.eq_zero_or_pos (wd 4294967296 V0).length with h | h
   ·exact absurd ((wd_eq_nil (by omega)).1 (List.eq_nil_of_length_eq_zero h)) h0
   ·exact h
  refine awp_cond_f (by simp only [go_sem, Nat.reduceEqDiff, Nat.reduceAdd, Nat.reduceLT, Nat.reduceMul, Nat.reduceLeDiff, reduceCtorEq, Int.reduceNeg, Int.reduceToNat]; exact congrArg D.bool (decide_eq_false (by omega))) ?_
  refine xctl ?_
  refine xrg ?_
  refine xctl ?_
  refine awp_loop (fun k σ => ∃ (V ver : Nat) (ss : List ByteArray), k = V ∧ (wd 4294967296 V).length < 100000 ∧ V * 1000000000 ^ ss.length ≤ V0 ∧ 1000000000 ^ (ss.length - 1) ≤ V0 ∧ (∀ s ∈ ss, s.size ≤ 9) ∧ Lib.decDigits V0 = (if V = 0 then [] else Lib.decDigits V) ++ flat ss ∧
    σ = ⟨(putE (putE (putE un0 (some 2) (.str ⟨#[]⟩)) (some 3) (.sl (wd 4294967296 V).length (W (wd 4294967296 V)))) (some 4) (.own 1 ver 0 ss.length)),
     [none, some (ver, 9, 1, SS ss)]⟩) V0
   ((Ent.nils (s := 4) 9 1 (by simp only [go_sem, Nat.reduceEqDiff, Nat.reduceAdd, Nat.reduceLT, Nat.reduceMul, Nat.reduceLeDiff, reduceCtorEq, Int.reduceNeg, Int.reduceToNat])).trans (by simp) (Ent.st (less_put (less_put (less_put (less_un0 _) ?_) ?_) ?_) (by exact ⟨.inl rfl, .inr rfl, trivial⟩))) ⟨V0, 0, [], rfl, by omega, by simp, by simp; omega, by simp, by rw [if_neg h0]; simp [flat], rfl⟩ ?_
  iterate 3 (· exact xlq)
  have hV0l : V0 < 4294967296 ^ a.length := by rw [← hV0]; exact vl_lt ha
  rintro V σ1 ⟨_, ver, ss, rfl, hlV, hVs, hVs1, hs9, hdec, rfl⟩
  have hpc := pieces hVs1 hV0l
  refine xctl ?_
  refine xrg ?_
  refine xctl ?_
  refine xcs (fun hb => ?_) (fun hb => ?_)
  ·have hb' := of_decide_eq_true hb
   have hVn : V ≠ 0 := fun h => by subst h; rw [wd_zero] at hb'; simp at hb'
   have hsm := pcr_small hG (wd 4294967296 V) 1000000000 _ rfl (by omega) (by omega) (ok_wd (by omega) V) (by omega)
   rw [show (((1000000000 : Nat)) : Int) = 1000000000 from rfl] at hsm
   have hsl := sdiv_len 4294967296 1000000000 (wd 4294967296 V)
   have hso := sdiv_ok (B := 4294967296) (d := 1000000000) (by omega) (by omega) _ (ok_wd (by omega) V)
   have hsq := sdiv_q (B := 4294967296) (d := 1000000000) (by omega) (wd 4294967296 V)
   have hsr := sdiv_r (B := 4294967296) (d := 1000000000) (by omega) (wd 4294967296 V)
   rw [vl_wd (by omega)] at hsq hsr
   generalize sdiv 4294967296 1000000000 (wd 4294967296 V) = sd at *
   obtain ⟨sl, sr⟩ := sd
   simp only at hsl hso hsq hsr hsm
   have htr := pcr_trim hG sl (wd 4294967296 V).length hsl.symm hso (by omega)
   rw [hsq] at htr
   have hr9 : sr < 1000000000 := by rw [hsr]; exact Nat.mod_lt _ (by omega)
   have hdv := Nat.div_add_mod V 1000000000
   rw [← hsr] at hdv
   have hqm := wd_len_mono (B := 4294967296) (by omega) (Nat.div_le_self V 1000000000)
   have hql : V / 1000000000 < V := Nat.div_lt_self (by omega) (by omega)
   have hqV : V / 1000000000 * 1000000000 ^ (ss.length + 1) ≤ V0 ∧ 1000000000 ^ ss.length ≤ V0 := by
    rw [Nat.pow_succ, Nat.mul_comm (1000000000 ^ ss.length), ← Nat.mul_assoc]
    have h1 : V / 1000000000 * 1000000000 * 1000000000 ^ ss.length ≤ V * 1000000000 ^ ss.length := Nat.mul_le_mul_right _ (by omega)
    have h2 : 1 * 1000000000 ^ ss.length ≤ V * 1000000000 ^ ss.length := Nat.mul_le_mul_right _ (by omega)
    omega
   generalize V / 1000000000 = q at *
   obtain ⟨hd9, hdg⟩ := dg_dec 9 sr (by omega) (by omega)
   have hit : Lib.itoa (sr : Int) = Lib.decDigits sr := by rw [Lib.itoa, if_neg (by omega), Int.toNat_natCast]
   have hita := lib_itoa hT (sr : Int) (by omega) (by omega)
   rw [hit] at hita
   refine xctl ?_
   refine xrg ?_
   refine xca1 ?_; refine xca hsm ?_
   refine xrg ?_
   refine xctl ?_
   refine xrg ?_
   refine xca1 ?_; refine xca htr ?_
   refine xrg ?_
   refine xctl ?_
   refine xrg ?_
   refine xcf1 ?_; refine xcf hita rfl ?_
   refine xrg ?_
   refine xctl1 ?_
   refine awp_seq_mid (fun σ => ∃ s : ByteArray, s.size ≤ 9 ∧ Lib.decDigits V = (if q = 0 then [] else Lib.decDigits q) ++ s.data.toList ∧
    σ = ⟨(putE (putE (putE (putE un0 (some 2) (.str ⟨#[]⟩)) (some 3) (.sl (wd 4294967296 q).length (W (wd 4294967296 q)))) (some 4) (.own 1 ver 0 ss.length)) (some 7) (.str s)), [none, some (ver, 9, 1, SS ss)]⟩) ?_ ?_
   ·rintro σ ⟨s, hs, hsd, rfl⟩
    refine xctl ?_
    refine xrg ?_
    refine xctl ?_
    refine ⟨q, _, hql, (Ent.cutk 2 (less_put (less_put (less_put (less_un0 _) ?_) ?_) ?_) (by exact ⟨.inr rfl, .inr rfl, trivial⟩) (kb_put (kb_put (kb_put (kb_un0 _) (by simp [kb])) (by simp [kb])) (by simp [kb])) (by simp [kbH, kb.kbs, kb, kbs_W, kbs_SS])), q, ver + 1, ss ++ [s], rfl, by omega, by simpa using hqV.1, by simpa using hqV.2, ?_, ?_, rfl⟩
    iterate 2 (· exact xlq)
    ·simp only [go_sem, Nat.reduceEqDiff, Nat.reduceAdd, Nat.reduceLT, Nat.reduceMul, Nat.reduceLeDiff, reduceCtorEq, Int.reduceNeg, Int.reduceToNat]
     simp
    ·intro x hx
     rcases List.mem_append.1 hx with hx | hx
     ·exact hs9 x hx
     ·rw [List.mem_singleton] at hx; rw [hx]; exact hs
    ·rw [hdec, if_neg hVn, hsd, flat_snoc, List.append_assoc]
   ·refine xctl ?_
    refine xrg ?_
    refine xctl ?_
    refine xcs (fun hb => ?_) (fun hb => ?_)
    ·have hb2 := of_decide_eq_true hb
     have hq0 : q ≠ 0 := fun h => by subst h; rw [wd_zero] at hb2; simp at hb2
     have hsz := ba_size (Lib.decDigits sr)
     generalize hsx : (⟨(Lib.decDigits sr).toArray⟩ : ByteArray) = x at *
     have hxl : x.data.toList = Lib.decDigits sr := by rw [← hsx]
     obtain ⟨mz, hmz⟩ : ∃ mz, x.size + mz = 9 := ⟨9 - x.size, by omega⟩
     have hrp := lib_repeat (G := G) ⟨#[48]⟩ mz (by omega) (by show 1 * mz ≤ _; omega)
     rw [repeat1] at hrp
     have hzs := ba_size (List.replicate mz 48)
     rw [List.length_replicate] at hzs
     generalize hzx : (⟨(List.replicate mz 48).toArray⟩ : ByteArray) = z at *
     have hzl : z.data.toList = List.replicate mz 48 := by rw [← hzx]
     have happ : (z ++ x).size = 9 := by rw [ByteArray.size_append]; omega
     refine xctl ?_
     refine xrg ?_
     rw [show (9 : Int) - x.size = mz by omega]
     refine xcf1 ?_; refine xcf hrp rfl ?_
     refine xrg ?_
     refine xctl ?_
     refine ⟨_, Nat.zero_le _, Ent.env (less_put (less_put (less_put (less_put (less_un0 _) ?_) ?_) ?_) ?_), z ++ x, by omega, ?_, rfl⟩
     iterate 4 (· exact xlq)
     rw [if_neg hq0, ← hdv, Nat.mul_comm, show (1000000000 : Nat) = 10 ^ 9 from rfl, dec_add 9 q sr (by omega) (by omega), hdg, ByteArray.data_append, Array.toList_append, hzl, hxl, show 9 - (Lib.decDigits sr).length = mz by omega]
    ·have hb2 := of_decide_eq_false hb
     have hq0 : q = 0 := by
      rw [← vl_wd (B := 4294967296) (by omega) q, List.eq_nil_of_length_eq_zero (by omega : (wd 4294967296 q).length = 0)]; rfl
     subst hq0
     have hsz := ba_size (Lib.decDigits sr)
     refine xctl ?_
     refine ⟨_, Nat.zero_le _, Ent.env (less_put (less_put (less_put (less_put (less_un0 _) ?_) ?_) ?_) ?_), ⟨(Lib.decDigits sr).toArray⟩, by omega, ?_, rfl⟩
     iterate 4 (· exact xlq)
     rw [if_pos rfl, ← hdv]; simp
  ·have hb' := of_decide_eq_false hb
   have hV : V = 0 := by
    rw [← vl_wd (B := 4294967296) (by omega) V, List.eq_nil_of_length_eq_zero (by omega : (wd 4294967296 V).length = 0)]; rfl
   subst hV
   rw [if_pos rfl, List.nil_append] at hdec
   have hfl := flat_len hs9
   have hrl : ss.reverse.length = ss.length := by simp
   have hjn : Lib.join (ss.reverse.map (·.data.toList)) [] = flat ss := join_nosep _
   have hjo := lib_join (G := G) ss.reverse ⟨#[]⟩ ss.length (by simp) (by simp; omega) (by rw [show (⟨#[]⟩ : ByteArray).data.toList = [] from rfl, hjn]; omega)
   rw [show (⟨#[]⟩ : ByteArray).data.toList = [] from rfl, hjn] at hjo
   refine xctl ?_
   refine xrg ?_
   refine ops_callw [1] (pcg_reverse ss ss.length ver 9 rfl (by omega)) (by simp (disch := omega) only [go_sem, Nat.reduceEqDiff, Nat.reduceAdd, Nat.reduceLT, Nat.reduceMul, Nat.reduceLeDiff, reduceCtorEq, Int.reduceNeg, Int.reduceToNat]; rfl) (by simp [kb]) (by decide) rfl (by simp) rfl (by simp) (by simp [immH, W_imm, SS_imm]) (by simp [immH, W_imm, SS_imm]) (by simp only [D.ren, List.getD_cons_zero, List.getD_cons_succ]; rfl) (by simp only [List.zip_cons_cons, List.zip_nil_left, List.zip_nil_right]; rfl) ?_
   refine xrg ?_
   refine xctl ?_
   refine xrg ?_
   refine xca1 ?_; refine xca hjo ?_
   refine xrg ?_
   refine xctl ?_
   refine xrt ?_
   rw [hr, hdec]
end Go.Proofs.YtoiepmpggabglaaGreatDoorK.NatT
