/-
  nat.Div: what it computes.
-/
import Derived.Test.YtnildflhdkdbiaaGreatDoorKIrNat
import Derived.Test.YtnildflhdkdbiaaGreatDoorKStepN
import Derived.Test.YtnildflhdkdbiaaGreatDoorKLib
set_option linter.all false
set_option linter.unusedVariables false
set_option linter.unusedSimpArgs false
set_option maxHeartbeats 4000000
namespace Go.Proofs.YtnildflhdkdbiaaGreatDoorK.NatT
open Go.Proofs.YtnildflhdkdbiaaGreatDoorK.AI Go.Proofs.YtnildflhdkdbiaaGreatDoorK.NatIr Go.Proofs.YtnildflhdkdbiaaGreatDoorK.Dig Go.Proofs.YtnildflhdkdbiaaGreatDoorK.LibT
set_option linter.unusedSimpArgs false
attribute [local irreducible] awp awpOps
attribute [local go_sem] getO putE_same putE_ne putE_none un0_at ini_zero ini_one ini_two ini_three ne_eq not_false_eq_true Nat.zero_ne_one Nat.one_ne_zero zero_ne_succ succ_ne_zero sym_nil sym_cons symG_call symG_op symG_skip IOp.isCall gd st_mv st_pick st_new st_box st_build st_lit st_load st_store st_faddr st_fld st_iaddrS st_iaddrA st_idxs st_bin st_beq st_neg st_not st_conv st_slcS st_slcL st_make st_app st_lenS st_lenL st_mx st_mn st_ext st_nilck pureC loadC setH hv boundO D.cells D.one D.boxable fillD putD rowD binC intBinC decT decF dec_true dec_false bne_self_eq_false beq_self_eq_true beq_true_false beq_false_true bne_iff_ne List.length_nil List.length_cons List.getD_cons_zero List.getD_cons_succ List.set_cons_zero List.set_cons_succ List.all_cons List.all_nil Bool.and_true Bool.true_and Nat.lt_irrefl Nat.sub_self Nat.zero_add Nat.add_zero Nat.mul_one Nat.lt_add_one if_true if_false List.replicate_zero List.nil_append List.cons_append List.append_nil List.map_cons List.map_nil Bool.false_eq_true or_self or_true true_or or_false false_or true_and and_true and_self Int.ofNat_zero wrap_i64 wrap_u32 wrap_u64 wrap_u8 wrap_u32_mod wrap_u64_mod Nat.zero_lt_one Int.toNat_natCast Int.sub_zero toNat_pred List.take_succ_cons List.take_zero List.drop_succ_cons List.drop_zero List.take_nil List.drop_nil Nat.le_refl List.length_singleton rvDs rvD ldD one? Option.bind_some Option.map_some resD_int resD_bool resD_str resD_sl resD_rp resD_nils resD_null resD_agg resD_tup resD_own rdOwn resD_ptr rdPtr rd_ite resL_eq go_nil go_cons D.imm resArgs shr32 shl32 Nat.zero_mul Bool.and_self Bool.and_false Bool.false_and strBin_eql strBin_neq Bool.not_true Bool.not_false i64max List.length_reverse List.length_set SS_length SS_getD SS_set SS_take SS_drop SS_imm SS_one SS_app1 W_get1 W_len1 W_getD W_set W_take W_drop W_app W_length W_imm W_one W_repl N mx_nat toNat_succ toNat_add toNat_pred2 tdiv_nn tmod_nn List.take_of_length_le cast_succ and_one or_shl32 min64 shr32b shl32b IntKind.bits
variable {G : World → Prop}
theorem pcr_clone (n : Nat) (l : List Int) (hn : n = l.length) (hl : l.length < 1000000) : PCr Tryz.prog G 90 [.sl n (W l)] (.sl n (W l)) := by
  obtain ⟨i0, hi, hz0, hz1, hz2⟩ := info_parts (by kernel_rfl : (Tryz.prog.info? 108).map (fun i => (i.zero, i.size, i.bytes)) = some (some (.int .u32 0), 1, 4))
  exact lib_clone Tryz.laysCloneW rfl rfl i0 (.int .u32 0) 1 4 hi hz0 hz1 hz2 rfl (by omega) (by kernel_rfl) n (W l) (by rw [W_length]; omega) (fun d hd => by obtain ⟨x, _, rfl⟩ := List.mem_map.1 hd; rfl) (W_one l) (by omega)
theorem bitLen_lt (x : Nat) : x < 18446744073709551616 → x < 2 ^ Lib.bitLen x := by
  induction x using Nat.strongRecOn with
  | _ x ih =>
    intro h
    by_cases h0 : x = 0
    · subst h0; exact Nat.pow_pos (by omega)
    · have h1 := ih (x / 2) (by omega) (by omega)
      rw [Lib.bitLen_half x h0 h, Nat.add_comm, Nat.pow_succ]
      omega
theorem bitLen_pos {x : Nat} (h0 : x ≠ 0) (h : x < 18446744073709551616) : 1 ≤ Lib.bitLen x := by
  rw [Lib.bitLen_half x h0 h]; omega
set_option maxHeartbeats 2000000 in
theorem pcr_div (hG : Stable G) (a b : List Int) (n m : Nat) (hn : n = a.length) (hm : m = b.length) (ha : ok 4294967296 a) (hb : ok 4294967296 b) (hla : a.length < 400000) (hlb : b.length < 400000) :
    PCr Tryz.prog G 19 [.agg [.sl n (W a)], .agg [.sl m (W b)]]
      (.tup [if vl 4294967296 b = 0 then N 0 else N (vl 4294967296 a / vl 4294967296 b), if vl 4294967296 b = 0 then N 0 else N (vl 4294967296 a % vl 4294967296 b), .bool (decide (vl 4294967296 b ≠ 0))]) := by
  refine pcr_by hG (fn := Tryz.f19) (n := 105) (rv := [.cell 4 true 1, .cell 5 true 1, .tmp 6]) (by kernel_rfl) ok19 (by kernel_rfl) (by decide) (by kernel_rfl) (by simp) (by kernel_rfl) (fun r hr => ?_); unfold c19 st0
  refine xctl ?_
  refine xrg ?_
  refine xctl ?_
  refine xrg ?_
  refine xca1 ?_; refine xca (pcr_trim hG a n hn ha (by omega)) ?_
  refine xrg ?_
  refine xca1 ?_; refine xca (pcr_trim hG b m hm hb (by omega)) ?_
  refine xrg ?_
  refine xctl ?_
  refine xdr ?_
  refine xctl ?_
  have hxa := ok_wd (B := 4294967296) (by omega) (vl 4294967296 a)
  have hxb := ok_wd (B := 4294967296) (by omega) (vl 4294967296 b)
  have hva := vl_wd (B := 4294967296) (by omega) (vl 4294967296 a)
  have hvb := vl_wd (B := 4294967296) (by omega) (vl 4294967296 b)
  have h1 := wd_len_small ha
  have h2 := wd_len_small hb
  have hy0 := @wd_eq_nil 4294967296 (by omega) (vl 4294967296 b)
  have hNa : N (vl 4294967296 a) = .agg [.sl (wd 4294967296 (vl 4294967296 a)).length (W (wd 4294967296 (vl 4294967296 a)))] := rfl
  have hlast := wd_last (B := 4294967296) (by omega) (vl 4294967296 b)
  have hlex := @wd_less 4294967296 (by omega) (vl 4294967296 a) (vl 4294967296 b)
  generalize hx : wd 4294967296 (vl 4294967296 a) = x at *
  generalize hy : wd 4294967296 (vl 4294967296 b) = y at *
  generalize hX : vl 4294967296 a = X at *
  generalize hY : vl 4294967296 b = Y at *
  have hlx : x.length < 400000 := by omega
  have hly : y.length < 400000 := by omega
  have hN0 : N 0 = .agg [.sl 0 []] := by rw [N, wd_zero]; rfl
  by_cases hY0 : Y = 0
  · have hyn : y.length = 0 := by rw [hy0.2 hY0]; rfl
    refine xrg ?_
    refine xctl ?_
    refine xct ?_
    refine xctl ?_
    refine xrg ?_
    refine xctl ?_
    refine xrt ?_
    rw [hr, if_pos hY0, if_pos hY0, hN0]
    simp [hY0]
  · have hyn : 0 < y.length := by
      rcases Nat.eq_zero_or_pos y.length with h | h
      · exact absurd (hy0.1 (List.eq_nil_of_length_eq_zero h)) hY0
      · exact h
    rw [if_neg hY0, if_neg hY0, decide_eq_true hY0] at hr
    refine xrg ?_
    refine xctl ?_
    refine xcF ?_
    refine xctl ?_
    refine xrg ?_
    refine xcf1 ?_; refine xcf (pcr_cmp hG a b n m hn hm ha hb (by omega) (by omega)) rfl ?_
    rw [hX, hY]
    by_cases hXY : X < Y
    · have hcm : cmpN X Y < 0 := by unfold cmpN; rw [if_pos hXY]; omega
      generalize cmpN X Y = cm at *
      refine xrg ?_
      refine xctl ?_
      refine xct ?_
      refine xctl ?_
      refine xrg ?_
      refine xca1 ?_; refine xca (pcr_clone x.length x rfl (by omega)) ?_
      refine xrg ?_
      refine xctl ?_
      refine xrt ?_
      rw [hr, Nat.div_eq_of_lt hXY, Nat.mod_eq_of_lt hXY, hN0, hNa]
    · have hcm : ¬ cmpN X Y < 0 := by unfold cmpN; rw [if_neg hXY]; split <;> omega
      generalize cmpN X Y = cm at *
      refine xrg ?_
      refine xctl ?_
      refine xcF ?_
      refine xctl ?_
      refine xrg ?_
      refine xctl ?_
      by_cases hy1 : y.length = 1
      · obtain ⟨d, rfl⟩ := List.length_eq_one_iff.1 hy1
        have hd := (ok_cons.1 hxb).1
        obtain ⟨dn, rfl⟩ : ∃ dn : Nat, d = dn := ⟨d.toNat, by omega⟩
        have hYd : dn = Y := by rw [← hvb]; simp [vl]
        subst hYd
        have hsl : (sdiv 4294967296 dn x).1.length = x.length := sdiv_len _ _ _
        have hsr := sdiv_lt (B := 4294967296) (d := dn) (by omega) x
        refine awp_cond_t (by simp only [go_sem, Nat.reduceEqDiff, Nat.reduceAdd, Nat.reduceLT, Nat.reduceMul, Nat.reduceLeDiff, reduceCtorEq, Int.reduceNeg, Int.reduceToNat]; rfl) ?_
        refine xctl ?_
        refine xrg ?_
        refine xca1 ?_; refine xca (pcr_small hG x dn x.length rfl (by omega) (by omega) hxa (by omega)) ?_
        refine xrg ?_
        refine xctl ?_
        refine xrg ?_
        refine xca1 ?_; refine xca (pcr_trim hG (sdiv 4294967296 dn x).1 x.length hsl.symm (sdiv_ok (by omega) (by omega) x hxa) (by omega)) ?_
        refine xrg ?_
        refine xca1 ?_; refine xca (pcr_of hG (sdiv 4294967296 dn x).2 (by omega)) ?_
        refine xrg ?_
        refine xctl ?_
        refine xrt ?_
        rw [hr, sdiv_q (by omega), sdiv_r (by omega), hva]; rfl
      · refine awp_cond_f (by simp only [go_sem, Nat.reduceEqDiff, Nat.reduceAdd, Nat.reduceLT, Nat.reduceMul, Nat.reduceLeDiff, reduceCtorEq, Int.reduceNeg, Int.reduceToNat]; exact congrArg D.bool (decide_eq_false (by omega))) ?_
        refine xctl ?_
        refine xrg ?_
        -- long division
        have hly2 : 2 ≤ y.length := by omega
        have gT := ok_get hxb (by omega) (y.length - 1)
        have hTn : y.getD (y.length - 1) 0 ≠ 0 := hlast _ (getD_last (by intro h; subst h; simp at hyn))
        have hYlt : Y < ((y.getD (y.length - 1) 0).toNat + 1) * 4294967296 ^ (y.length - 1) ∧ (y.getD (y.length - 1) 0).toNat * 4294967296 ^ (y.length - 1) ≤ Y := by
          have h3 := vl_take_succ 4294967296 y (y.length - 1) (by omega)
          rw [show y.length - 1 + 1 = y.length by omega, List.take_length, hvb] at h3
          have h4 := vl_lt (ok_take hxb (y.length - 1))
          rw [List.length_take, Nat.min_eq_left (by omega)] at h4
          rw [Nat.add_mul, Nat.mul_comm (y.getD (y.length - 1) 0).toNat]
          omega
        generalize hTg : y.getD (y.length - 1) 0 = T at *
        obtain ⟨TN, rfl⟩ : ∃ TN : Nat, T = TN := ⟨T.toNat, by omega⟩
        refine xcf1 ?_; refine xcf (lib_clz TN (by omega)) rfl ?_
        have hbl := bitLen_lt TN (by omega)
        have hbp := bitLen_pos (x := TN) (by omega) (by omega)
        have hb32 := Any.bitLen_le32 TN (by omega) (by omega)
        simp only [Int.toNat_natCast] at hYlt hb32
        obtain ⟨k, hk⟩ : ∃ k, Lib.bitLen TN + k = 32 := ⟨32 - Lib.bitLen TN, by omega⟩
        rw [show (32 - (Lib.bitLen TN : Int)) = (k : Int) by omega]
        have hk31 : k ≤ 31 := by omega
        have hpp : 2 ^ Lib.bitLen TN * 2 ^ k = 4294967296 := by rw [← Nat.pow_add, hk]
        have hp1 : 0 < 2 ^ k := Nat.pow_pos (by omega)
        have hV : Y * 2 ^ k < 4294967296 ^ y.length := by
          have h3 : Y * 2 ^ k < (TN + 1) * 4294967296 ^ (y.length - 1) * 2 ^ k := Nat.mul_lt_mul_of_pos_right hYlt.1 hp1
          have h4 : (TN + 1) * 4294967296 ^ (y.length - 1) * 2 ^ k ≤ 2 ^ Lib.bitLen TN * 4294967296 ^ (y.length - 1) * 2 ^ k := Nat.mul_le_mul_right _ (Nat.mul_le_mul_right _ hbl)
          have h5 : 2 ^ Lib.bitLen TN * 4294967296 ^ (y.length - 1) * 2 ^ k = 4294967296 ^ y.length := by
            rw [Nat.mul_right_comm, hpp, Nat.mul_comm, ← Nat.pow_succ]
            congr 1
            omega
          omega
        have hXp : X * 2 ^ k < 4294967296 ^ (x.length + 1) := by
          have h3 := vl_lt hxa
          rw [hva] at h3
          have h4 : 2 ^ k ≤ 4294967296 := Nat.pow_le_pow_right (n := 2) (by omega) (show k ≤ 32 by omega)
          rw [Nat.pow_succ]
          exact Nat.mul_lt_mul_of_lt_of_le h3 h4 (by omega)
        obtain ⟨mm, hmm⟩ : ∃ mm, x.length = y.length + mm := ⟨x.length - y.length, by omega⟩
        refine xrg ?_
        refine xctl ?_
        refine xrg ?_
        refine ops_callw [4] (pcg_shift x x.length k rfl hxa (by omega) hk31) (by simp (disch := omega) only [go_sem, Nat.reduceEqDiff, Nat.reduceAdd, Nat.reduceLT, Nat.reduceMul, Nat.reduceLeDiff, reduceCtorEq, Int.reduceNeg, Int.reduceToNat]; rfl) (by simp [kb]) (by decide) rfl (by simp) rfl rfl (by simp) (by simp [immH, W_imm, SS_imm]) (by simp [immH, W_imm, SS_imm]) (by simp only [D.ren, List.getD_cons_zero, List.getD_cons_succ]; rfl) (by simp only [List.zip_cons_cons, List.zip_nil_left, List.zip_nil_right]; rfl) ?_
        rw [hva]
        refine xrg ?_
        refine ops_callw [5] (pcg_shift y y.length k rfl hxb (by omega) hk31) (by simp (disch := omega) only [go_sem, Nat.reduceEqDiff, Nat.reduceAdd, Nat.reduceLT, Nat.reduceMul, Nat.reduceLeDiff, reduceCtorEq, Int.reduceNeg, Int.reduceToNat]; rfl) (by simp [kb]) (by decide) rfl (by simp) rfl rfl (by simp) (by simp [immH, W_imm, SS_imm]) (by simp [immH, W_imm, SS_imm]) (by simp only [D.ren, List.getD_cons_zero, List.getD_cons_succ]; rfl) (by simp only [List.zip_cons_cons, List.zip_nil_left, List.zip_nil_right]; rfl) ?_
        rw [hvb]
        have hul0 : (pd 4294967296 (X * 2 ^ k) (x.length + 1)).length = x.length + 1 := pd_length _ _ _
        have huo0 : ok 4294967296 (pd 4294967296 (X * 2 ^ k) (x.length + 1)) := pd_ok (by omega) _ _
        have huv0 := pd_vl (B := 4294967296) (by omega) (x.length + 1) (X * 2 ^ k) hXp
        have hvl0 : (pd 4294967296 (Y * 2 ^ k) (y.length + 1)).length = y.length + 1 := pd_length _ _ _
        have hvo0 : ok 4294967296 (pd 4294967296 (Y * 2 ^ k) (y.length + 1)) := pd_ok (by omega) _ _
        have hPs : 4294967296 ^ (y.length + 1) = 4294967296 ^ y.length * 4294967296 := Nat.pow_succ _ _
        have hvv0 := pd_vl (B := 4294967296) (by omega) (y.length + 1) (Y * 2 ^ k) (by omega)
        have hvt := (vl_take_small (B := 4294967296) (n := y.length) (by rw [hvv0]; exact hV) (by omega) : vl 4294967296 ((pd 4294967296 (Y * 2 ^ k) (y.length + 1)).take y.length) = _ ∧ _).1
        rw [hvv0] at hvt
        have hBp : 0 < 4294967296 ^ (y.length - 1) := Nat.pow_pos (by omega)
        have hYp : 4294967296 ^ (y.length - 1) * 2 ^ k ≤ Y * 2 ^ k := by
          refine Nat.mul_le_mul_right _ ?_
          have : 1 * 4294967296 ^ (y.length - 1) ≤ TN * 4294967296 ^ (y.length - 1) := Nat.mul_le_mul_right _ (by omega)
          omega
        have hvtop : 0 < (pd 4294967296 (Y * 2 ^ k) (y.length + 1)).getD (y.length - 1) 0 := by
          rw [pd_getD _ _ _ (by omega)]
          have h3 : 1 ≤ Y * 2 ^ k / 4294967296 ^ (y.length - 1) := by
            rw [Nat.le_div_iff_mul_le hBp]
            have : 4294967296 ^ (y.length - 1) * 1 ≤ 4294967296 ^ (y.length - 1) * 2 ^ k := Nat.mul_le_mul_left _ hp1
            omega
          have h4 : Y * 2 ^ k / 4294967296 ^ (y.length - 1) < 4294967296 := by
            rw [Nat.div_lt_iff_lt_mul hBp, ← Nat.pow_succ', show (y.length - 1).succ = y.length by omega]
            exact hV
          rw [Nat.mod_eq_of_lt h4]
          omega
        have hu0 : vl 4294967296 ((pd 4294967296 (X * 2 ^ k) (x.length + 1)).drop (mm + 1)) < Y * 2 ^ k := by
          rw [← vl_div_pow (by omega) huo0, huv0, Nat.div_lt_iff_lt_mul (Nat.pow_pos (by omega))]
          have h3 := vl_lt hxa
          rw [hva, hmm, show y.length + mm = (y.length - 1) + (mm + 1) by omega, Nat.pow_add] at h3
          have h4 : X * 2 ^ k < 4294967296 ^ (y.length - 1) * 4294967296 ^ (mm + 1) * 2 ^ k := Nat.mul_lt_mul_of_pos_right h3 hp1
          have h5 : 4294967296 ^ (y.length - 1) * 2 ^ k * 4294967296 ^ (mm + 1) ≤ Y * 2 ^ k * 4294967296 ^ (mm + 1) := Nat.mul_le_mul_right _ hYp
          rw [Nat.mul_right_comm] at h4
          omega
        generalize pd 4294967296 (X * 2 ^ k) (x.length + 1) = u0 at *
        generalize pd 4294967296 (Y * 2 ^ k) (y.length + 1) = v0 at *
        refine xrg ?_
        refine xctl ?_
        refine xdr ?_
        refine xctl ?_
        refine xrg ?_
        rw [show ((x.length : Int) - y.length + 1).toNat = mm + 1 by omega]
        refine xctl ?_
        refine xrg ?_
        refine xctl ?_
        refine awp_loop (fun i σ => ∃ (u out : List Int), i ≤ mm + 1 ∧ u.length = x.length + 1 ∧ ok 4294967296 u ∧ out.length = mm + 1 ∧ ok 4294967296 out ∧ vl 4294967296 u + Y * 2 ^ k * (4294967296 ^ i * vl 4294967296 (out.drop i)) = X * 2 ^ k ∧ vl 4294967296 (u.drop i) < Y * 2 ^ k ∧
            σ = ⟨(putE (putE (putE (putE (putE (putE (putE un0 (some 4) (.ptr 2 0 0)) (some 5) (.ptr 3 0 0)) (some 11) (.int .i64 k)) (some 12) (.own 4 0 0 (x.length + 1))) (some 13) (.own 5 0 0 y.length)) (some 14) (.own 6 0 0 (mm + 1))) (some 15) (.int .i64 ((i : Int) - 1))),
              [none, none, some (0, 25, 1, [.nils]), some (0, 25, 1, [.nils]), some (0, 108, 1, W u), some (0, 108, 1, W v0), some (0, 108, 1, W out)]⟩) (mm + 1)
          (Ent.st (less_put (less_put (less_put (less_put (less_put (less_put (less_put (less_un0 _) ?_) ?_) ?_) ?_) ?_) ?_) ?_) (by exact ⟨.inl rfl, .inl rfl, .inr rfl, .inr rfl, .inr rfl, .inr rfl, .inr rfl, trivial⟩)) ⟨u0, List.replicate (mm + 1) 0, by omega, hul0, huo0, by simp, ok_replicate (by omega) _, ?_, hu0, rfl⟩ ?_
        iterate 6 (· exact xlq)
        iterate 1 (· exact xlq)
        · rw [huv0, List.drop_of_length_le (by simp), vl_nil, Nat.mul_zero, Nat.mul_zero, Nat.add_zero]
        rintro i σ1 ⟨u, out, hi, hul, huo, hol, hoo, heq, hlt, rfl⟩
        refine xctl ?_
        refine xrg ?_
        refine xctl ?_
        refine xcs (fun hb => ?_) (fun hb => ?_)
        · have hb' := of_decide_eq_true hb
          obtain ⟨j, rfl⟩ : ∃ j, i = j + 1 := ⟨i - 1, by omega⟩
          have hdj := vl_drop_all 4294967296 u j
          have guj := ok_get huo (by omega) j
          have hUj : vl 4294967296 (u.drop j) < Y * 2 ^ k * 4294967296 := by
            have : (vl 4294967296 (u.drop (j + 1)) + 1) * 4294967296 ≤ Y * 2 ^ k * 4294967296 := Nat.mul_le_mul_right _ hlt
            rw [Nat.add_mul] at this
            omega
          have hwl : (u.drop j).length = x.length + 1 - j := by rw [List.length_drop, hul]
          obtain ⟨hw1, hw2⟩ := vl_take_small (B := 4294967296) (l := u.drop j) (n := y.length + 1) (by
            have : Y * 2 ^ k * 4294967296 < 4294967296 ^ y.length * 4294967296 := Nat.mul_lt_mul_of_pos_right hV (by omega)
            omega) (by omega)
          have hwe : vl 4294967296 (win u j (y.length + 1)) = vl 4294967296 (u.drop j) := hw1
          rw [List.drop_drop] at hw2
          have hstep := pcr_step (G := G) u v0 j y.length hly2 (by omega) (by omega) huo hvo0 (by omega) (by omega) hvtop (by rw [hwe, hvt]; exact hUj)
          rw [hwe, hvt] at hstep
          have hVp : 0 < Y * 2 ^ k := Nat.mul_pos (by omega) hp1
          have hmod := Nat.mod_lt (vl 4294967296 (u.drop j)) hVp
          have hpl : (pd 4294967296 (vl 4294967296 (u.drop j) % (Y * 2 ^ k)) (y.length + 1)).length = y.length + 1 := pd_length _ _ _
          have hpv := pd_vl (B := 4294967296) (by omega) (y.length + 1) (vl 4294967296 (u.drop j) % (Y * 2 ^ k)) (by omega)
          obtain ⟨hq1, hq2⟩ := vl_putW (B := 4294967296) (u := u) (j := j) (ws := pd 4294967296 (vl 4294967296 (u.drop j) % (Y * 2 ^ k)) (y.length + 1)) (by rw [hpl]; omega) (by rw [hpl]; exact hw2)
          rw [hpv] at hq1 hq2
          have hqB : vl 4294967296 (u.drop j) / (Y * 2 ^ k) < 4294967296 := (Nat.div_lt_iff_lt_mul hVp).2 (by rw [Nat.mul_comm]; exact hUj)
          have hut : vl 4294967296 u = vl 4294967296 (u.take j) + 4294967296 ^ j * vl 4294967296 (u.drop j) := by
            have := vl_take_drop 4294967296 u j
            rwa [Nat.min_eq_left (by omega)] at this
          have hds := div_step (B := 4294967296) (j := j) (U := vl 4294967296 (u.drop j)) (V := Y * 2 ^ k) (O := vl 4294967296 (out.drop (j + 1))) (T := vl 4294967296 (u.take j)) (R := X * 2 ^ k) (by rw [← hut]; exact heq)
          have hpul : (putW u j (pd 4294967296 (vl 4294967296 (u.drop j) % (Y * 2 ^ k)) (y.length + 1))).length = x.length + 1 := by rw [putW_len (by rw [hpl]; omega), hul]
          have hpuo : ok 4294967296 (putW u j (pd 4294967296 (vl 4294967296 (u.drop j) % (Y * 2 ^ k)) (y.length + 1))) := putW_ok huo (pd_ok (by omega) _ _)
          generalize putW u j (pd 4294967296 (vl 4294967296 (u.drop j) % (Y * 2 ^ k)) (y.length + 1)) = u' at *
          generalize vl 4294967296 (u.drop j) / (Y * 2 ^ k) = Q at *
          rw [show (((j + 1 : Nat) : Int) - 1) = (j : Int) by omega]
          refine xctl ?_
          refine xrg ?_
          rw [show ((j : Int) + y.length + 1 - (j : Int)).toNat = y.length + 1 by omega]
          refine ops_callw [4, 5] hstep (by simp (disch := omega) only [go_sem, Nat.reduceEqDiff, Nat.reduceAdd, Nat.reduceLT, Nat.reduceMul, Nat.reduceLeDiff, reduceCtorEq, Int.reduceNeg, Int.reduceToNat]; rfl) (by simp [kb]) (by decide) rfl (by simp) rfl rfl (by simp) (by simp [immH, W_imm, SS_imm]) (by simp [immH, W_imm, SS_imm]) (by simp only [D.ren, List.getD_cons_zero, List.getD_cons_succ]; rfl) (by simp only [List.zip_cons_cons, List.zip_nil_left, List.zip_nil_right]; rfl) ?_
          refine xrg ?_
          refine xctl ?_
          refine xrg ?_
          refine xctl ?_
          refine ⟨j, _, by omega, Ent.env (less_put (less_put (less_put (less_put (less_put (less_put (less_put (less_un0 _) ?_) ?_) ?_) ?_) ?_) ?_) ?_), u', out.set j Q, by omega, hpul, hpuo, by simp [hol], ok_set hoo _ (by omega), ?_, by rw [hq2]; exact hmod, rfl⟩
          iterate 7 (· exact xlq)
          rw [drop_set (by omega), vl_cons, hq1]
          exact hds
        · have hb' := of_decide_eq_false hb
          have hi0 : i = 0 := by omega
          subst hi0
          rw [List.drop_zero, Nat.pow_zero, Nat.one_mul] at heq
          rw [List.drop_zero] at hlt
          obtain ⟨e1, e2⟩ := div_end (by omega) hp1 heq hlt
          have hul' : vl 4294967296 u / 2 ^ k < 4294967296 ^ (x.length + 1) := Nat.lt_of_le_of_lt (Nat.div_le_self _ _) (by rw [← hul]; exact vl_lt huo)
          refine xctl ?_
          refine xrg ?_
          refine xca1 ?_; refine xca (pcr_trim hG out (mm + 1) hol.symm hoo (by omega)) ?_
          refine xrg ?_
          refine xca1 ?_; refine xca (pcr_back hG u (x.length + 1) k hul.symm huo (by omega) hk31) ?_
          refine xrg ?_
          refine xca1 ?_; refine xca (pcr_trim hG (pd 4294967296 (vl 4294967296 u / 2 ^ k) (x.length + 1)) (x.length + 1) (pd_length _ _ _).symm (pd_ok (by omega) _ _) (by rw [pd_length]; omega)) ?_
          refine xrg ?_
          refine xctl ?_
          refine xrt ?_
          rw [hr, pd_vl (by omega) _ _ hul', e1, e2]; rfl
end Go.Proofs.YtnildflhdkdbiaaGreatDoorK.NatT
