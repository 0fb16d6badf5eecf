/-
  nat.less: what it computes.
-/
import Derived.Test.YtnildflhdkdbiaaGreatDoorKIrNat
import Derived.Test.YtnildflhdkdbiaaGreatDoorKShiftN
set_option linter.all false
set_option linter.unusedVariables false
set_option linter.unusedSimpArgs false
set_option maxHeartbeats 4000000
namespace Go.Proofs.YtnildflhdkdbiaaGreatDoorK.NatT
open Go.Proofs.YtnildflhdkdbiaaGreatDoorK.AI Go.Proofs.YtnildflhdkdbiaaGreatDoorK.NatIr Go.Proofs.YtnildflhdkdbiaaGreatDoorK.Dig
set_option linter.unusedSimpArgs false
attribute [local irreducible] awp awpOps
attribute [local go_sem] getO putE_same putE_ne putE_none un0_at ini_zero ini_one ini_two ini_three ne_eq not_false_eq_true Nat.zero_ne_one Nat.one_ne_zero zero_ne_succ succ_ne_zero sym_nil sym_cons symG_call symG_op symG_skip IOp.isCall gd st_mv st_pick st_new st_box st_build st_lit st_load st_store st_faddr st_fld st_iaddrS st_iaddrA st_idxs st_bin st_beq st_neg st_not st_conv st_slcS st_slcL st_make st_app st_lenS st_lenL st_mx st_mn st_ext st_nilck pureC loadC setH hv boundO D.cells D.one D.boxable fillD putD rowD binC intBinC decT decF dec_true dec_false bne_self_eq_false beq_self_eq_true beq_true_false beq_false_true bne_iff_ne List.length_nil List.length_cons List.getD_cons_zero List.getD_cons_succ List.set_cons_zero List.set_cons_succ List.all_cons List.all_nil Bool.and_true Bool.true_and Nat.lt_irrefl Nat.sub_self Nat.zero_add Nat.add_zero Nat.mul_one Nat.lt_add_one if_true if_false List.replicate_zero List.nil_append List.cons_append List.append_nil List.map_cons List.map_nil Bool.false_eq_true or_self or_true true_or or_false false_or true_and and_true and_self Int.ofNat_zero wrap_i64 wrap_u32 wrap_u64 wrap_u8 wrap_u32_mod wrap_u64_mod Nat.zero_lt_one Int.toNat_natCast Int.sub_zero toNat_pred List.take_succ_cons List.take_zero List.drop_succ_cons List.drop_zero List.take_nil List.drop_nil Nat.le_refl List.length_singleton rvDs rvD ldD one? Option.bind_some Option.map_some resD_int resD_bool resD_str resD_sl resD_rp resD_nils resD_null resD_agg resD_tup resD_own rdOwn resD_ptr rdPtr rd_ite resL_eq go_nil go_cons D.imm resArgs shr32 shl32 Nat.zero_mul Bool.and_self Bool.and_false Bool.false_and strBin_eql strBin_neq Bool.not_true Bool.not_false i64max List.length_reverse List.length_set SS_length SS_getD SS_set SS_take SS_drop SS_imm SS_one SS_app1 W_get1 W_len1 W_getD W_set W_take W_drop W_app W_length W_imm W_one W_repl N mx_nat toNat_succ toNat_add toNat_pred2 tdiv_nn tmod_nn List.take_of_length_le cast_succ and_one or_shl32 min64 shr32b shl32b IntKind.bits
variable {G : World → Prop}
theorem pcr_less (us vs : List Int) (off n q : Nat) (hn : n ≤ vs.length) (hoff : off + n + 1 ≤ us.length) (hu : ok 4294967296 us) (hv : ok 4294967296 vs) (hlu : us.length < 1000000) (hlv : vs.length < 1000000) (hq : q < 4294967296) :
    PCg Tryz.prog G 120 [.own 0 0 off (n + 1), .own 1 0 0 n, .int .u64 q] [some (0, 108, 1, W us), some (0, 108, 1, W vs)]
      (.bool (decide (vl 4294967296 (win us off (n + 1)) < q * vl 4294967296 (vs.take n))))
      [some (0, 108, 1, W (putW us off (pd 4294967296 (left (4294967296 ^ (n + 1)) (vl 4294967296 (win us off (n + 1))) (q * vl 4294967296 (vs.take n))) (n + 1)))), some (0, 108, 1, W vs)] := by
  refine pcg_by (fn := Tryz.f120) (n := 68) (rv := [.tmp 6]) (by kernel_rfl) ok120 (by kernel_rfl) (by decide) (by kernel_rfl) (by simp) (by kernel_rfl) (by simp) (fun r hh hr hhe => ?_); unfold c120
  subst hhe
  refine xctl ?_
  refine xrg ?_
  refine xctl ?_
  refine xrg ?_
  refine xctl ?_
  refine xrg ?_
  refine xctl ?_
  refine awp_loopm (fun k σ => ∃ (i : Nat) (us1 : List Int) (c b : Int), i ≤ n ∧ k = n - i ∧ us1.length = us.length ∧ ok 4294967296 us1 ∧ us1.take off = us.take off ∧ us1.drop (off + i) = us.drop (off + i) ∧ 0 ≤ c ∧ c < 4294967296 ∧ 0 ≤ b ∧ b ≤ 1 ∧
        vl 4294967296 (win us1 off i) + q * vl 4294967296 (vs.take i) = vl 4294967296 (win us off i) + 4294967296 ^ i * (c.toNat + b.toNat) ∧
      σ = ⟨(putE (putE (putE (putE (putE (putE (putE un0 (some 0) (.own 0 0 off (n + 1))) (some 1) (.own 1 0 0 n)) (some 2) (.int .u64 q)) (some 7) (.int .u64 c)) (some 8) (.int .u64 b)) (some 14) (.int .i64 n)) (some 15) (.int .i64 i)), [some (0, 108, 1, W us1), some (0, 108, 1, W vs)]⟩) n
    (Ent.env (less_put (less_put (less_put (less_put (less_put (less_put (less_put (less_un0 _) ?_) ?_) ?_) ?_) ?_) ?_) ?_)) ⟨0, us, 0, 0, by omega, rfl, rfl, hu, rfl, rfl, by omega, by omega, by omega, by omega, by simp [vl, win], rfl⟩ (by rintro k σ ⟨_, _, _, _, _, _, _, _, _, _, _, _, _, _, _, rfl⟩; exact Nat.le_refl _) ?_
  iterate 7 (· exact xlq)
  rintro k σ1 ⟨i, us1, c, b, hi, rfl, hl1, ho1, ht1, hd1, hc0, hc1, hb0, hb1, heq, rfl⟩
  refine xctl ?_
  refine xrg ?_
  refine xctl ?_
  refine xcs (fun hb => ?_) (fun hb => ?_)
  · have hb' := of_decide_eq_true hb
    have gv := ok_get hv (by omega) i
    have gu := ok_get ho1 (by omega) (off + i)
    have hqy := mul_bound (x := q) (y := vs.getD i 0) (n := 4294967295) (by omega) (by omega)
    refine xctl ?_
    refine xrg ?_
    refine xctl ?_
    refine xrg ?_
    refine xctl ?_
    refine xrg ?_
    refine xctl ?_
    generalize hD : ((us1.getD (off + i) 0 - (c + q * vs.getD i 0) % 4294967296) % 18446744073709551616 - b) % 18446744073709551616 = d
    have hd0 : 0 ≤ d ∧ d < 18446744073709551616 := by omega
    have hq2 : d / 4294967296 % 2 = 0 ∧ d % 4294967296 + (c + q * vs.getD i 0) % 4294967296 + b = us1.getD (off + i) 0 ∨ d / 4294967296 % 2 = 1 ∧ d % 4294967296 + (c + q * vs.getD i 0) % 4294967296 + b = us1.getD (off + i) 0 + 4294967296 := by omega
    have eC : (c + q * vs.getD i 0).toNat = c.toNat + q * (vs.getD i 0).toNat := by
      rw [Int.toNat_add (by omega) (by omega), Int.toNat_mul (by omega) (by omega)]; rfl
    have hst := less_step (B := 4294967296) (i := i) (q := q) (x := (us1.getD (off + i) 0).toNat) (y := (vs.getD i 0).toNat) (d := (d % 4294967296).toNat) (t := (d / 4294967296 % 2).toNat) heq (by rw [← eC]; omega)
    rw [← eC] at hst
    refine xrg ?_
    refine xctl ?_
    refine xrg ?_
    refine xctl ?_
    refine xrg ?_
    refine xctl ?_
    refine xrg ?_
    refine xctl ?_
    refine ⟨n - (i + 1), _, by omega, Ent.env (less_put (less_put (less_put (less_put (less_put (less_put (less_put (less_un0 _) ?_) ?_) ?_) ?_) ?_) ?_) ?_), i + 1, us1.set (off + i) (d % 4294967296), (c + q * vs.getD i 0) / 4294967296, d / 4294967296 % 2, by omega, rfl, by simp [hl1], ok_set ho1 _ (by omega), by rw [take_set_ge (by omega), ht1], ?_, by omega, by omega, by omega, by omega, ?_, rfl⟩
    iterate 7 (· exact xlq)
    · rw [show off + (i + 1) = off + i + 1 by omega, drop_set_lt (by omega), ← List.drop_drop, hd1, List.drop_drop]
    · rw [vl_win_set (by omega), vl_take_next _ vs, vl_win_next (by omega)]
      have e1 : us.getD (off + i) 0 = us1.getD (off + i) 0 := by
        have := congrArg (fun l => l.getD 0 0) hd1
        simpa [List.getD_eq_getElem?_getD] using this.symm
      rw [e1, show ((c + q * vs.getD i 0) / 4294967296).toNat = (c + q * vs.getD i 0).toNat / 4294967296 by omega]
      exact hst
  · have hb' := of_decide_eq_false hb
    have hiN : i = n := by omega
    subst hiN
    have gu := ok_get ho1 (by omega) (off + i)
    refine xctl ?_
    refine xrg ?_
    refine xctl ?_
    refine xrg ?_
    refine xctl ?_
    generalize hD : ((us1.getD (off + i) 0 - c) % 18446744073709551616 - b) % 18446744073709551616 = d
    have hd0 : 0 ≤ d ∧ d < 18446744073709551616 := by omega
    have hq2 : d / 4294967296 = 0 ∧ d % 4294967296 + c + b = us1.getD (off + i) 0 ∨ d / 4294967296 ≠ 0 ∧ d % 4294967296 + c + b = us1.getD (off + i) 0 + 4294967296 := by omega
    obtain ⟨t, ht01, htd, hte⟩ : ∃ t : Nat, t ≤ 1 ∧ (t = 1 ↔ d / 4294967296 ≠ 0) ∧ (d % 4294967296).toNat + c.toNat + b.toNat = (us1.getD (off + i) 0).toNat + 4294967296 * t := by
      rcases hq2 with ⟨h1, h2⟩ | ⟨h1, h2⟩
      · exact ⟨0, by omega, by omega, by omega⟩
      · exact ⟨1, by omega, by omega, by omega⟩
    have e1 : us.getD (off + i) 0 = us1.getD (off + i) 0 := by
      have := congrArg (fun l => l.getD 0 0) hd1
      simpa [List.getD_eq_getElem?_getD] using this.symm
    have hfin : vl 4294967296 (win (us1.set (off + i) (d % 4294967296)) off (i + 1)) + q * vl 4294967296 (vs.take i) = vl 4294967296 (win us off (i + 1)) + 4294967296 ^ (i + 1) * t := by
      rw [vl_win_set (by omega), vl_win_next (by omega), e1, Nat.pow_succ, Nat.mul_assoc]
      have := congrArg (4294967296 ^ i * ·) hte
      simp only [Nat.mul_add] at this heq
      omega
    have hok2 : ok 4294967296 (us1.set (off + i) (d % 4294967296)) := ok_set ho1 _ (by omega)
    have hwl := vl_lt (win_ok hok2 off (i + 1))
    rw [win_len (by simp; omega)] at hwl
    have hwu := vl_lt (win_ok hu off (i + 1))
    rw [win_len (by omega)] at hwu
    obtain ⟨hleft, hlt⟩ := left_of hfin hwl ht01 hwu
    have hput : us1.set (off + i) (d % 4294967296) = putW us off (pd 4294967296 (left (4294967296 ^ (i + 1)) (vl 4294967296 (win us off (i + 1))) (q * vl 4294967296 (vs.take i))) (i + 1)) := by
      rw [← hleft]
      have h1 := pd_eq (by omega) (win_ok hok2 off (i + 1))
      rw [win_len (by simp; omega)] at h1
      rw [← h1]
      refine putW_of ?_ ?_ (by simp; omega)
      · rw [take_set_ge (by omega), ht1]
      · rw [show off + (i + 1) = off + i + 1 by omega, drop_set_lt (by omega), ← List.drop_drop, hd1, List.drop_drop]
    refine xrg ?_
    refine xctl ?_
    refine xrg ?_
    refine xctl ?_
    rw [← hput]
    refine resg_ret (by simp (disch := omega) only [go_sem, Nat.reduceEqDiff, Nat.reduceAdd, Nat.reduceLT, Nat.reduceMul, Nat.reduceLeDiff, reduceCtorEq, Int.reduceNeg, Int.reduceToNat]; rfl) ?_ ?_ ?_
    · rw [hr]
      show D.bool _ = D.bool _
      congr 1
      rw [decide_eq_decide, ← hlt, htd]
    · rw [hr]; simp [kb]
    · exact kbH_imm (by simp [immH, W_imm])
end Go.Proofs.YtnildflhdkdbiaaGreatDoorK.NatT
