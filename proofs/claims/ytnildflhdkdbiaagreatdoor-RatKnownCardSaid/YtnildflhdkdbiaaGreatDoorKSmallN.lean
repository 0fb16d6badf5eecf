/-
  nat.small: what it computes.
-/
import Derived.Test.YtnildflhdkdbiaaGreatDoorKIrNat
import Derived.Test.YtnildflhdkdbiaaGreatDoorKMulN
set_option linter.all false
set_option linter.unusedVariables false
set_option linter.unusedSimpArgs false
set_option maxHeartbeats 4000000
namespace Go.Proofs.YtnildflhdkdbiaaGreatDoorK.NatT
open Go.Proofs.YtnildflhdkdbiaaGreatDoorK.AI Go.Proofs.YtnildflhdkdbiaaGreatDoorK.NatIr Go.Proofs.YtnildflhdkdbiaaGreatDoorK.Dig
set_option linter.unusedSimpArgs false
attribute [local irreducible] awp awpOps
attribute [local go_sem] getO putE_same putE_ne putE_none un0_at ini_zero ini_one ini_two ini_three ne_eq not_false_eq_true Nat.zero_ne_one Nat.one_ne_zero zero_ne_succ succ_ne_zero sym_nil sym_cons symG_call symG_op symG_skip IOp.isCall gd st_mv st_pick st_new st_box st_build st_lit st_load st_store st_faddr st_fld st_iaddrS st_iaddrA st_idxs st_bin st_beq st_neg st_not st_conv st_slcS st_slcL st_make st_app st_lenS st_lenL st_mx st_mn st_ext st_nilck pureC loadC setH hv boundO D.cells D.one D.boxable fillD putD rowD binC intBinC decT decF dec_true dec_false bne_self_eq_false beq_self_eq_true beq_true_false beq_false_true bne_iff_ne List.length_nil List.length_cons List.getD_cons_zero List.getD_cons_succ List.set_cons_zero List.set_cons_succ List.all_cons List.all_nil Bool.and_true Bool.true_and Nat.lt_irrefl Nat.sub_self Nat.zero_add Nat.add_zero Nat.mul_one Nat.lt_add_one if_true if_false List.replicate_zero List.nil_append List.cons_append List.append_nil List.map_cons List.map_nil Bool.false_eq_true or_self or_true true_or or_false false_or true_and and_true and_self Int.ofNat_zero wrap_i64 wrap_u32 wrap_u64 wrap_u8 wrap_u32_mod wrap_u64_mod Nat.zero_lt_one Int.toNat_natCast Int.sub_zero toNat_pred List.take_succ_cons List.take_zero List.drop_succ_cons List.drop_zero List.take_nil List.drop_nil Nat.le_refl List.length_singleton rvDs rvD ldD one? Option.bind_some Option.map_some resD_int resD_bool resD_str resD_sl resD_rp resD_nils resD_null resD_agg resD_tup resD_own rdOwn resD_ptr rdPtr rd_ite resL_eq go_nil go_cons D.imm resArgs shr32 shl32 Nat.zero_mul Bool.and_self Bool.and_false Bool.false_and strBin_eql strBin_neq Bool.not_true Bool.not_false i64max List.length_reverse List.length_set SS_length SS_getD SS_set SS_take SS_drop SS_imm SS_one SS_app1 W_get1 W_len1 W_getD W_set W_take W_drop W_app W_length W_imm W_one W_repl N mx_nat toNat_succ toNat_add toNat_pred2 tdiv_nn tmod_nn List.take_of_length_le cast_succ and_one or_shl32 min64 shr32b shl32b IntKind.bits
variable {G : World → Prop}
theorem pcr_small (hG : Stable G) (l : List Int) (d : Nat) (n : Nat) (hn : n = l.length) (hd0 : 0 < d) (hd : d < 4294967296) (hok : ok 4294967296 l) (hl : l.length < 1000000) :
    PCr Tryz.prog G 91 [.sl n (W l), .int .u32 d] (.tup [.sl n (W (sdiv 4294967296 d l).1), .int .u32 (sdiv 4294967296 d l).2]) := by
  subst hn
  refine pcr_by hG (fn := Tryz.f91) (n := 42) (rv := [.tmp 4, .tmp 5]) (by kernel_rfl) ok91 (by kernel_rfl) (by decide) (by kernel_rfl) (by simp) (by kernel_rfl) (fun r hr => ?_); unfold c91 st0
  refine xctl ?_
  refine xrg ?_
  refine xctl ?_
  refine xrg ?_
  refine xctl ?_
  refine xrg ?_
  refine xctl ?_
  refine xrg ?_
  refine xctl ?_
  refine awp_loop (fun i σ => ∃ (out : List Int), i ≤ l.length ∧ out.length = l.length ∧ out.drop i = (sdiv 4294967296 d (l.drop i)).1 ∧
      σ = ⟨(putE (putE (putE (putE (putE un0 (some 0) (.sl l.length (W l))) (some 1) (.int .u32 d)) (some 6) (.own 0 0 0 l.length)) (some 7) (.int .u64 (sdiv 4294967296 d (l.drop i)).2)) (some 8) (.int .i64 ((i : Int) - 1))),
        [some (0, 108, 1, W out)]⟩) l.length
    (Ent.env (less_put (less_put (less_put (less_put (less_put (less_un0 _) ?_) ?_) ?_) ?_) ?_)) ⟨List.replicate l.length 0, by omega, by simp, by simp [sdiv], rfl⟩ ?_
  iterate 3 (· exact xlq)
  · simp only [go_sem, Nat.reduceEqDiff, Nat.reduceAdd, Nat.reduceLT, Nat.reduceMul, Nat.reduceLeDiff, reduceCtorEq, Int.reduceNeg, Int.reduceToNat]
    rw [List.drop_length]; rfl
  iterate 1 (· exact xlq)
  rintro i σ1 ⟨out, hi, hlo, heq, rfl⟩
  refine xctl ?_
  refine xrg ?_
  refine xctl ?_
  refine xcs (fun hb => ?_) (fun hb => ?_)
  · have hb' := of_decide_eq_true hb
    have hi1 : i - 1 < l.length := by omega
    have gl := ok_get hok (by omega) (i - 1)
    have hr1 := sdiv_lt (B := 4294967296) hd0 (l.drop i)
    have hi2 : i - 1 + 1 = i := by omega
    have hsd := drop_cons hi1
    rw [hi2] at hsd
    have hok2 := sdiv_ok (B := 4294967296) (by omega) hd0 (l.drop (i - 1)) (ok_drop hok _)
    rw [hsd] at hok2
    simp only [sdiv] at hok2
    have hv := (ok_cons.1 hok2).1
    generalize hR : (sdiv 4294967296 d (l.drop i)).2 = R at *
    have eT : ((R : Int) * 4294967296 + l.getD (i - 1) 0) / d = ((R * 4294967296 + (l.getD (i - 1) 0).toNat) / d : Nat) := by
      rw [show (R : Int) * 4294967296 + l.getD (i - 1) 0 = ((R * 4294967296 + (l.getD (i - 1) 0).toNat : Nat) : Int) by omega]; rfl
    have eM : ((R : Int) * 4294967296 + l.getD (i - 1) 0) % d = ((R * 4294967296 + (l.getD (i - 1) 0).toNat) % d : Nat) := by
      rw [show (R : Int) * 4294967296 + l.getD (i - 1) 0 = ((R * 4294967296 + (l.getD (i - 1) 0).toNat : Nat) : Int) by omega]; rfl
    have hM := Nat.mod_lt (R * 4294967296 + (l.getD (i - 1) 0).toNat) hd0
    rw [← eT] at hv
    refine xctl ?_
    refine xrg ?_
    refine xctl ?_
    refine xrg ?_
    refine xctl ?_
    refine xrg ?_
    refine xctl ?_
    refine xrg ?_
    refine xctl ?_
    refine ⟨i - 1, _, by omega, Ent.env (less_put (less_put (less_put (less_put (less_put (less_un0 _) ?_) ?_) ?_) ?_) ?_), out.set (i - 1) (((R : Int) * 4294967296 + l.getD (i - 1) 0) / d), by omega, by simp [hlo], ?_, rfl⟩
    iterate 3 (· exact xlq)
    · simp only [go_sem, Nat.reduceEqDiff, Nat.reduceAdd, Nat.reduceLT, Nat.reduceMul, Nat.reduceLeDiff, reduceCtorEq, Int.reduceNeg, Int.reduceToNat]
      rw [hsd, eM]
      simp only [sdiv, hR]
    · simp only [go_sem, Nat.reduceEqDiff, Nat.reduceAdd, Nat.reduceLT, Nat.reduceMul, Nat.reduceLeDiff, reduceCtorEq, Int.reduceNeg, Int.reduceToNat]
      rw [show ((i - 1 : Nat) : Int) = (i : Int) - 1 by omega]
    · rw [drop_set (by omega), hi2, heq, hsd, eT]
      simp only [sdiv, hR]
  · have hb' := of_decide_eq_false hb
    have hi0 : i = 0 := by omega
    subst hi0
    rw [List.drop_zero, List.drop_zero] at heq
    have hr1 := sdiv_lt (B := 4294967296) hd0 l
    refine xctl ?_
    refine xrg ?_
    refine xctl ?_
    refine xrt ?_
    rw [hr, heq]
end Go.Proofs.YtnildflhdkdbiaaGreatDoorK.NatT
