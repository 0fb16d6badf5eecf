/-
  slices.Reverse of strings; nat.Text: what they compute.
-/
import Derived.Test.YtnildflhdkdbiaaGreatDoorKIrLib
import Derived.Test.YtnildflhdkdbiaaGreatDoorKGcdN
import Derived.Test.YtnildflhdkdbiaaGreatDoorKP
set_option linter.all false
set_option linter.unusedVariables false
set_option linter.unusedSimpArgs false
set_option maxHeartbeats 4000000
namespace Go.Proofs.YtnildflhdkdbiaaGreatDoorK.NatT
open Go.Proofs.YtnildflhdkdbiaaGreatDoorK.AI Go.Proofs.YtnildflhdkdbiaaGreatDoorK.NatIr Go.Proofs.YtnildflhdkdbiaaGreatDoorK.Dig Go.Proofs.YtnildflhdkdbiaaGreatDoorK.LibT
set_option linter.unusedSimpArgs false
attribute [local irreducible] awp awpOps
attribute [local go_sem] getO putE_same putE_ne putE_none un0_at ini_zero ini_one ini_two ini_three ne_eq not_false_eq_true Nat.zero_ne_one Nat.one_ne_zero zero_ne_succ succ_ne_zero sym_nil sym_cons symG_call symG_op symG_skip IOp.isCall gd st_mv st_pick st_new st_box st_build st_lit st_load st_store st_faddr st_fld st_iaddrS st_iaddrA st_idxs st_bin st_beq st_neg st_not st_conv st_slcS st_slcL st_make st_app st_lenS st_lenL st_mx st_mn st_ext st_nilck pureC loadC setH hv boundO D.cells D.one D.boxable fillD putD rowD binC intBinC decT decF dec_true dec_false bne_self_eq_false beq_self_eq_true beq_true_false beq_false_true bne_iff_ne List.length_nil List.length_cons List.getD_cons_zero List.getD_cons_succ List.set_cons_zero List.set_cons_succ List.all_cons List.all_nil Bool.and_true Bool.true_and Nat.lt_irrefl Nat.sub_self Nat.zero_add Nat.add_zero Nat.mul_one Nat.lt_add_one if_true if_false List.replicate_zero List.nil_append List.cons_append List.append_nil List.map_cons List.map_nil Bool.false_eq_true or_self or_true true_or or_false false_or true_and and_true and_self Int.ofNat_zero wrap_i64 wrap_u32 wrap_u64 wrap_u8 wrap_u32_mod wrap_u64_mod Nat.zero_lt_one Int.toNat_natCast Int.sub_zero toNat_pred List.take_succ_cons List.take_zero List.drop_succ_cons List.drop_zero List.take_nil List.drop_nil Nat.le_refl List.length_singleton rvDs rvD ldD one? Option.bind_some Option.map_some resD_int resD_bool resD_str resD_sl resD_rp resD_nils resD_null resD_agg resD_tup resD_own rdOwn resD_ptr rdPtr rd_ite resL_eq go_nil go_cons D.imm resArgs shr32 shl32 Nat.zero_mul Bool.and_self Bool.and_false Bool.false_and strBin_eql strBin_neq Bool.not_true Bool.not_false i64max List.length_reverse List.length_set SS_length SS_getD SS_set SS_take SS_drop SS_imm SS_one SS_app1 W_get1 W_len1 W_getD W_set W_take W_drop W_app W_length W_imm W_one W_repl N mx_nat toNat_succ toNat_add toNat_pred2 tdiv_nn tmod_nn List.take_of_length_le cast_succ and_one or_shl32 min64 shr32b shl32b IntKind.bits
variable {G : World → Prop}
set_option maxHeartbeats 2000000 in
theorem pcg_reverse (ss : List ByteArray) (n ver t : Nat) (hn : n = ss.length) (hl : ss.length < 1000000) :
    PCg Tryz.prog G 99 [.own 0 ver 0 n] [some (ver, t, 1, SS ss)] (.tup []) [some (ver, t, 1, SS ss.reverse)] := by
  refine pcg_by (fn := Tryz.f99) (n := 28) (rv := []) (by kernel_rfl) ok99 (by kernel_rfl) (by decide) (by kernel_rfl) (by simp) (by kernel_rfl) (by simp) (fun r hh hr hhe => ?_); unfold c99
  subst hhe hn
  refine xctl ?_
  refine xrg ?_
  refine xctl ?_
  refine awp_loopm (fun k σ => ∃ (i : Nat) (cur : List ByteArray), k = ss.length - i ∧ 2 * i ≤ ss.length ∧ cur.length = ss.length ∧ (∀ j, j < ss.length → cur.getD j ByteArray.empty = if j < i ∨ ss.length - i ≤ j then ss.getD (ss.length - 1 - j) ByteArray.empty else ss.getD j ByteArray.empty) ∧
      σ = ⟨(putE (putE (putE un0 (some 0) (.own 0 ver 0 ss.length)) (some 2) (.int .i64 i)) (some 3) (.int .i64 ((ss.length : Int) - 1 - i))), [some (ver, t, 1, SS cur)]⟩) ss.length
    (Ent.env (less_put (less_put (less_put (less_un0 _) ?_) ?_) ?_)) ⟨0, ss, rfl, by omega, rfl, fun j hj => by rw [if_neg (by omega)], rfl⟩ (by rintro k σ ⟨_, _, _, _, _, _, rfl⟩; exact Nat.le_refl _) ?_
  iterate 2 (· exact xlq)
  · simp only [go_sem, Nat.reduceEqDiff, Nat.reduceAdd, Nat.reduceLT, Nat.reduceMul, Nat.reduceLeDiff, reduceCtorEq, Int.reduceNeg, Int.reduceToNat]
  rintro k σ1 ⟨i, cur, rfl, hi2, hlc, hcur, rfl⟩
  refine xctl ?_
  refine xrg ?_
  refine xctl ?_
  refine xcs (fun hb => ?_) (fun hb => ?_)
  · have hb' := of_decide_eq_true hb
    obtain ⟨j, hj⟩ : ∃ j : Nat, (ss.length : Int) - 1 - i = j := ⟨ss.length - 1 - i, by omega⟩
    rw [hj]
    refine xctl ?_
    refine xrg ?_
    refine xctl ?_
    refine xdr ?_
    refine xctl ?_
    refine xrg ?_
    refine xctl ?_
    refine ⟨ss.length - (i + 1), _, by omega, Ent.env (less_put (less_put (less_put (less_un0 _) ?_) ?_) ?_), i + 1, (cur.set i (cur.getD j ByteArray.empty)).set j (cur.getD i ByteArray.empty), rfl, by omega, by simp [hlc], fun j' hj' => ?_, rfl⟩
    iterate 2 (· exact xlq)
    · simp only [go_sem, Nat.reduceEqDiff, Nat.reduceAdd, Nat.reduceLT, Nat.reduceMul, Nat.reduceLeDiff, reduceCtorEq, Int.reduceNeg, Int.reduceToNat]
      congr 1
      omega
    have h1 := hcur i (by omega)
    have h2 := hcur j (by omega)
    rw [if_neg (by omega)] at h1 h2
    by_cases e1 : j' = j
    · subst e1
      rw [List.getD_eq_getElem?_getD, List.getElem?_set_self (by simp; omega), Option.getD_some, h1, if_pos (by omega)]
      congr 1
      omega
    · rw [List.getD_eq_getElem?_getD, List.getElem?_set_ne (by omega)]
      by_cases e2 : j' = i
      · subst e2
        rw [List.getElem?_set_self (by omega), Option.getD_some, h2, if_pos (by omega)]
        congr 1
        omega
      · rw [List.getElem?_set_ne (by omega), ← List.getD_eq_getElem?_getD, hcur j' hj']
        by_cases e3 : j' < i ∨ ss.length - i ≤ j'
        · rw [if_pos e3, if_pos (by omega)]
        · rw [if_neg e3, if_neg (by omega)]
  · have hb' := of_decide_eq_false hb
    have hfin : cur = ss.reverse := by
      refine List.ext_getElem (by simp [hlc]) fun j h1 h2 => ?_
      have h3 := hcur j (by omega)
      have e1 : cur.getD j ByteArray.empty = cur[j] := by rw [List.getD_eq_getElem?_getD, List.getElem?_eq_getElem h1]; rfl
      have e2 : ss.getD (ss.length - 1 - j) ByteArray.empty = ss.reverse[j] := by
        rw [List.getElem_reverse, List.getD_eq_getElem?_getD, List.getElem?_eq_getElem (by omega)]; rfl
      rw [← e1, h3, ← e2]
      split
      · rfl
      · congr 1
        omega
    subst hfin
    refine xctl ?_
    refine resg_end (ds := []) rfl ?_ ?_ ?_
    · rw [hr]; rfl
    · rw [hr]; simp [kb, kb.kbs]
    · exact kbH_imm (by simp [immH, SS_imm])
end Go.Proofs.YtnildflhdkdbiaaGreatDoorK.NatT
