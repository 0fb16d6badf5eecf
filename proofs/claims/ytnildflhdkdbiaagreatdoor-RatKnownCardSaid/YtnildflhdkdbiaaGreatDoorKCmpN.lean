/-
  nat.Cmp: what it computes.
-/
import Derived.Test.YtnildflhdkdbiaaGreatDoorKIrNat
import Derived.Test.YtnildflhdkdbiaaGreatDoorKNatA
set_option linter.all false
set_option linter.unusedVariables false
set_option linter.unusedSimpArgs false
set_option maxHeartbeats 4000000
namespace Go.Proofs.YtnildflhdkdbiaaGreatDoorK.NatT
open Go.Proofs.YtnildflhdkdbiaaGreatDoorK.AI Go.Proofs.YtnildflhdkdbiaaGreatDoorK.NatIr Go.Proofs.YtnildflhdkdbiaaGreatDoorK.Dig
set_option linter.unusedSimpArgs false
attribute [local irreducible] awp awpOps
attribute [local go_sem] getO putE_same putE_ne putE_none un0_at ini_zero ini_one ini_two ini_three ne_eq not_false_eq_true Nat.zero_ne_one Nat.one_ne_zero zero_ne_succ succ_ne_zero sym_nil sym_cons symG_call symG_op symG_skip IOp.isCall gd st_mv st_pick st_new st_box st_build st_lit st_load st_store st_faddr st_fld st_iaddrS st_iaddrA st_idxs st_bin st_beq st_neg st_not st_conv st_slcS st_slcL st_make st_app st_lenS st_lenL st_mx st_mn st_ext st_nilck pureC loadC setH hv boundO D.cells D.one D.boxable fillD putD rowD binC intBinC decT decF dec_true dec_false bne_self_eq_false beq_self_eq_true beq_true_false beq_false_true bne_iff_ne List.length_nil List.length_cons List.getD_cons_zero List.getD_cons_succ List.set_cons_zero List.set_cons_succ List.all_cons List.all_nil Bool.and_true Bool.true_and Nat.lt_irrefl Nat.sub_self Nat.zero_add Nat.add_zero Nat.mul_one Nat.lt_add_one if_true if_false List.replicate_zero List.nil_append List.cons_append List.append_nil List.map_cons List.map_nil Bool.false_eq_true or_self or_true true_or or_false false_or true_and and_true and_self Int.ofNat_zero wrap_i64 wrap_u32 wrap_u64 wrap_u8 wrap_u32_mod wrap_u64_mod Nat.zero_lt_one Int.toNat_natCast Int.sub_zero toNat_pred List.take_succ_cons List.take_zero List.drop_succ_cons List.drop_zero List.take_nil List.drop_nil Nat.le_refl List.length_singleton rvDs rvD ldD one? Option.bind_some Option.map_some resD_int resD_bool resD_str resD_sl resD_rp resD_nils resD_null resD_agg resD_tup resD_own rdOwn resD_ptr rdPtr rd_ite resL_eq go_nil go_cons D.imm resArgs shr32 shl32 Nat.zero_mul Bool.and_self Bool.and_false Bool.false_and strBin_eql strBin_neq Bool.not_true Bool.not_false i64max List.length_reverse List.length_set SS_length SS_getD SS_set SS_take SS_drop SS_imm SS_one SS_app1 W_get1 W_len1 W_getD W_set W_take W_drop W_app W_length W_imm W_one W_repl N mx_nat toNat_succ toNat_add toNat_pred2 tdiv_nn tmod_nn List.take_of_length_le cast_succ and_one or_shl32 min64 shr32b shl32b IntKind.bits
variable {G : World → Prop}
theorem wd_len_small {l : List Int} (hok : ok 4294967296 l) : (wd 4294967296 (vl 4294967296 l)).length ≤ l.length := wd_length_le (by omega) (vl_lt hok)
theorem pcr_cmp (hG : Stable G) (a b : List Int) (n m : Nat) (hn : n = a.length) (hm : m = b.length) (ha : ok 4294967296 a) (hb : ok 4294967296 b) (hla : a.length < 1000000) (hlb : b.length < 1000000) :
    PCr Tryz.prog G 21 [.agg [.sl n (W a)], .agg [.sl m (W b)]] (.int .i64 (cmpN (vl 4294967296 a) (vl 4294967296 b))) := by
  refine pcr_by hG (fn := Tryz.f21) (n := 53) (rv := [.tmp 4]) (by kernel_rfl) ok21 (by kernel_rfl) (by decide) (by kernel_rfl) (by simp) (by kernel_rfl) (fun r hr => ?_); unfold c21 st0
  refine xctl ?_
  refine xrg ?_
  refine xctl ?_
  refine xrg ?_
  refine xca1 ?_; refine xca (pcr_trim hG a n hn ha hla) ?_
  refine xrg ?_
  refine xca1 ?_; refine xca (pcr_trim hG b m hm hb hlb) ?_
  refine xrg ?_
  refine xctl ?_
  refine xdr ?_
  refine xctl ?_
  have hxa := ok_wd (B := 4294967296) (by omega) (vl 4294967296 a)
  have hxb := ok_wd (B := 4294967296) (by omega) (vl 4294967296 b)
  have hva := vl_wd (B := 4294967296) (by omega) (vl 4294967296 a)
  have hvb := vl_wd (B := 4294967296) (by omega) (vl 4294967296 b)
  have h1 := wd_len_small ha
  have h2 := wd_len_small hb
  have hless := @wd_less 4294967296 (by omega) (vl 4294967296 a) (vl 4294967296 b)
  have hless' := @wd_less 4294967296 (by omega) (vl 4294967296 b) (vl 4294967296 a)
  have hinj := @wd_inj 4294967296 (by omega) (vl 4294967296 a) (vl 4294967296 b)
  generalize wd 4294967296 (vl 4294967296 a) = x at *
  generalize wd 4294967296 (vl 4294967296 b) = y at *
  have hlx : x.length < 1000000 := by omega
  have hly : y.length < 1000000 := by omega
  refine xrg ?_
  refine xctl ?_
  refine xcs (fun hb => ?_) (fun hb => ?_)
  · have hb := of_decide_eq_true hb
    refine xctl ?_
    refine xrg ?_
    refine xcf1 ?_; refine xcf (pcr_order hG _) rfl ?_
    refine xrg ?_
    refine xctl ?_
    refine xrt ?_
    rw [hr, cmpN]
    by_cases hlt : x.length < y.length
    · rw [if_pos (hless hlt), if_pos (by simpa using hlt)]
    · have := hless' (by omega)
      rw [if_neg (show ¬ vl 4294967296 a < vl 4294967296 b by omega), if_neg (show ¬ vl 4294967296 a = vl 4294967296 b by omega), if_neg (by simpa using hlt)]
  · have hb := of_decide_eq_false hb
    have hlen : y.length = x.length := by omega
    refine xctl ?_
    refine xrg ?_
    refine xctl ?_
    refine awp_loop (fun n σ => n ≤ x.length ∧ x.drop n = y.drop n ∧ σ = ⟨putE (putE (putE un0 (some 5) (.sl x.length (W x))) (some 6) (.sl y.length (W y))) (some 7) (.int .i64 ((n : Int) - 1)), [none, none]⟩) x.length (Ent.st (less_put (less_put (less_put (less_un0 _) ?_) ?_) ?_) (by exact ⟨.inl rfl, .inl rfl, trivial⟩)) ⟨Nat.le_refl _, by rw [List.drop_length, ← hlen, List.drop_length], rfl⟩ ?_
    · simp only [go_sem, Nat.reduceEqDiff, Nat.reduceAdd, Nat.reduceLT, Nat.reduceMul, Nat.reduceLeDiff, reduceCtorEq, Int.reduceNeg, Int.reduceToNat]
    · simp only [go_sem, Nat.reduceEqDiff, Nat.reduceAdd, Nat.reduceLT, Nat.reduceMul, Nat.reduceLeDiff, reduceCtorEq, Int.reduceNeg, Int.reduceToNat]
    · simp only [go_sem, Nat.reduceEqDiff, Nat.reduceAdd, Nat.reduceLT, Nat.reduceMul, Nat.reduceLeDiff, reduceCtorEq, Int.reduceNeg, Int.reduceToNat]
    · rintro k σ1 ⟨hk, hdrop, rfl⟩
      refine xctl ?_
      refine xrg ?_
      refine xctl ?_
      refine xcs (fun hb => ?_) (fun hb => ?_)
      · have hb := of_decide_eq_true hb
        have hk1 : k - 1 + 1 = k := by omega
        have gx := ok_get hxa (by omega) (k - 1)
        have gy := ok_get hxb (by omega) (k - 1)
        refine xctl ?_
        refine xrg ?_
        refine xctl ?_
        refine xdr ?_
        refine xctl ?_
        refine xcs (fun hb => ?_) (fun hb => ?_)
        · have hb := of_decide_eq_true hb
          refine xctl ?_
          refine xrg ?_
          refine xcf1 ?_; refine xcf (pcr_order hG _) rfl ?_
          refine xrg ?_
          refine xctl ?_
          refine xdr ?_
          refine xctl ?_
          refine xrt ?_
          rw [hr, cmpN]
          by_cases hlt : x.getD (k - 1) 0 < y.getD (k - 1) 0
          · have := vl_less (B := 4294967296) (i := k - 1) (l := x) (m := y) hxa (by omega) (by omega) (by rw [hk1]; exact hdrop) (by omega)
            rw [if_pos (show vl 4294967296 a < vl 4294967296 b by omega), if_pos (decide_eq_true hlt)]
          · have := vl_less (B := 4294967296) (i := k - 1) (l := y) (m := x) hxb (by omega) (by omega) (by rw [hk1]; exact hdrop.symm) (by omega)
            rw [if_neg (show ¬ vl 4294967296 a < vl 4294967296 b by omega), if_neg (show ¬ vl 4294967296 a = vl 4294967296 b by omega), if_neg (by rw [decide_eq_true_eq]; exact hlt)]
        · have hb := of_decide_eq_false hb
          refine xctl ?_
          refine xrg ?_
          refine xctl ?_
          refine ⟨k - 1, _, by omega, Ent.env (less_put (less_put (less_put (less_un0 _) ?_) ?_) ?_), by omega, drop_step (by omega) (by omega) (by simpa using hb) (by rw [hk1]; exact hdrop), rfl⟩
          · simp only [go_sem, Nat.reduceEqDiff, Nat.reduceAdd, Nat.reduceLT, Nat.reduceMul, Nat.reduceLeDiff, reduceCtorEq, Int.reduceNeg, Int.reduceToNat]
          · simp only [go_sem, Nat.reduceEqDiff, Nat.reduceAdd, Nat.reduceLT, Nat.reduceMul, Nat.reduceLeDiff, reduceCtorEq, Int.reduceNeg, Int.reduceToNat]
          · simp only [go_sem, Nat.reduceEqDiff, Nat.reduceAdd, Nat.reduceLT, Nat.reduceMul, Nat.reduceLeDiff, reduceCtorEq, Int.reduceNeg, Int.reduceToNat]
            rw [show ((k - 1 : Nat) : Int) = (k : Int) - 1 by omega]
      · have hb := of_decide_eq_false hb
        refine xctl ?_
        refine xrg ?_
        refine xctl ?_
        refine xrt ?_
        have hk0 : k = 0 := by omega
        subst hk0
        have := hinj hdrop
        rw [hr, cmpN, if_neg (by omega), if_pos this]
end Go.Proofs.YtnildflhdkdbiaaGreatDoorK.NatT
