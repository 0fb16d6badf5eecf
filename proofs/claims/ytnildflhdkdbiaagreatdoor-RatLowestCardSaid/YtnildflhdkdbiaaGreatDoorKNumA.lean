/-
  Package num: zero, made, Sign, Neg, Add, Cmp, Mul, Of: what they compute.
-/
import Derived.Test.YtnildflhdkdbiaaGreatDoorKIrNum
import Derived.Test.YtnildflhdkdbiaaGreatDoorKZm
import Derived.Test.YtnildflhdkdbiaaGreatDoorKNmT
set_option linter.all false
set_option linter.unusedVariables false
set_option linter.unusedSimpArgs false
set_option maxHeartbeats 4000000
namespace Go.Proofs.YtnildflhdkdbiaaGreatDoorK.NumT
open Go.Proofs.YtnildflhdkdbiaaGreatDoorK.AI Go.Proofs.YtnildflhdkdbiaaGreatDoorK.NatIr Go.Proofs.YtnildflhdkdbiaaGreatDoorK.Dig Go.Proofs.YtnildflhdkdbiaaGreatDoorK.NatT Go.Proofs.YtnildflhdkdbiaaGreatDoorK.LibT
set_option linter.unusedSimpArgs false
attribute [local irreducible] awp awpOps
attribute [local go_sem] getO putE_same putE_ne putE_none un0_at ini_zero ini_one ini_two ini_three ne_eq not_false_eq_true Nat.zero_ne_one Nat.one_ne_zero zero_ne_succ succ_ne_zero sym_nil sym_cons symG_call symG_op symG_skip IOp.isCall gd st_mv st_pick st_new st_box st_build st_lit st_load st_store st_faddr st_fld st_iaddrS st_iaddrA st_idxs st_bin st_beq st_neg st_not st_conv st_slcS st_slcL st_make st_app st_lenS st_lenL st_mx st_mn st_ext st_nilck pureC loadC setH hv boundO D.cells D.one D.boxable fillD putD rowD binC intBinC decT decF dec_true dec_false bne_self_eq_false beq_self_eq_true beq_true_false beq_false_true bne_iff_ne List.length_nil List.length_cons List.getD_cons_zero List.getD_cons_succ List.set_cons_zero List.set_cons_succ List.all_cons List.all_nil Bool.and_true Bool.true_and Nat.lt_irrefl Nat.sub_self Nat.zero_add Nat.add_zero Nat.mul_one Nat.lt_add_one if_true if_false List.replicate_zero List.nil_append List.cons_append List.append_nil List.map_cons List.map_nil Bool.false_eq_true or_self or_true true_or or_false false_or true_and and_true and_self Int.ofNat_zero wrap_i64 wrap_u32 wrap_u64 wrap_u8 wrap_u32_mod wrap_u64_mod Nat.zero_lt_one Int.toNat_natCast Int.sub_zero toNat_pred List.take_succ_cons List.take_zero List.drop_succ_cons List.drop_zero List.take_nil List.drop_nil Nat.le_refl List.length_singleton rvDs rvD ldD one? Option.bind_some Option.map_some resD_int resD_bool resD_str resD_sl resD_rp resD_nils resD_null resD_agg resD_tup resD_own rdOwn resD_ptr rdPtr rd_ite resL_eq go_nil go_cons D.imm resArgs shr32 shl32 Nat.zero_mul Bool.and_self Bool.and_false Bool.false_and strBin_eql strBin_neq Bool.not_true Bool.not_false i64max List.length_reverse List.length_set SS_length SS_getD SS_set SS_take SS_drop SS_imm SS_one SS_app1 W_get1 W_len1 W_getD W_set W_take W_drop W_app W_length W_imm W_one W_repl N mx_nat toNat_succ toNat_add toNat_pred2 tdiv_nn tmod_nn List.take_of_length_le cast_succ and_one or_shl32 min64 shr32b shl32b IntKind.bits
attribute [local go_sem] nl ZD
variable {G : World → Prop} {L M X Y : Nat} {x y z : Int} {d e : D}
theorem nm0 : Nm 0 0 (.agg [.sl 0 []]) := nm_in (L := 0) (a := []) rfl (ok_nil _) (Nat.le_refl _)
theorem beq_zero (X : Nat) : (cmpN X 0 == 0) = decide (X = 0) := by
  rw [← cmpN_zero]; rfl
theorem N_zero : N 0 = .agg [.sl 0 []] := by rw [N, wd_zero]; rfl
theorem nl_zero : nl 0 = .sl 0 [] := by rw [nl, wd_zero]; rfl
theorem ZD_zero : ZD 0 = .agg [.bool false, .sl 0 []] := by rw [ZD, show (0 : Int).natAbs = 0 from rfl, nl_zero]; rfl
theorem sign_sg (b : Bool) (X : Nat) : (sg b X).sign = if X = 0 then 0 else if b = true then -1 else 1 := by
  split
  · rename_i h; subst h; cases b <;> rfl
  · rename_i h
    cases b
    · exact Int.sign_eq_one_of_pos (by simp only [sg, Bool.false_eq_true, if_false]; omega)
    · exact Int.sign_eq_neg_one_of_neg (by simp only [sg, if_true]; omega)
theorem pcr_zero (hG : Stable G) (hx : Nm L X d) (h : L < 1000000) : PCr Tryz.prog G 104 [d] (.bool (decide (X = 0))) := by
  obtain ⟨n, cs, rfl⟩ := hx.un
  have hc := pcr_cmpN hG hx nm0 h (by omega)
  refine pcr_by hG (fn := Tryz.f104) (n := 7) (rv := [.tmp 2]) (by kernel_rfl) ok104 (by kernel_rfl) (by decide) (by kernel_rfl) (by simp) (by kernel_rfl) (fun r hr => ?_); unfold c104 st0
  refine xctl ?_
  refine xrg ?_
  refine xctl ?_
  refine xrg ?_; (refine xcf1 ?_; refine xcf (hc) rfl ?_)
  refine xrg ?_
  refine xctl ?_
  refine xrt ?_
  rw [hr, cmpN_zero]
theorem pcr_made (hG : Stable G) (b : Bool) (hx : Nm L X d) (h : L < 400000) : PCr Tryz.prog G 103 [.bool b, d] (ZD (sg b X)) := by
  obtain ⟨n, cs, rfl⟩ := hx.un
  have hc := pcr_addN hG hx nm0 (by omega) (by omega)
  rw [Nat.add_zero] at hc
  have hz := pcr_zero hG (nm_le hx (Nat.le_refl X)) (by omega)
  rw [ZD_sg]
  refine pcr_by hG (fn := Tryz.f103) (n := 16) (rv := [.cell 4 true 2]) (by kernel_rfl) ok103 (by kernel_rfl) (by decide) (by kernel_rfl) (by simp) (by kernel_rfl) (fun r hr => ?_); unfold c103 st0
  cases b
  · refine xctl ?_
    refine xrg ?_
    refine xctl ?_
    refine xrg ?_; (refine xca1 ?_; refine xca (hc) ?_)
    refine xrg ?_
    refine xctl ?_
    refine xrg ?_
    refine xctl ?_
    refine xdr ?_
    refine xctl ?_
    refine xrt ?_
    rw [hr]; rfl
  · refine xctl ?_
    refine xrg ?_
    refine xctl ?_
    refine xrg ?_; (refine xca1 ?_; refine xca (hc) ?_)
    refine xrg ?_
    refine xctl ?_
    refine xrg ?_; (refine xcgf1 ?_; refine xcf (hz) rfl ?_)
    refine xrg ?_
    refine xctl ?_
    refine xdr ?_
    refine xctl ?_
    refine xrt ?_
    rw [hr]
    simp only [Bool.true_and, decide_not]
    rfl
theorem pcr_sign (hG : Stable G) (hx : Zm L z d) (h : L < 400000) : PCr Tryz.prog G 35 [d] (.int .i64 z.sign) := by
  obtain ⟨b, X, e, hx, rfl, rfl⟩ := hx
  obtain ⟨n, cs, he⟩ := hx.un
  cases he
  have hz := pcr_zero hG hx (by omega)
  rw [sign_sg]
  refine pcr_by hG (fn := Tryz.f35) (n := 10) (rv := [.tmp 2]) (by kernel_rfl) ok35 (by kernel_rfl) (by decide) (by kernel_rfl) (by simp) (by kernel_rfl) (fun r hr => ?_); unfold c35 st0
  refine xctl ?_
  refine xrg ?_
  refine xctl ?_
  refine xrg ?_; (refine xcf1 ?_; refine xcf (hz) rfl ?_)
  refine xrg ?_
  refine xctl ?_
  refine xcs (fun hb => ?_) (fun hb => ?_)
  · have hb := of_decide_eq_true hb
    refine xctl ?_
    refine xrg ?_
    refine xctl ?_
    refine xrt ?_
    rw [hr, if_pos hb]
  · have hb := of_decide_eq_false hb
    rw [if_neg hb] at hr
    refine xctl ?_
    refine xrg ?_
    refine xctl ?_
    cases b
    · refine xcF ?_
      refine xctl ?_
      refine xrg ?_
      refine xctl ?_
      refine xrt ?_
      rw [hr]; rfl
    · refine xct ?_
      refine xctl ?_
      refine xrg ?_
      refine xctl ?_
      refine xrt ?_
      rw [hr]; rfl
theorem sg_not (b : Bool) (X : Nat) : sg (!b) X = -sg b X := by cases b <;> simp [sg]
theorem pcr_neg (hG : Stable G) (hx : Zm L z d) (h : L < 400000) : PCr Tryz.prog G 40 [d] (ZD (-z)) := by
  obtain ⟨b, X, e, hx, rfl, rfl⟩ := hx
  obtain ⟨n, cs, he⟩ := hx.un
  cases he
  have hm := pcr_made hG (!b) hx h
  rw [sg_not] at hm
  refine pcr_by hG (fn := Tryz.f40) (n := 9) (rv := [.cell 2 true 2]) (by kernel_rfl) ok40 (by kernel_rfl) (by decide) (by kernel_rfl) (by simp) (by kernel_rfl) (fun r hr => ?_); unfold c40 st0
  refine xctl ?_
  refine xrg ?_
  refine xctl ?_
  refine xrg ?_; (refine xca1 ?_; refine xca (hm) ?_)
  refine xrg ?_
  refine xctl ?_
  refine xrt ?_
  exact hr.symm
theorem pcr_add (hG : Stable G) (hx : Zm L x d) (hy : Zm M y e) (h1 : L < 300000) (h2 : M < 300000) : PCr Tryz.prog G 48 [d, e] (ZD (x + y)) := by
  obtain ⟨b, X, e1, hx, rfl, rfl⟩ := hx
  obtain ⟨c, Y, e2, hy, rfl, rfl⟩ := hy
  obtain ⟨n, cs, he⟩ := hx.un
  cases he
  obtain ⟨m, ds, he⟩ := hy.un
  cases he
  by_cases hbc : b = c
  · subst hbc
    have ha := pcr_addN hG hx hy (by omega) (by omega)
    have hm := pcr_made hG b (nm_add (hx.up (M := max L M) (by omega)) (hy.up (M := max L M) (by omega))) (by omega)
    have es : sg b (X + Y) = sg b X + sg b Y := by
      cases b
      · simp [sg]
      · simp [sg]; omega
    rw [es] at hm
    refine pcr_by hG (fn := Tryz.f48) (n := 47) (rv := [.cell 4 true 2]) (by kernel_rfl) ok48 (by kernel_rfl) (by decide) (by kernel_rfl) (by simp) (by kernel_rfl) (fun r hr => ?_); unfold c48 st0
    refine xctl ?_
    refine xrg ?_
    refine xctl ?_
    refine xrg ?_
    refine xctl ?_
    refine xct ?_
    refine xctl ?_
    refine xrg ?_; (refine xca1 ?_; refine xca (ha) ?_)
    refine xrg ?_; (refine xca1 ?_; refine xca (hm) ?_)
    refine xrg ?_
    refine xctl ?_
    refine xdr ?_
    refine xctl ?_
    refine xrt ?_
    exact hr.symm
  · have hb : (b == c) = false := by simpa using hbc
    have hs := pcr_subN hG hx hy (by omega) (by omega)
    by_cases hle : Y ≤ X
    · have hm := pcr_made hG b (nm_le hx (Nat.sub_le X Y)) (by omega)
      have es : sg b (X - Y) = sg b X + sg c Y := by cases b <;> cases c <;> simp [sg] at * <;> omega
      rw [es] at hm
      rw [decide_eq_true hle] at hs
      refine pcr_by hG (fn := Tryz.f48) (n := 47) (rv := [.cell 4 true 2]) (by kernel_rfl) ok48 (by kernel_rfl) (by decide) (by kernel_rfl) (by simp) (by kernel_rfl) (fun r hr => ?_); unfold c48 st0
      refine xctl ?_
      refine xrg ?_
      refine xctl ?_
      refine xrg ?_
      refine xctl ?_
      refine xcF ?_ (by simp only [go_sem, Nat.reduceEqDiff, Nat.reduceAdd, Nat.reduceLT, Nat.reduceMul, Nat.reduceLeDiff, reduceCtorEq, Int.reduceNeg, Int.reduceToNat]; rw [hb])
      refine xctl ?_
      refine xrg ?_
      refine xctl ?_
      refine xrg ?_; (refine xca1 ?_; refine xca (hs) ?_)
      refine xrg ?_
      refine xctl ?_
      refine xrg ?_
      refine xctl ?_
      refine xct ?_
      refine xctl ?_
      refine xrg ?_; (refine xca1 ?_; refine xca (hm) ?_)
      refine xrg ?_
      refine xctl ?_
      refine xrt ?_
      exact hr.symm
    · have hs2 := pcr_subN hG hy hx (by omega) (by omega)
      have hm := pcr_made hG c (nm_le hy (Nat.sub_le Y X)) (by omega)
      have es : sg c (Y - X) = sg b X + sg c Y := by cases b <;> cases c <;> simp [sg] at * <;> omega
      rw [es] at hm
      rw [decide_eq_false hle] at hs
      rw [decide_eq_true (show X ≤ Y by omega)] at hs2
      refine pcr_by hG (fn := Tryz.f48) (n := 47) (rv := [.cell 4 true 2]) (by kernel_rfl) ok48 (by kernel_rfl) (by decide) (by kernel_rfl) (by simp) (by kernel_rfl) (fun r hr => ?_); unfold c48 st0
      refine xctl ?_
      refine xrg ?_
      refine xctl ?_
      refine xrg ?_
      refine xctl ?_
      refine xcF ?_ (by simp only [go_sem, Nat.reduceEqDiff, Nat.reduceAdd, Nat.reduceLT, Nat.reduceMul, Nat.reduceLeDiff, reduceCtorEq, Int.reduceNeg, Int.reduceToNat]; rw [hb])
      refine xctl ?_
      refine xrg ?_
      refine xctl ?_
      refine xrg ?_; (refine xca1 ?_; refine xca (hs) ?_)
      refine xrg ?_
      refine xctl ?_
      refine xrg ?_
      refine xctl ?_
      refine xcF ?_
      refine xctl ?_
      refine xrg ?_
      refine xctl ?_
      refine xrg ?_; (refine xca1 ?_; refine xca (hs2) ?_)
      refine xrg ?_
      refine xctl ?_
      refine xrg ?_
      refine xctl ?_
      refine xrg ?_; (refine xca1 ?_; refine xca (hm) ?_)
      refine xrg ?_
      refine xctl ?_
      refine xrt ?_
      exact hr.symm
theorem pcr_cmp (hG : Stable G) (hx : Zm L x d) (hy : Zm M y e) (h1 : L < 300000) (h2 : M < 300000) : PCr Tryz.prog G 36 [d, e] (.int .i64 (x - y).sign) := by
  have hn := pcr_neg hG hy (by omega)
  have ha := pcr_add hG hx (zm_neg hy) h1 h2
  have hs := pcr_sign hG (zm_add hx (zm_neg hy)) (by omega)
  rw [← Int.sub_eq_add_neg] at ha hs
  obtain ⟨b, X, e1, hx, rfl, rfl⟩ := hx
  obtain ⟨c, Y, e2, hy, rfl, rfl⟩ := hy
  obtain ⟨n, cs, he⟩ := hx.un
  cases he
  obtain ⟨m, ds, he⟩ := hy.un
  cases he
  refine pcr_by hG (fn := Tryz.f36) (n := 10) (rv := [.tmp 4]) (by kernel_rfl) ok36 (by kernel_rfl) (by decide) (by kernel_rfl) (by simp) (by kernel_rfl) (fun r hr => ?_); unfold c36 st0
  refine xctl ?_
  refine xrg ?_
  refine xctl ?_
  refine xrg ?_; (refine xca1 ?_; refine xca (hn) ?_)
  refine xrg ?_; (refine xca1 ?_; refine xca (ha) ?_)
  refine xrg ?_; (refine xcf1 ?_; refine xcf (hs) rfl ?_)
  refine xrg ?_
  refine xctl ?_
  refine xdr ?_
  refine xctl ?_
  refine xrt ?_
  exact hr.symm
theorem pcr_mul (hG : Stable G) (hx : Zm L x d) (hy : Zm M y e) (h1 : L < 150000) (h2 : M < 150000) : PCr Tryz.prog G 50 [d, e] (ZD (x * y)) := by
  obtain ⟨b, X, e1, hx, rfl, rfl⟩ := hx
  obtain ⟨c, Y, e2, hy, rfl, rfl⟩ := hy
  obtain ⟨n, cs, he⟩ := hx.un
  cases he
  obtain ⟨m, ds, he⟩ := hy.un
  cases he
  have ha := pcr_mulN hG hx hy (by omega) (by omega)
  have hm := pcr_made hG (!(b == c)) (nm_mul hx hy) (by omega)
  have es : sg (!(b == c)) (X * Y) = sg b X * sg c Y := by
    have : ((X * Y : Nat) : Int) = X * Y := Int.natCast_mul X Y
    cases b <;> cases c <;> simp [sg, Int.mul_neg, Int.neg_mul, this]
  rw [es] at hm
  refine pcr_by hG (fn := Tryz.f50) (n := 16) (rv := [.cell 4 true 2]) (by kernel_rfl) ok50 (by kernel_rfl) (by decide) (by kernel_rfl) (by simp) (by kernel_rfl) (fun r hr => ?_); unfold c50 st0
  refine xctl ?_
  refine xrg ?_
  refine xctl ?_
  refine xrg ?_; (refine xca1 ?_; refine xca (ha) ?_)
  refine xrg ?_; (refine xca1 ?_; refine xca (hm) ?_)
  refine xrg ?_
  refine xctl ?_
  refine xdr ?_
  refine xctl ?_
  refine xrt ?_
  exact hr.symm
end Go.Proofs.YtnildflhdkdbiaaGreatDoorK.NumT
