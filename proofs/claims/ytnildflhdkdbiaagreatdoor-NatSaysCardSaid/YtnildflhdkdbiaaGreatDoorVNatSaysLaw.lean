/-
  cubitlaw1.NatSays answers true.
-/
import Derived.Test.YtnildflhdkdbiaaGreatDoorVIrLNatSays
import Derived.Test.YtnildflhdkdbiaaGreatDoorVAwakeE1
import Derived.Test.YtnildflhdkdbiaaGreatDoorVIsL1
import Derived.Test.YtnildflhdkdbiaaGreatDoorVRefG
set_option linter.all false
set_option linter.unusedVariables false
set_option linter.unusedSimpArgs false
set_option maxHeartbeats 4000000
namespace Go.Proofs.YtnildflhdkdbiaaGreatDoorV.LawT1
open Go.Proofs.YtnildflhdkdbiaaGreatDoorV.AI Go.Proofs.YtnildflhdkdbiaaGreatDoorV.NatIr Go.Proofs.YtnildflhdkdbiaaGreatDoorV.Dig Go.Proofs.YtnildflhdkdbiaaGreatDoorV.LibT Go.Proofs.YtnildflhdkdbiaaGreatDoorV.NatT Go.Proofs.YtnildflhdkdbiaaGreatDoorV.RefT
set_option linter.unusedSimpArgs false
attribute [local irreducible] awp awpOps
attribute [local go_sem] getO putE_same putE_ne putE_none un0_at ini_zero ini_one ini_two ini_three ne_eq not_false_eq_true Nat.zero_ne_one Nat.one_ne_zero zero_ne_succ succ_ne_zero sym_nil sym_cons symG_call symG_op symG_skip IOp.isCall gd st_mv st_pick st_new st_box st_build st_lit st_load st_store st_faddr st_fld st_iaddrS st_iaddrA st_idxs st_bin st_beq st_neg st_not st_conv st_slcS st_slcL st_make st_app st_lenS st_lenL st_mx st_mn st_ext st_nilck st_bstr byD pureC loadC setH hv boundO D.cells D.one D.boxable fillD putD rowD binC intBinC decT decF dec_true dec_false bne_self_eq_false beq_self_eq_true beq_true_false beq_false_true bne_iff_ne List.length_nil List.length_cons List.getD_cons_zero List.getD_cons_succ List.set_cons_zero List.set_cons_succ List.all_cons List.all_nil Bool.and_true Bool.true_and Nat.lt_irrefl Nat.sub_self Nat.zero_add Nat.add_zero Nat.mul_one Nat.lt_add_one if_true if_false List.replicate_zero List.nil_append List.cons_append List.append_nil List.map_cons List.map_nil Bool.false_eq_true or_self or_true true_or or_false false_or true_and and_true and_self Int.ofNat_zero wrap_i64 wrap_u32 wrap_u64 wrap_u8 wrap_u32_mod wrap_u64_mod Nat.zero_lt_one Int.toNat_natCast Int.sub_zero toNat_pred List.take_succ_cons List.take_zero List.drop_succ_cons List.drop_zero List.take_nil List.drop_nil Nat.le_refl List.length_singleton rvDs rvD ldD one? Option.bind_some Option.map_some resD_int resD_bool resD_str resD_sl resD_rp resD_nils resD_null resD_agg resD_tup resD_own rdOwn resD_ptr rdPtr rd_ite resL_eq go_nil go_cons D.imm resArgs shr32 shl32 Nat.zero_mul Bool.and_self Bool.and_false Bool.false_and strBin_eql strBin_neq Bool.not_true Bool.not_false i64max List.length_reverse List.length_set SS_length SS_getD SS_set SS_take SS_drop SS_imm SS_one SS_app1 W_get1 W_len1 W_getD W_set W_take W_drop W_app W_length W_imm W_one W_repl N mx_nat toNat_succ toNat_add toNat_pred2 tdiv_nn tmod_nn List.take_of_length_le cast_succ and_one or_shl32 min64 shr32b shl32b IntKind.bits
attribute [local go_sem] V_getD V_set V_take V_drop V_imm V_one V_app V_app1 V_repl V_get1 V_length M List.length_append
attribute [local go_sem] not_true_eq_false not_false_eq_true
variable {G : World → Prop}
set_option maxHeartbeats 8000000 in
theorem pcr_says_law (hG : Stable G) (hT : ∀ w, G w → Lib.TabIs Tryz.prog w "internal/strconv.uint64pow10" .u64 Lib.pow10Tab) (hM : ∀ w, G w → LibT.gMax w) (a : List Int) (n : Nat) (hn : n = a.length)
    (ha : ok 4294967296 a) (hla : a.length ≤ 9223372036854775807) (b : List Int) (m : Nat) (hm : m = b.length)
    (hb : ok 4294967296 b) (hlb : b.length ≤ 9223372036854775807) :
    PCr Tryz.prog G 3 [.sl n (W a), .sl m (W b)] (.bool true) := by
  refine pcr_by hG (fn := Tryz.f3) (n := 153) (rv := [.tmp 4]) (by kernel_rfl) ok3 (by kernel_rfl) (by decide) (by kernel_rfl) (by simp) (by kernel_rfl) (fun r hr => ?_); unfold c3 st0
  (refine xctl ?_); refine xrg ?_; (refine xctl ?_); refine xrg ?_; (refine xca1 ?_; refine xca (pcr_awake hG hT hM) ?_); refine xrg ?_; (refine xctl ?_); refine xcF ?_; (refine xctl ?_)
  by_cases h24 : n ≤ 24 ∧ m ≤ 24
  · refine xrg ?_; (refine xctl ?_); refine xcF ?_; (refine xctl ?_); refine xrg ?_; (refine xctl ?_)
    have hx := nm_in (L := 24) hn ha (by omega)
    have hy := nm_in (L := 24) hm hb (by omega)
    have hw1 := pcr_words hG a n hn ha (by omega)
    have hw2 := pcr_words hG b m hm hb (by omega)
    generalize hX : vl 4294967296 a = X at *
    generalize hY : vl 4294967296 b = Y at *
    have hxl := hx.lt
    have hyl := hy.lt
    have hX4 := wd4_len hxl
    have hY4 := wd4_len hyl
    have hsl : X - Y < 4294967296 ^ 24 := by omega
    have hql : X / Y < 4294967296 ^ 24 := Nat.lt_of_le_of_lt (Nat.div_le_self _ _) hxl
    have hrl : X % Y < 4294967296 ^ 24 := Nat.lt_of_le_of_lt (Nat.mod_le _ _) hxl
    have hgl : Nat.gcd X Y < 4294967296 ^ 24 := by
      rcases Nat.eq_zero_or_pos Y with h | h
      · rw [h, Nat.gcd_zero_right]; exact hxl
      · exact Nat.lt_of_le_of_lt (Nat.gcd_le_right X h) hyl
    have hal := (nm_add hx hy).lt
    have hml := (nm_mul hx hy).lt
    have hcm := pcr_rcmp hG X Y (by omega) (by omega)
    have hcn := pcr_cmpN hG hx hy (by omega) (by omega)
    have i1 := pcr_is hG hsl (by omega)
    have i2 := pcr_is hG hql (by omega)
    have i3 := pcr_is hG hrl (by omega)
    have i4 := pcr_is hG hgl (by omega)
    have i5 := pcr_is hG hal (by omega)
    have i6 := pcr_is hG hml (by omega)
    have fin : ∀ (r : D), r = .bool true → r = .bool true := fun _ h => h
    by_cases hle : Y ≤ X
    · have hge : 0 ≤ cmpN X Y := by unfold cmpN; split <;> (try split) <;> omega
      have hsb := pcr_subN hG hx hy (by omega) (by omega)
      rw [decide_eq_true hle] at hsb
      by_cases h0 : Y = 0
      · have hY0 : (wd 10000 Y).length = 0 := by rw [h0, wd_zero]; rfl
        have hW0 : (wd 4294967296 0).length = 0 := by rw [wd_zero]; rfl
        refine xrg ?_; (refine xca1 ?_; refine xca (hw1) ?_)
        refine xrg ?_; (refine xca1 ?_; refine xca (hw2) ?_)
        refine xrg ?_
        refine xctl ?_
        refine xrg ?_; (refine xca1 ?_; refine xca (hsb) ?_)
        refine xrg ?_
        refine xctl ?_
        refine xrg ?_; (refine xcf1 ?_; refine xcf (hcm) rfl ?_)
        refine xrg ?_
        refine xctl ?_
        refine xrg ?_; (refine xcga1 ?_; refine xca (pcr_rsub hG X Y hle (by omega)) ?_)
        refine xrg ?_; (refine xcgf1 ?_; refine xcf (i1) rfl ?_)
        refine xrg ?_
        refine xctl ?_
        refine xdr ?_
        refine xctl ?_
        refine xcF ?_
        refine xctl ?_
        refine xrg ?_; (refine xca1 ?_; refine xca (pcr_div0 hG hx (h0 ▸ hy) (by omega) (by omega)) ?_)
        refine xrg ?_
        refine xctl ?_
        refine ops_sym (by simp (disch := omega) only [go_sem, Nat.reduceEqDiff, Nat.reduceAdd, Nat.reduceLT, Nat.reduceMul, Nat.reduceLeDiff, reduceCtorEq, Int.reduceNeg, Int.reduceToNat, hW0]; rfl) (by first | with_reducible exact True.intro | omega) ?_
        refine xctl ?_
        refine xcF ?_
        refine xctl ?_
        refine xrg ?_
        refine xctl ?_
        refine xcF ?_
        refine xctl ?_
        refine xrg ?_; (refine xcf1 ?_; refine xcf (hcn) rfl ?_)
        refine xrg ?_; (refine xcf1 ?_; refine xcf (hcm) rfl ?_)
        refine xrg ?_; (refine xcga1 ?_; refine xca (pcr_addN hG hx hy (by omega) (by omega)) ?_)
        refine xrg ?_; (refine xcga1 ?_; refine xca (pcr_radd hG X Y (by omega) (by omega)) ?_)
        refine xrg ?_; (refine xcgf1 ?_; refine xcf (i5) rfl ?_)
        refine xrg ?_; (refine xcga1 ?_; refine xca (pcr_mulN hG hx hy (by omega) (by omega)) ?_)
        refine xrg ?_; (refine xcga1 ?_; refine xca (pcr_rmul hG X Y (by omega) (by omega)) ?_)
        refine xrg ?_; (refine xcgf1 ?_; refine xcf (i6) rfl ?_)
        refine xrg ?_; (refine xcgf1 ?_; refine xcf (pcr_textN hG hT hx (by omega)) rfl ?_)
        refine xrg ?_; (refine xcgf1 ?_; refine xcf (pcr_rtext hG X (by omega)) rfl ?_)
        refine xrg ?_; (refine xcga1 ?_; refine xca (pcr_gcdN hG hx hy (by omega) (by omega)) ?_)
        refine xrg ?_; (refine xcga1 ?_; refine xca (pcr_rgcd hG X Y (by omega) (by omega)) ?_)
        refine xrg ?_; (refine xcgf1 ?_; refine xcf (i4) rfl ?_)
        refine xrg ?_; (refine xctl ?_); refine xrt ?_; exact hr.symm
      · have hY0 := wd4_pos h0
        refine xrg ?_; (refine xca1 ?_; refine xca (hw1) ?_)
        refine xrg ?_; (refine xca1 ?_; refine xca (hw2) ?_)
        refine xrg ?_
        refine xctl ?_
        refine xrg ?_; (refine xca1 ?_; refine xca (hsb) ?_)
        refine xrg ?_
        refine xctl ?_
        refine xrg ?_; (refine xcf1 ?_; refine xcf (hcm) rfl ?_)
        refine xrg ?_
        refine xctl ?_
        refine xrg ?_; (refine xcga1 ?_; refine xca (pcr_rsub hG X Y hle (by omega)) ?_)
        refine xrg ?_; (refine xcgf1 ?_; refine xcf (i1) rfl ?_)
        refine xrg ?_
        refine xctl ?_
        refine xdr ?_
        refine xctl ?_
        refine xcF ?_
        refine xctl ?_
        refine xrg ?_; (refine xca1 ?_; refine xca (pcr_divN hG hx hy (by omega) (by omega) h0) ?_)
        refine xrg ?_
        refine xctl ?_
        refine xrg ?_
        refine xctl ?_
        refine xcF ?_
        refine xctl ?_
        refine xrg ?_
        refine xctl ?_
        refine xct ?_
        refine xctl ?_
        refine xrg ?_; (refine xca1 ?_; refine xca (pcr_rdiv hG X Y h0 (by omega) (by omega)) ?_)
        refine xrg ?_
        refine xctl ?_
        refine xrg ?_; (refine xcf1 ?_; refine xcf (i2) rfl ?_)
        refine xrg ?_; (refine xcgf1 ?_; refine xcf (i3) rfl ?_)
        refine xrg ?_
        refine xctl ?_
        refine xcF ?_
        refine xctl ?_
        refine xrg ?_; (refine xcf1 ?_; refine xcf (hcn) rfl ?_)
        refine xrg ?_; (refine xcf1 ?_; refine xcf (hcm) rfl ?_)
        refine xrg ?_; (refine xcga1 ?_; refine xca (pcr_addN hG hx hy (by omega) (by omega)) ?_)
        refine xrg ?_; (refine xcga1 ?_; refine xca (pcr_radd hG X Y (by omega) (by omega)) ?_)
        refine xrg ?_; (refine xcgf1 ?_; refine xcf (i5) rfl ?_)
        refine xrg ?_; (refine xcga1 ?_; refine xca (pcr_mulN hG hx hy (by omega) (by omega)) ?_)
        refine xrg ?_; (refine xcga1 ?_; refine xca (pcr_rmul hG X Y (by omega) (by omega)) ?_)
        refine xrg ?_; (refine xcgf1 ?_; refine xcf (i6) rfl ?_)
        refine xrg ?_; (refine xcgf1 ?_; refine xcf (pcr_textN hG hT hx (by omega)) rfl ?_)
        refine xrg ?_; (refine xcgf1 ?_; refine xcf (pcr_rtext hG X (by omega)) rfl ?_)
        refine xrg ?_; (refine xcga1 ?_; refine xca (pcr_gcdN hG hx hy (by omega) (by omega)) ?_)
        refine xrg ?_; (refine xcga1 ?_; refine xca (pcr_rgcd hG X Y (by omega) (by omega)) ?_)
        refine xrg ?_; (refine xcgf1 ?_; refine xcf (i4) rfl ?_)
        refine xrg ?_; (refine xctl ?_); refine xrt ?_; exact hr.symm
    · have hge : ¬ 0 ≤ cmpN X Y := by unfold cmpN; split <;> (try split) <;> omega
      have h0 : Y ≠ 0 := by omega
      have hY0 := wd4_pos h0
      have hsb := pcr_subN hG hx hy (by omega) (by omega)
      rw [decide_eq_false hle, show X - Y = 0 by omega, N, wd_zero] at hsb
      refine xrg ?_; (refine xca1 ?_; refine xca (hw1) ?_)
      refine xrg ?_; (refine xca1 ?_; refine xca (hw2) ?_)
      refine xrg ?_
      refine xctl ?_
      refine xrg ?_; (refine xca1 ?_; refine xca (hsb) ?_)
      refine xrg ?_
      refine xctl ?_
      refine xrg ?_; (refine xcf1 ?_; refine xcf (hcm) rfl ?_)
      refine xrg ?_
      refine xctl ?_
      refine xrg ?_
      refine xctl ?_
      refine xdr ?_
      refine xctl ?_
      refine xcF ?_
      refine xctl ?_
      refine xrg ?_; (refine xca1 ?_; refine xca (pcr_divN hG hx hy (by omega) (by omega) h0) ?_)
      refine xrg ?_
      refine xctl ?_
      refine xrg ?_
      refine xctl ?_
      refine xcF ?_
      refine xctl ?_
      refine xrg ?_
      refine xctl ?_
      refine xct ?_
      refine xctl ?_
      refine xrg ?_; (refine xca1 ?_; refine xca (pcr_rdiv hG X Y h0 (by omega) (by omega)) ?_)
      refine xrg ?_
      refine xctl ?_
      refine xrg ?_; (refine xcf1 ?_; refine xcf (i2) rfl ?_)
      refine xrg ?_; (refine xcgf1 ?_; refine xcf (i3) rfl ?_)
      refine xrg ?_
      refine xctl ?_
      refine xcF ?_
      refine xctl ?_
      refine xrg ?_; (refine xcf1 ?_; refine xcf (hcn) rfl ?_)
      refine xrg ?_; (refine xcf1 ?_; refine xcf (hcm) rfl ?_)
      refine xrg ?_; (refine xcga1 ?_; refine xca (pcr_addN hG hx hy (by omega) (by omega)) ?_)
      refine xrg ?_; (refine xcga1 ?_; refine xca (pcr_radd hG X Y (by omega) (by omega)) ?_)
      refine xrg ?_; (refine xcgf1 ?_; refine xcf (i5) rfl ?_)
      refine xrg ?_; (refine xcga1 ?_; refine xca (pcr_mulN hG hx hy (by omega) (by omega)) ?_)
      refine xrg ?_; (refine xcga1 ?_; refine xca (pcr_rmul hG X Y (by omega) (by omega)) ?_)
      refine xrg ?_; (refine xcgf1 ?_; refine xcf (i6) rfl ?_)
      refine xrg ?_; (refine xcgf1 ?_; refine xcf (pcr_textN hG hT hx (by omega)) rfl ?_)
      refine xrg ?_; (refine xcgf1 ?_; refine xcf (pcr_rtext hG X (by omega)) rfl ?_)
      refine xrg ?_; (refine xcga1 ?_; refine xca (pcr_gcdN hG hx hy (by omega) (by omega)) ?_)
      refine xrg ?_; (refine xcga1 ?_; refine xca (pcr_rgcd hG X Y (by omega) (by omega)) ?_)
      refine xrg ?_; (refine xcgf1 ?_; refine xcf (i4) rfl ?_)
      refine xrg ?_; (refine xctl ?_); refine xrt ?_; exact hr.symm
  · by_cases h1 : n ≤ 24
    · have h2 : ¬ m ≤ 24 := fun h => h24 ⟨h1, h⟩
      refine xrg ?_; (refine xctl ?_); refine xct ?_; (refine xctl ?_); refine xrg ?_; (refine xctl ?_); refine xrt ?_; exact hr.symm
    · refine xrg ?_; (refine xctl ?_); refine xct ?_; (refine xctl ?_); refine xrg ?_; (refine xctl ?_); refine xrt ?_; exact hr.symm
end Go.Proofs.YtnildflhdkdbiaaGreatDoorV.LawT1
