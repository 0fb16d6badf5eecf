/-
  cubitlaw1.NatTexts answers true.
-/
import Derived.Test.YtnildflhdkdbiaaDoorKIrLNatTexts
import Derived.Test.YtnildflhdkdbiaaDoorKAwakeE1
import Derived.Test.YtnildflhdkdbiaaDoorKIsL1
set_option linter.all false
set_option linter.unusedVariables false
set_option linter.unusedSimpArgs false
set_option maxHeartbeats 4000000
namespace Go.Proofs.YtnildflhdkdbiaaDoorK.LawT1
open Go.Proofs.YtnildflhdkdbiaaDoorK.AI Go.Proofs.YtnildflhdkdbiaaDoorK.NatIr Go.Proofs.YtnildflhdkdbiaaDoorK.Dig Go.Proofs.YtnildflhdkdbiaaDoorK.LibT Go.Proofs.YtnildflhdkdbiaaDoorK.NatT Go.Proofs.YtnildflhdkdbiaaDoorK.RefT
set_option linter.unusedSimpArgs false
attribute [local irreducible] awp awpOps
attribute [local go_sem] getO putE_same putE_ne putE_none un0_at ini_zero ini_one ini_two ini_three ne_eq not_false_eq_true Nat.zero_ne_one Nat.one_ne_zero zero_ne_succ succ_ne_zero sym_nil sym_cons symG_call symG_op symG_skip IOp.isCall gd st_mv st_pick st_new st_box st_build st_lit st_load st_store st_faddr st_fld st_iaddrS st_iaddrA st_idxs st_bin st_beq st_neg st_not st_conv st_slcS st_slcL st_make st_app st_lenS st_lenL st_mx st_mn st_ext st_nilck pureC loadC setH hv boundO D.cells D.one D.boxable fillD putD rowD binC intBinC decT decF dec_true dec_false bne_self_eq_false beq_self_eq_true beq_true_false beq_false_true bne_iff_ne List.length_nil List.length_cons List.getD_cons_zero List.getD_cons_succ List.set_cons_zero List.set_cons_succ List.all_cons List.all_nil Bool.and_true Bool.true_and Nat.lt_irrefl Nat.sub_self Nat.zero_add Nat.add_zero Nat.mul_one Nat.lt_add_one if_true if_false List.replicate_zero List.nil_append List.cons_append List.append_nil List.map_cons List.map_nil Bool.false_eq_true or_self or_true true_or or_false false_or true_and and_true and_self Int.ofNat_zero wrap_i64 wrap_u32 wrap_u64 wrap_u8 wrap_u32_mod wrap_u64_mod Nat.zero_lt_one Int.toNat_natCast Int.sub_zero toNat_pred List.take_succ_cons List.take_zero List.drop_succ_cons List.drop_zero List.take_nil List.drop_nil Nat.le_refl List.length_singleton rvDs rvD ldD one? Option.bind_some Option.map_some resD_int resD_bool resD_str resD_sl resD_rp resD_nils resD_null resD_agg resD_tup resD_own rdOwn resD_ptr rdPtr rd_ite resL_eq go_nil go_cons D.imm resArgs shr32 shl32 Nat.zero_mul Bool.and_self Bool.and_false Bool.false_and strBin_eql strBin_neq Bool.not_true Bool.not_false i64max List.length_reverse List.length_set SS_length SS_getD SS_set SS_take SS_drop SS_imm SS_one SS_app1 W_get1 W_len1 W_getD W_set W_take W_drop W_app W_length W_imm W_one W_repl N mx_nat toNat_succ toNat_add toNat_pred2 tdiv_nn tmod_nn List.take_of_length_le cast_succ and_one or_shl32 min64 shr32b shl32b IntKind.bits
attribute [local go_sem] V_getD V_set V_take V_drop V_imm V_one V_app V_app1 V_repl V_get1 V_length M List.length_append
attribute [local go_sem] not_true_eq_false not_false_eq_true
variable {G : World → Prop}
set_option maxHeartbeats 8000000 in
theorem pcr_texts_law (hG : Stable G) (hT : ∀ w, G w → Lib.TabIs Tryd.prog w "internal/strconv.uint64pow10" .u64 Lib.pow10Tab) (hM : ∀ w, G w → LibT.gMax w) (s : ByteArray) (hs : s.size ≤ 9223372036854775807) (a : List Int) (n : Nat) (hn : n = a.length)
    (ha : ok 4294967296 a) (hla : a.length ≤ 9223372036854775807) (k : Int) (hk : -9223372036854775808 ≤ k ∧ k ≤ 9223372036854775807) :
    PCr Tryd.prog G 3 [.str s, .sl n (W a), .int .i64 k] (.bool true) := by
  refine pcr_by hG (fn := Tryd.f3) (n := 85) (rv := [.tmp 6]) (by kernel_rfl) ok3 (by kernel_rfl) (by decide) (by kernel_rfl) (by simp) (by kernel_rfl) (fun r hr => ?_); unfold c3 st0
  (refine xctl ?_); refine xrg ?_; (refine xctl ?_); refine xrg ?_; (refine xca1 ?_; refine xca (pcr_awake hG hT hM) ?_); refine xrg ?_; (refine xctl ?_); refine xcF ?_; (refine xctl ?_)
  by_cases h24 : s.size ≤ 200 ∧ n ≤ 8 ∧ k ≤ 30
  · refine xrg ?_
    refine xctl ?_
    refine xcF ?_
    refine xctl ?_
    have hx := nm_in (L := 8) hn ha (by omega)
    have hwd := pcr_words hG a n hn ha (by omega)
    generalize hX : vl 4294967296 a = X at *
    have hxl := hx.lt
    have hp := nm_pow hx k.toNat
    have hM8 := wd4_len hxl
    have hN0 : N 0 = .agg [.sl 0 []] := by rw [N, wd_zero]; rfl
    by_cases hd : s.size ≠ 0 ∧ allD s = true
    · have hp1 := pcr_parse hG s (by omega) hd.1 hd.2
      have hp2 := pcr_rparse hG s (by omega) hd.2
      rw [decide_eq_true hd.1] at hp2
      have hvl : decV s.data.toList < 4294967296 ^ 200 := by
        have h1 := decV_lt s.data.toList (allD_iff.1 hd.2)
        refine Nat.lt_of_lt_of_le h1 (Nat.le_trans (Nat.pow_le_pow_left (show 10 ≤ 4294967296 by omega) _) (Nat.pow_le_pow_right (by omega) (by rw [ba_len]; omega)))
      generalize decV s.data.toList = Z at *
      refine xrg ?_; (refine xca1 ?_; refine xca (hp1) ?_)
      refine xrg ?_
      refine xctl ?_
      refine xrg ?_; (refine xca1 ?_; refine xca (hp2) ?_)
      refine xrg ?_
      refine xctl ?_
      refine xrg ?_; (refine xcgf1 ?_; refine xcf (pcr_is hG hvl (by omega)) rfl ?_)
      refine xrg ?_
      refine xctl ?_
      refine xcF ?_
      refine xctl ?_
      refine xrg ?_
      refine xctl ?_
      refine xrg ?_; (refine xca1 ?_; refine xca (pcr_textN hG hT hx (by omega)) ?_)
      refine xrg ?_; (refine xca1 ?_; refine xca (pcr_parse_text hG hxl (by omega)) ?_)
      refine xrg ?_
      refine xctl ?_
      refine xrg ?_; (refine xcga1 ?_; refine xca (hwd) ?_)
      refine xrg ?_; (refine xcgf1 ?_; refine xcf (pcr_is hG hxl (by omega)) rfl ?_)
      refine xrg ?_; (refine xcga1 ?_; refine xca (pcr_powN hG hx k (by omega) (by omega)) ?_)
      refine xrg ?_; (refine xcga1 ?_; refine xca (hwd) ?_)
      refine xrg ?_; (refine xcga1 ?_; refine xca (pcr_rpow hG X k (by omega) (by omega)) ?_)
      refine xrg ?_; (refine xcgf1 ?_; refine xcf (pcr_is hG hp.lt (by omega)) rfl ?_)
      refine xrg ?_; (refine xctl ?_); refine xdr ?_; (refine xctl ?_); refine xrt ?_; exact hr.symm
    · have hp1 := pcr_parse_not hG s (by omega) (by
        by_cases h0 : s.size = 0
        · exact .inl h0
        · refine .inr ?_
          cases h1 : allD s with
          | false => rfl
          | true => exact absurd ⟨h0, h1⟩ hd)
      have hp2 : PCr Tryd.prog G 9 [.str s] (.tup [M 0, .bool false]) := by
        cases h1 : allD s with
        | false => exact pcr_rparse_not hG s (by omega) h1
        | true =>
          have h0 : s.size = 0 := Classical.byContradiction fun h => hd ⟨h, h1⟩
          have h2 := pcr_rparse hG s (by omega) h1
          rwa [ba_nil h0, show decV (⟨#[]⟩ : ByteArray).data.toList = 0 from rfl, show decide ((⟨#[]⟩ : ByteArray).size ≠ 0) = false from rfl, ← ba_nil h0] at h2
      rw [hN0] at hp1
      refine xrg ?_; (refine xca1 ?_; refine xca (hp1) ?_)
      refine xrg ?_
      refine xctl ?_
      refine xrg ?_; (refine xca1 ?_; refine xca (hp2) ?_)
      refine xrg ?_
      refine xctl ?_
      refine xrg ?_
      refine xctl ?_
      refine xcF ?_
      refine xctl ?_
      refine xrg ?_
      refine xctl ?_
      refine xrg ?_; (refine xca1 ?_; refine xca (pcr_textN hG hT hx (by omega)) ?_)
      refine xrg ?_; (refine xca1 ?_; refine xca (pcr_parse_text hG hxl (by omega)) ?_)
      refine xrg ?_
      refine xctl ?_
      refine xrg ?_; (refine xcga1 ?_; refine xca (hwd) ?_)
      refine xrg ?_; (refine xcgf1 ?_; refine xcf (pcr_is hG hxl (by omega)) rfl ?_)
      refine xrg ?_; (refine xcga1 ?_; refine xca (pcr_powN hG hx k (by omega) (by omega)) ?_)
      refine xrg ?_; (refine xcga1 ?_; refine xca (hwd) ?_)
      refine xrg ?_; (refine xcga1 ?_; refine xca (pcr_rpow hG X k (by omega) (by omega)) ?_)
      refine xrg ?_; (refine xcgf1 ?_; refine xcf (pcr_is hG hp.lt (by omega)) rfl ?_)
      refine xrg ?_; (refine xctl ?_); refine xdr ?_; (refine xctl ?_); refine xrt ?_; exact hr.symm
  · by_cases h1 : s.size ≤ 200
    · by_cases h2 : n ≤ 8
      · have h3 : ¬ k ≤ 30 := fun h => h24 ⟨h1, h2, h⟩
        refine xrg ?_; (refine xctl ?_); refine xct ?_; (refine xctl ?_); refine xrg ?_; (refine xctl ?_); refine xrt ?_; exact hr.symm
      · refine xrg ?_; (refine xctl ?_); refine xct ?_; (refine xctl ?_); refine xrg ?_; (refine xctl ?_); refine xrt ?_; exact hr.symm
    · refine xrg ?_; (refine xctl ?_); refine xct ?_; (refine xctl ?_); refine xrg ?_; (refine xctl ?_); refine xrt ?_; exact hr.symm
end Go.Proofs.YtnildflhdkdbiaaDoorK.LawT1
