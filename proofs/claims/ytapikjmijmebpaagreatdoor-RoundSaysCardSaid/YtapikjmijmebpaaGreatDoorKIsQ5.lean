/-
  The laws' helpers zis, qis and own: a fraction tells what the document's own does.
-/
import Derived.Test.YtapikjmijmebpaaGreatDoorKIrLaw5
import Derived.Test.YtapikjmijmebpaaGreatDoorKRefQ
import Derived.Test.YtapikjmijmebpaaGreatDoorKIsL5
set_option linter.all false
set_option linter.unusedVariables false
set_option linter.unusedSimpArgs false
set_option maxHeartbeats 4000000
namespace Go.Proofs.YtapikjmijmebpaaGreatDoorK.LawT5
open Go.Proofs.YtapikjmijmebpaaGreatDoorK.AI Go.Proofs.YtapikjmijmebpaaGreatDoorK.NatIr Go.Proofs.YtapikjmijmebpaaGreatDoorK.Dig Go.Proofs.YtapikjmijmebpaaGreatDoorK.NatT Go.Proofs.YtapikjmijmebpaaGreatDoorK.NumT Go.Proofs.YtapikjmijmebpaaGreatDoorK.RatT Go.Proofs.YtapikjmijmebpaaGreatDoorK.RefT
set_option linter.unusedSimpArgs false
attribute [local irreducible] awp awpOps
attribute [local go_sem] getO putE_same putE_ne putE_none un0_at ini_zero ini_one ini_two ini_three ne_eq not_false_eq_true Nat.zero_ne_one Nat.one_ne_zero zero_ne_succ succ_ne_zero sym_nil sym_cons symG_call symG_op symG_skip IOp.isCall gd st_mv st_pick st_new st_box st_build st_lit st_load st_store st_faddr st_fld st_iaddrS st_iaddrA st_idxs st_bin st_beq st_neg st_not st_conv st_slcS st_slcL st_make st_app st_lenS st_lenL st_mx st_mn st_ext st_nilck st_bstr byD pureC loadC setH hv boundO D.cells D.one D.boxable fillD putD rowD binC intBinC decT decF dec_true dec_false bne_self_eq_false beq_self_eq_true beq_true_false beq_false_true bne_iff_ne List.length_nil List.length_cons List.getD_cons_zero List.getD_cons_succ List.set_cons_zero List.set_cons_succ List.all_cons List.all_nil Bool.and_true Bool.true_and Nat.lt_irrefl Nat.sub_self Nat.zero_add Nat.add_zero Nat.mul_one Nat.lt_add_one if_true if_false List.replicate_zero List.nil_append List.cons_append List.append_nil List.map_cons List.map_nil Bool.false_eq_true or_self or_true true_or or_false false_or true_and and_true and_self Int.ofNat_zero wrap_i64 wrap_u32 wrap_u64 wrap_u8 wrap_u32_mod wrap_u64_mod Nat.zero_lt_one Int.toNat_natCast Int.sub_zero toNat_pred List.take_succ_cons List.take_zero List.drop_succ_cons List.drop_zero List.take_nil List.drop_nil Nat.le_refl List.length_singleton rvDs rvD ldD one? Option.bind_some Option.map_some resD_int resD_bool resD_str resD_sl resD_rp resD_nils resD_null resD_agg resD_tup resD_own rdOwn resD_ptr rdPtr rd_ite resL_eq go_nil go_cons D.imm resArgs shr32 shl32 Nat.zero_mul Bool.and_self Bool.and_false Bool.false_and strBin_eql strBin_neq Bool.not_true Bool.not_false i64max List.length_reverse List.length_set SS_length SS_getD SS_set SS_take SS_drop SS_imm SS_one SS_app1 W_get1 W_len1 W_getD W_set W_take W_drop W_app W_length W_imm W_one W_repl N mx_nat toNat_succ toNat_add toNat_pred2 tdiv_nn tmod_nn List.take_of_length_le cast_succ and_one or_shl32 min64 shr32b shl32b IntKind.bits
attribute [local go_sem] V_getD V_set V_take V_drop V_imm V_one V_app V_app1 V_repl V_get1 V_length M List.length_append
attribute [local go_sem] nl ZD MZ
attribute [local go_sem] QD MQ
variable {G : World → Prop}
theorem pcr_zis (hG : Stable G) {z : Int} {L : Nat} (hz : z.natAbs < 4294967296 ^ L) (hL : L < 4000) : PCr Tryz.prog G 20 [ZD z, MZ z] (.bool true) := by
  have hg := NumT.pcr_good hG hz (by omega)
  have hi := pcr_is hG hz hL
  rw [ZD] at hg ⊢
  refine pcr_byq ok20 hG (n := 21) (rv := [.tmp 4]) fun r hr => ?_; unfold c20 st0
  refine xctl ?_
  refine xrg ?_
  refine xctl ?_
  refine xrg ?_; (refine xcf1 ?_; refine xcf (hg) rfl ?_)
  refine xrg ?_; (refine xcgf1 ?_; refine xcf (hi) rfl ?_)
  refine xrg ?_; (refine xctl ?_); refine xrt ?_; exact hr.symm
theorem pcr_own (hG : Stable G) (b : Bool) (a : List Int) (n : Nat) (hn : n = a.length) (ha : ok 4294967296 a) (hl : n ≤ 12) (c : List Int) (m : Nat) (hm : m = c.length) (hc : ok 4294967296 c) (hl2 : m ≤ 12) :
    PCr Tryz.prog G 14 [.agg [.bool b, .sl n (W a), .sl m (W c)]] (MQ (vq b a c)) := by
  have h1 := pcr_words hG a n hn ha (by omega)
  have h2 := pcr_words hG c m hm hc (by omega)
  have hx := nm_in (L := 12) hn ha (by omega)
  have hy := nm_in (L := 12) hm hc (by omega)
  have ho := pcr_zof hG b (vl 4294967296 a)
  unfold vq
  generalize vl 4294967296 a = X at *
  generalize vl 4294967296 c = Y at *
  by_cases h0 : Y = 0
  · have hw0 : (wd 10000 Y).length = 0 := by rw [h0, wd_zero]; rfl
    have hq := pcr_qint hG 0 (by omega) (by omega)
    rw [show ((0 : Int) : Rat) = mkRat (sg b X) Y by rw [h0, Rat.mkRat_zero]; rfl] at hq
    refine pcr_byq ok14 hG (n := 23) (rv := [.cell 2 true 3]) fun r hr => ?_; unfold c14 st0
    refine xctl ?_
    refine xrg ?_
    refine xctl ?_
    refine xrg ?_; (refine xca1 ?_; refine xca (h2) ?_)
    refine xrg ?_
    refine xctl ?_
    refine xrg ?_
    refine xctl ?_
    refine xct ?_
    refine xctl ?_
    refine xrg ?_; (refine xca1 ?_; refine xca (hq) ?_)
    refine xrg ?_
    refine xctl ?_
    refine xrt ?_
    exact hr.symm
  · have hw0 := wd4_pos h0
    have hq := pcr_qof hG (z := sg b X) (by rw [sg_abs]; exact hx.lt) hy.lt h0 (by omega) (by omega)
    refine pcr_byq ok14 hG (n := 23) (rv := [.cell 2 true 3]) fun r hr => ?_; unfold c14 st0
    refine xctl ?_
    refine xrg ?_
    refine xctl ?_
    refine xrg ?_; (refine xca1 ?_; refine xca (h2) ?_)
    refine xrg ?_
    refine xctl ?_
    refine xrg ?_
    refine xctl ?_
    refine xcF ?_
    refine xctl ?_
    refine xrg ?_; (refine xca1 ?_; refine xca (h1) ?_)
    refine xrg ?_; (refine xca1 ?_; refine xca (ho) ?_)
    refine xrg ?_; (refine xca1 ?_; refine xca (hq) ?_)
    refine xrg ?_
    refine xctl ?_
    refine xdr ?_
    refine xctl ?_
    refine xrt ?_
    exact hr.symm
theorem pQ_qm {l : List UInt8} {q : Rat} (h : pQ l = some q) (hl : l.length ≤ 60) : Qm 60 q (QD q) := by
  have hcl := cut1_len 47 l
  unfold pQ at h
  cases hp : pZ (cut1 47 l).1 with
  | none => rw [hp] at h; cases h
  | some z =>
    rw [hp] at h
    have hz := RatT.pZ_lt hp
    have hz2 : z.natAbs < 4294967296 ^ 60 := Nat.lt_of_lt_of_le hz (Nat.pow_le_pow_right (by omega) (by omega))
    dsimp only at h
    split at h
    · split at h
      · rename_i hg
        cases h
        refine qm_le (by omega) hz2 (Nat.lt_of_lt_of_le (dV_lt hg.2.1) (Nat.pow_le_pow_right (by omega) (by omega)))
      · cases h
    · cases h
      exact qm_QD (by omega) hz2 (by rw [Rat.den_intCast]; decide)
end Go.Proofs.YtapikjmijmebpaaGreatDoorK.LawT5
