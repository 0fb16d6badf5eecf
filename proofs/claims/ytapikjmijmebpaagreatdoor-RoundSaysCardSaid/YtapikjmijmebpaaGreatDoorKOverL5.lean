/-
  The laws' helper over; a numeral's value; tenths.
-/
import Derived.Test.YtapikjmijmebpaaGreatDoorKIrLaw5
import Derived.Test.YtapikjmijmebpaaGreatDoorKRoundA
import Derived.Test.YtapikjmijmebpaaGreatDoorKRoundS
import Derived.Test.YtapikjmijmebpaaGreatDoorKLongQ5
set_option linter.all false
set_option linter.unusedVariables false
set_option linter.unusedSimpArgs false
set_option maxHeartbeats 4000000
namespace Go.Proofs.YtapikjmijmebpaaGreatDoorK.LawT5
open Go.Proofs.YtapikjmijmebpaaGreatDoorK.AI Go.Proofs.YtapikjmijmebpaaGreatDoorK.NatIr Go.Proofs.YtapikjmijmebpaaGreatDoorK.Dig Go.Proofs.YtapikjmijmebpaaGreatDoorK.NatT Go.Proofs.YtapikjmijmebpaaGreatDoorK.NumT Go.Proofs.YtapikjmijmebpaaGreatDoorK.RatT Go.Proofs.YtapikjmijmebpaaGreatDoorK.DecT Go.Proofs.YtapikjmijmebpaaGreatDoorK.RoundT
set_option linter.unusedSimpArgs false
attribute [local irreducible] awp awpOps
attribute [local go_sem] getO putE_same putE_ne putE_none un0_at ini_zero ini_one ini_two ini_three ne_eq not_false_eq_true Nat.zero_ne_one Nat.one_ne_zero zero_ne_succ succ_ne_zero sym_nil sym_cons symG_call symG_op symG_skip IOp.isCall gd st_mv st_pick st_new st_box st_build st_lit st_load st_store st_faddr st_fld st_iaddrS st_iaddrA st_idxs st_bin st_beq st_neg st_not st_conv st_slcS st_slcL st_make st_app st_lenS st_lenL st_mx st_mn st_ext st_nilck st_bstr byD pureC loadC setH hv boundO D.cells D.one D.boxable fillD putD rowD binC intBinC decT decF dec_true dec_false bne_self_eq_false beq_self_eq_true beq_true_false beq_false_true bne_iff_ne List.length_nil List.length_cons List.getD_cons_zero List.getD_cons_succ List.set_cons_zero List.set_cons_succ List.all_cons List.all_nil Bool.and_true Bool.true_and Nat.lt_irrefl Nat.sub_self Nat.zero_add Nat.add_zero Nat.mul_one Nat.lt_add_one if_true if_false List.replicate_zero List.nil_append List.cons_append List.append_nil List.map_cons List.map_nil Bool.false_eq_true or_self or_true true_or or_false false_or true_and and_true and_self Int.ofNat_zero wrap_i64 wrap_u32 wrap_u64 wrap_u8 wrap_u32_mod wrap_u64_mod Nat.zero_lt_one Int.toNat_natCast Int.sub_zero toNat_pred List.take_succ_cons List.take_zero List.drop_succ_cons List.drop_zero List.take_nil List.drop_nil Nat.le_refl List.length_singleton rvDs rvD ldD one? Option.bind_some Option.map_some resD_int resD_bool resD_str resD_sl resD_rp resD_nils resD_null resD_agg resD_tup resD_own rdOwn resD_ptr rdPtr rd_ite resL_eq go_nil go_cons D.imm resArgs shr32 shl32 Nat.zero_mul Bool.and_self Bool.and_false Bool.false_and strBin_eql strBin_neq Bool.not_true Bool.not_false i64max List.length_reverse List.length_set SS_length SS_getD SS_set SS_take SS_drop SS_imm SS_one SS_app1 W_get1 W_len1 W_getD W_set W_take W_drop W_app W_length W_imm W_one W_repl N mx_nat toNat_succ toNat_add toNat_pred2 tdiv_nn tmod_nn List.take_of_length_le cast_succ and_one or_shl32 min64 shr32b shl32b IntKind.bits
attribute [local go_sem] nl ZD
attribute [local go_sem] QD
variable {G : World → Prop} {L s : Nat} {z : Int} {b : Bool} {X : Nat}
theorem pcr_overT (hG : Stable G) : PCr Tryz.prog G 70 [.int .i64 1, .int .u64 10] (QD (mkRat 1 10)) := by
  have h1 := NumT.pcr_of hG 1 (by omega) (by omega)
  have h2 := NatT.pcr_of hG 10 (by omega)
  have h3 := RatT.pcr_of hG (b := ng 1) (nm_N (X := (1 : Int).natAbs) (L := 1) (by decide)) (nm_N (X := 10) (L := 1) (by decide)) (by decide) (by omega) (by omega)
  rw [sg_self] at h3
  refine pcr_byq ok70 hG (n := 16) (rv := [.cell 4 true 3]) fun r hr => ?_; unfold c70 st0
  (exact xwalkd)
theorem qm_tenth : Qm 1 (mkRat 1 10) (QD (mkRat 1 10)) := qm_le (by omega) (by decide) (by decide)
theorem tenth : mkRat 1 10 = (10 : Rat)⁻¹ := by
  rw [Rat.mkRat_eq_div, Rat.div_def, show ((1 : Int) : Rat) = 1 from rfl, Rat.one_mul]; rfl
theorem tenth_pow (s : Nat) : (mkRat 1 10) ^ s = ((10 : Rat) ^ s)⁻¹ := by rw [tenth, inv_pow']
theorem dok_z (h : s ≤ 60) : Dok (ng z) z.natAbs s := ⟨fun h1 => by have := of_decide_eq_true h1; omega, h⟩
theorem dq_vd (z : Int) (s : Nat) : dq (ng z) z.natAbs s = vd z s := by rw [dq, sg_self]; rfl
theorem dq_qm5 (h : Dok b X s) (hx : X < 4294967296 ^ L) : Qm (L + 7) (dq b X s) (QD (dq b X s)) := by
  refine qm_le (by omega) ?_ ?_
  · rw [sg_abs, Nat.pow_add]
    have := Nat.pow_pos (n := 7) (show 0 < 4294967296 by omega)
    have h2 := Nat.le_mul_of_pos_right (4294967296 ^ L) this
    omega
  · refine Nat.lt_of_lt_of_le (ten_lt h.2) (Nat.pow_le_pow_right (by omega) (by omega))
end Go.Proofs.YtapikjmijmebpaaGreatDoorK.LawT5
