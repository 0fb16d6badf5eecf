/-
  The laws' helpers dis and raw: a numeral tells what the document's own does.
-/
import Derived.Test.YtapikjmijmebpaaGreatDoorKIrLaw5
import Derived.Test.YtapikjmijmebpaaGreatDoorKRd
import Derived.Test.YtapikjmijmebpaaGreatDoorKDecB
import Derived.Test.YtapikjmijmebpaaGreatDoorKIsQ5
set_option linter.all false
set_option linter.unusedVariables false
set_option linter.unusedSimpArgs false
set_option maxHeartbeats 4000000
namespace Go.Proofs.YtapikjmijmebpaaGreatDoorK.LawT5
open Go.Proofs.YtapikjmijmebpaaGreatDoorK.AI Go.Proofs.YtapikjmijmebpaaGreatDoorK.NatIr Go.Proofs.YtapikjmijmebpaaGreatDoorK.Dig Go.Proofs.YtapikjmijmebpaaGreatDoorK.NatT Go.Proofs.YtapikjmijmebpaaGreatDoorK.NumT Go.Proofs.YtapikjmijmebpaaGreatDoorK.RatT Go.Proofs.YtapikjmijmebpaaGreatDoorK.RefT Go.Proofs.YtapikjmijmebpaaGreatDoorK.DecT
set_option linter.unusedSimpArgs false
attribute [local irreducible] awp awpOps
attribute [local go_sem] getO putE_same putE_ne putE_none un0_at ini_zero ini_one ini_two ini_three ne_eq not_false_eq_true Nat.zero_ne_one Nat.one_ne_zero zero_ne_succ succ_ne_zero sym_nil sym_cons symG_call symG_op symG_skip IOp.isCall gd st_mv st_pick st_new st_box st_build st_lit st_load st_store st_faddr st_fld st_iaddrS st_iaddrA st_idxs st_bin st_beq st_neg st_not st_conv st_slcS st_slcL st_make st_app st_lenS st_lenL st_mx st_mn st_ext st_nilck st_bstr byD pureC loadC setH hv boundO D.cells D.one D.boxable fillD putD rowD binC intBinC decT decF dec_true dec_false bne_self_eq_false beq_self_eq_true beq_true_false beq_false_true bne_iff_ne List.length_nil List.length_cons List.getD_cons_zero List.getD_cons_succ List.set_cons_zero List.set_cons_succ List.all_cons List.all_nil Bool.and_true Bool.true_and Nat.lt_irrefl Nat.sub_self Nat.zero_add Nat.add_zero Nat.mul_one Nat.lt_add_one if_true if_false List.replicate_zero List.nil_append List.cons_append List.append_nil List.map_cons List.map_nil Bool.false_eq_true or_self or_true true_or or_false false_or true_and and_true and_self Int.ofNat_zero wrap_i64 wrap_u32 wrap_u64 wrap_u8 wrap_u32_mod wrap_u64_mod Nat.zero_lt_one Int.toNat_natCast Int.sub_zero toNat_pred List.take_succ_cons List.take_zero List.drop_succ_cons List.drop_zero List.take_nil List.drop_nil Nat.le_refl List.length_singleton rvDs rvD ldD one? Option.bind_some Option.map_some resD_int resD_bool resD_str resD_sl resD_rp resD_nils resD_null resD_agg resD_tup resD_own rdOwn resD_ptr rdPtr rd_ite resL_eq go_nil go_cons D.imm resArgs shr32 shl32 Nat.zero_mul Bool.and_self Bool.and_false Bool.false_and strBin_eql strBin_neq Bool.not_true Bool.not_false i64max List.length_reverse List.length_set SS_length SS_getD SS_set SS_take SS_drop SS_imm SS_one SS_app1 W_get1 W_len1 W_getD W_set W_take W_drop W_app W_length W_imm W_one W_repl N mx_nat toNat_succ toNat_add toNat_pred2 tdiv_nn tmod_nn List.take_of_length_le cast_succ and_one or_shl32 min64 shr32b shl32b IntKind.bits
attribute [local go_sem] V_getD V_set V_take V_drop V_imm V_one V_app V_app1 V_repl V_get1 V_length M List.length_append
attribute [local go_sem] nl ZD MZ
attribute [local go_sem] QD MQ
attribute [local go_sem] MD DD not_true_eq_false not_false_eq_true
variable {G : World → Prop} {L X s : Nat} {b : Bool} {d : D}
theorem pcr_dis (hG : Stable G) (h : Dok b X s) (hx : X < 4294967296 ^ L) (hL : L < 4000) : PCr Tryz.prog G 27 [DD b X s, MD b X s] (.bool true) := by
  have hg := pcr_dgoodD hG h hx (by omega)
  have hi := pcr_is hG hx hL
  cases b
  · refine pcr_byq ok27 hG (n := 28) (rv := [.tmp 4]) fun r hr => ?_; unfold c27 st0
    (exact xwalkd)
  · refine pcr_byq ok27 hG (n := 28) (rv := [.tmp 4]) fun r hr => ?_; unfold c27 st0
    (exact xwalkd)
theorem dm_in {b0 : Bool} {a : List Int} {n : Nat} {k : Int} (hn : n = a.length) (ha : ok 4294967296 a) (hl : n ≤ L) : ∃ b X s, Dm L b X s (.agg [.bool b0, .sl n (W a), .int .i64 k]) := by
  cases hgd : gdB b0 a k
  · exact ⟨false, 0, 0, b0, a, n, k, hn, ha, by omega, rfl, by rw [hgd]; rfl⟩
  · exact ⟨b0, vl 4294967296 a, k.toNat, b0, a, n, k, hn, ha, by omega, rfl, by rw [hgd]; rfl⟩
/-! what is told of a fraction -/
theorem dq_num (h : Dok b X s) : ng (dq b X s).num = b ∧ (dq b X s).num.natAbs = X / Nat.gcd X (10 ^ s) ∧ (dq b X s).den = 10 ^ s / Nat.gcd X (10 ^ s) := by
  unfold dq
  rw [mk_num (ten_ne s), mk_den (ten_ne s), sg_abs, sg_neg]
  refine ⟨?_, rfl, rfl⟩
  cases b
  · rfl
  · rw [Bool.true_and]
    refine decide_eq_true fun h0 => h.1 rfl ?_
    have := Nat.div_mul_cancel (Nat.gcd_dvd_left X (10 ^ s))
    rw [h0, Nat.zero_mul] at this
    exact this.symm
theorem dq_qm (h : Dok b X s) (hx : X < 4294967296 ^ L) : Qm (L + 7) (dq b X s) (QD (dq b X s)) := by
  refine qm_le (by omega) ?_ ?_
  · rw [sg_abs, Nat.pow_add]
    have := Nat.pow_pos (n := 7) (show 0 < 4294967296 by omega)
    have h2 := Nat.le_mul_of_pos_right (4294967296 ^ L) this
    omega
  · refine Nat.lt_of_lt_of_le (ten_lt h.2) (Nat.pow_le_pow_right (by omega) (by omega))
theorem loM_some {n d M q k : Nat} (h : loM n d M 0 = some (q, k)) : k ≤ M ∧ n * 10 ^ k % d = 0 ∧ q = n * 10 ^ k / d := by
  have aux : ∀ (f k0 : Nat), lo n d f k0 = some (q, k) → k ≤ k0 + f ∧ n * 10 ^ k % d = 0 ∧ q = n * 10 ^ k / d := by
    intro f
    induction f with
    | zero =>
      intro k0 h
      rw [lo] at h
      split at h
      · rename_i h0; cases h; exact ⟨by omega, h0, rfl⟩
      · cases h
    | succ f ih =>
      intro k0 h
      rw [lo] at h
      split at h
      · rename_i h0; cases h; exact ⟨by omega, h0, rfl⟩
      · have := ih _ h
        exact ⟨by omega, this.2⟩
  rw [loM, if_pos (Nat.zero_le _)] at h
  have := aux _ _ h
  exact ⟨by omega, this.2⟩
theorem dP_ok {l : List UInt8} {k : Nat} (h : dP l = some (b, X, k)) : Dok b X k ∧ X < 4294967296 ^ (2 * l.length) := by
  rw [dP_eq] at h
  split at h
  · rename_i hc
    have htl := NumT.trim_le l [45]
    have hcl := cut1_len 46 (Lib.trimPrefix l [45])
    have hcp := cut1_pt 46 (Lib.trimPrefix l [45])
    generalize (cut1 46 (Lib.trimPrefix l [45])).1 = w at *
    generalize (cut1 46 (Lib.trimPrefix l [45])).2.1 = p at *
    generalize (cut1 46 (Lib.trimPrefix l [45])).2.2 = pt at *
    simp only [Option.some.injEq, Prod.mk.injEq] at h
    obtain ⟨h1, rfl, rfl⟩ := h
    simp only [Bool.and_eq_true, Bool.or_eq_true, Bool.not_eq_true', decide_eq_true_eq] at hc
    have ho := pgd_app (pt := pt) hc.1.1 (fun h => by
      rcases hc.1.2 with h2 | h2
      · rw [h] at h2; cases h2
      · exact h2) hcp
    refine ⟨⟨fun hb => ?_, hc.2⟩, ?_⟩
    · rw [hb, Bool.and_eq_true] at h1
      exact of_decide_eq_true h1.2
    · refine Nat.lt_of_lt_of_le (dV_lt (pgd_iff.1 ho).2) (Nat.pow_le_pow_right (by omega) ?_)
      rw [List.length_append]; omega
  · cases h
end Go.Proofs.YtapikjmijmebpaaGreatDoorK.LawT5
