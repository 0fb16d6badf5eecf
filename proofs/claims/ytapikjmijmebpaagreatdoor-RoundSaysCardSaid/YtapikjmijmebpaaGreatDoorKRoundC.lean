/-
  Package round: Sig: what it computes.
-/
import Derived.Test.YtapikjmijmebpaaGreatDoorKIrRound
import Derived.Test.YtapikjmijmebpaaGreatDoorKRoundB
set_option linter.all false
set_option linter.unusedVariables false
set_option linter.unusedSimpArgs false
set_option maxHeartbeats 4000000
namespace Go.Proofs.YtapikjmijmebpaaGreatDoorK.RoundT
open Go.Proofs.YtapikjmijmebpaaGreatDoorK.AI Go.Proofs.YtapikjmijmebpaaGreatDoorK.NatIr Go.Proofs.YtapikjmijmebpaaGreatDoorK.Dig Go.Proofs.YtapikjmijmebpaaGreatDoorK.NatT Go.Proofs.YtapikjmijmebpaaGreatDoorK.NumT Go.Proofs.YtapikjmijmebpaaGreatDoorK.RatT Go.Proofs.YtapikjmijmebpaaGreatDoorK.DecT
set_option linter.unusedSimpArgs false
attribute [local irreducible] awp awpOps
attribute [local go_sem] getO putE_same putE_ne putE_none un0_at ini_zero ini_one ini_two ini_three ne_eq not_false_eq_true Nat.zero_ne_one Nat.one_ne_zero zero_ne_succ succ_ne_zero sym_nil sym_cons symG_call symG_op symG_skip IOp.isCall gd st_mv st_pick st_new st_box st_build st_lit st_load st_store st_faddr st_fld st_iaddrS st_iaddrA st_idxs st_bin st_beq st_neg st_not st_conv st_slcS st_slcL st_make st_app st_lenS st_lenL st_mx st_mn st_ext st_nilck st_bstr byD pureC loadC setH hv boundO D.cells D.one D.boxable fillD putD rowD binC intBinC decT decF dec_true dec_false bne_self_eq_false beq_self_eq_true beq_true_false beq_false_true bne_iff_ne List.length_nil List.length_cons List.getD_cons_zero List.getD_cons_succ List.set_cons_zero List.set_cons_succ List.all_cons List.all_nil Bool.and_true Bool.true_and Nat.lt_irrefl Nat.sub_self Nat.zero_add Nat.add_zero Nat.mul_one Nat.lt_add_one if_true if_false List.replicate_zero List.nil_append List.cons_append List.append_nil List.map_cons List.map_nil Bool.false_eq_true or_self or_true true_or or_false false_or true_and and_true and_self Int.ofNat_zero wrap_i64 wrap_u32 wrap_u64 wrap_u8 wrap_u32_mod wrap_u64_mod Nat.zero_lt_one Int.toNat_natCast Int.sub_zero toNat_pred List.take_succ_cons List.take_zero List.drop_succ_cons List.drop_zero List.take_nil List.drop_nil Nat.le_refl List.length_singleton rvDs rvD ldD one? Option.bind_some Option.map_some resD_int resD_bool resD_str resD_sl resD_rp resD_nils resD_null resD_agg resD_tup resD_own rdOwn resD_ptr rdPtr rd_ite resL_eq go_nil go_cons D.imm resArgs shr32 shl32 Nat.zero_mul Bool.and_self Bool.and_false Bool.false_and strBin_eql strBin_neq Bool.not_true Bool.not_false i64max List.length_reverse List.length_set SS_length SS_getD SS_set SS_take SS_drop SS_imm SS_one SS_app1 W_get1 W_len1 W_getD W_set W_take W_drop W_app W_length W_imm W_one W_repl N mx_nat toNat_succ toNat_add toNat_pred2 tdiv_nn tmod_nn List.take_of_length_le cast_succ and_one or_shl32 min64 shr32b shl32b IntKind.bits
attribute [local go_sem] nl ZD
attribute [local go_sem] QD
attribute [local go_sem] DD not_true_eq_false not_false_eq_true List.size_toArray ba_size
variable {G : World → Prop} {L M X Y s : Nat} {x r p : Rat} {z f m : Int} {b : Bool} {d e : D}
theorem mag_qm (hx : Qm L r d) : Qm L (mag r) (QD (mag r)) := by
  unfold mag; split
  · exact qm_neg hx
  · exact hx.self
theorem sgs_bnd (hx : Qm L r d) (k : Nat) : sgs r k = (k : Int) - 1 - pwr (mag r) ∧ (pwr (mag r)).natAbs ≤ 10 * L + 2 := ⟨rfl, pwr_nat (mag_qm hx)⟩
def sgR (r : Rat) (k : Nat) (m : Int) : D := if 60 < sgs r k then .tup [DD false 0 0, .int .i64 11] else .tup [DD (ng (sgv r k m).1) (sgv r k m).1.natAbs (sgv r k m).2, .int .i64 0]
theorem qm_st (hx : Qm L r d) {k : Nat} (hk : k ≤ 40) : Qm (L + (10 * L + 45)) (r * tq (sgs r k)) (QD (r * tq (sgs r k))) := by
  obtain ⟨h1, h2⟩ := sgs_bnd hx k
  exact (qm_mul hx (qm_tq (sgs r k) _ rfl)).up (by omega)
theorem sgn_nat (hx : Qm L r d) {k : Nat} (hk : k ≤ 40) (m : Int) : (sgn r k m).natAbs < 4294967296 ^ (L + (10 * L + 45) + 1) := rnd_nat (qm_st hx hk) m
theorem tq_inv {S : Int} (h : S < 0) : (tq S)⁻¹ = (((10 : Int) ^ (-S).toNat : Int) : Rat) := by
  have e : S = -(((-S).toNat : Nat) : Int) := by omega
  generalize (-S).toNat = K at *
  rw [e, tq_neg, Rat.inv_inv, tq_nat, Rat.intCast_pow]; rfl
theorem sgv_nat (hx : Qm L r d) {k : Nat} (hk : k ≤ 40) (m : Int) : (sgv r k m).1.natAbs < 4294967296 ^ (L + (10 * L + 45) + 1 + (10 * L + 45)) := by
  have hzb := sgn_nat hx hk m
  obtain ⟨hS, hpb⟩ := sgs_bnd hx k
  have hle : 4294967296 ^ (L + (10 * L + 45) + 1) ≤ 4294967296 ^ (L + (10 * L + 45) + 1 + (10 * L + 45)) := Nat.pow_le_pow_right (by omega) (by omega)
  unfold sgv
  split
  · show (sgn r k m * (10 : Int) ^ (-sgs r k).toNat).natAbs < _
    rw [Int.natAbs_mul, Int.natAbs_pow, Nat.pow_add _ (L + (10 * L + 45) + 1)]
    refine mul_lt2 hzb ?_
    exact Nat.lt_of_lt_of_le (Nat.pow_lt_pow_left (show (10 : Int).natAbs < 4294967296 by decide) (by omega)) (Nat.pow_le_pow_right (by omega) (by omega))
  · split
    · show (sgn r k m / 10).natAbs < _
      omega
    · exact Nat.lt_of_lt_of_le hzb hle
theorem sgv_two {k : Nat} (h : ¬ 60 < sgs r k) : (sgv r k m).2 ≤ 60 := by
  unfold sgv
  split
  · exact Nat.zero_le _
  · split
    · show (sgs r k - 1).toNat ≤ 60
      omega
    · show (sgs r k).toNat ≤ 60
      omega
set_option maxHeartbeats 16000000 in
theorem pcr_sig (hG : Stable G) (hT : ∀ w, G w → Lib.TabIs Tryz.prog w "internal/strconv.uint64pow10" .u64 Lib.pow10Tab) (hx : Qm L r d) (hL : L < 20) (h0 : r ≠ 0) (k : Nat) (hk1 : 1 ≤ k) (hk : k ≤ 40) (h1 : 1 ≤ m) (h7 : m ≤ 7) :
    PCr Tryz.prog G 17 [d, .int .i64 (k : Int), .int .i64 m] (sgR r k m) := by
  have hm := pcr_mode hG m
  rw [mok_iff.2 ⟨h1, h7⟩] at hm
  have hi := RatT.pcr_int hG 0 (by omega) (by omega)
  have ha := RatT.pcr_add hG hx (qm_int 0 (by decide)) (by omega) (by omega)
  rw [add0] at ha
  have hsg := RatT.pcr_sign hG hx.self (by omega)
  have hs3 := sgn3 r
  have hpw := pcr_power hG hT (mag_qm hx) (by omega)
  have hng := RatT.pcr_neg hG hx.self (by omega)
  have hmg : (r < 0 ∧ r.num.sign = -1 ∧ mag r = -r) ∨ (¬ r < 0 ∧ r.num.sign = 1 ∧ mag r = r) := by
    rcases hs3 with h | h | h
    · exact .inl ⟨h.1, h.2, if_pos h.1⟩
    · exact absurd h.1 h0
    · exact .inr ⟨by grind, h.2, if_neg (by grind)⟩
  obtain ⟨hS, hpb⟩ := sgs_bnd hx k
  have hti := pcr_rtensI hG (sgs r k) (by omega)
  have hmu := RatT.pcr_mul hG hx.self (qm_tq (sgs r k) _ rfl) (by omega) (by omega)
  have hri := pcr_rint hG (qm_st hx hk) (by omega) h1 h7
  have hzb := sgn_nat hx hk m
  have hinv := RatT.pcr_inv hG (qm_tq (sgs r k) _ rfl) (by omega) (fun e => by have := tq_pos (sgs r k); rw [e] at this; exact absurd this (by decide))
  have htx := pcr_textN hG hT (nm_N hzb) (by omega)
  have hmd := pcr_rmade hG hzb (sgs r k).toNat
  have h10 := NumT.pcr_of hG 10 (by omega) (by omega)
  have hdv := NumT.pcr_div hG (zm_ZD hzb) (zm_ZD (z := 10) (L := 1) (by decide)) (by omega) (by omega) (by decide)
  have hd10 : (sgn r k m / 10).natAbs < 4294967296 ^ (L + (10 * L + 45) + 1) := by omega
  have hmd2 := pcr_rmade hG hd10 (sgs r k - 1).toNat
  have hdl : dl (sgn r k m).natAbs = (Lib.decDigits (sgn r k m).natAbs).length := rfl
  have hdlb := dl_bnd hzb
  have hmn : sgs r k < 0 → PCr Tryz.prog G 82 [ZD (sgn r k m), ZD ((tq (sgs r k))⁻¹).num] (ZD (sgn r k m * (10 : Int) ^ (-sgs r k).toNat)) ∧
      PCr Tryz.prog G 79 [ZD (sgn r k m * (10 : Int) ^ (-sgs r k).toNat), .int .i64 0] (DD (ng (sgn r k m * (10 : Int) ^ (-sgs r k).toNat)) (sgn r k m * (10 : Int) ^ (-sgs r k).toNat).natAbs 0) := by
    intro hneg
    have hz10 : ((10 : Int) ^ (-sgs r k).toNat).natAbs < 4294967296 ^ (10 * L + 45) := by
      rw [Int.natAbs_pow]
      refine Nat.lt_of_lt_of_le (Nat.pow_lt_pow_left (show (10 : Int).natAbs < 4294967296 by decide) (by omega)) (Nat.pow_le_pow_right (by omega) (by omega))
    have h2 := NumT.pcr_mul hG (zm_ZD hzb) (zm_ZD hz10) (by omega) (by omega)
    rw [tq_inv hneg, Rat.num_intCast]
    exact ⟨h2, pcr_rmade hG (zm_mul (zm_ZD hzb) (zm_ZD hz10)).lt 0⟩
  have hsv : sgn r k m = rnd (r * tq (sgs r k)) m := rfl
  rw [← hsv] at hri
  unfold sgR sgv
  rw [hdl]
  generalize sgn r k m = z at *
  generalize hSe : sgs r k = S at *
  generalize pwr (mag r) = e at *
  obtain ⟨b0, X0, Y0, n0, k0, cs, ds, _, _, _, rfl⟩ := hx.row
  clear hx hs3 hSe
  by_cases h60 : 60 < S
  · rw [if_pos h60, DD_zero]
    rcases hmg with ⟨hr0, hr1, hr2⟩ | ⟨hr0, hr1, hr2⟩
    · rw [hr1] at hsg
      rw [hr2] at hpw
      refine pcr_byq ok17 hG (n := 96) (rv := [.cell 6 true 3, .tmp 7]) fun r hr => ?_; unfold c17 st0
      (exact xwalkd)
    · rw [hr1] at hsg
      rw [hr2] at hpw
      refine pcr_byq ok17 hG (n := 96) (rv := [.cell 6 true 3, .tmp 7]) fun r hr => ?_; unfold c17 st0
      (exact xwalkd)
  rw [if_neg h60]
  have e1 : (k : Int) - 1 - e = S := hS.symm
  by_cases hneg : S < 0
  · obtain ⟨hm1, hm2⟩ := hmn hneg
    rw [if_pos hneg]
    rcases hmg with ⟨hr0, hr1, hr2⟩ | ⟨hr0, hr1, hr2⟩
    · rw [hr1] at hsg
      rw [hr2] at hpw
      refine pcr_byq ok17 hG (n := 96) (rv := [.cell 6 true 3, .tmp 7]) fun r hr => ?_; unfold c17 st0
      (have we1 := e1; exact xwalkd1)
    · rw [hr1] at hsg
      rw [hr2] at hpw
      refine pcr_byq ok17 hG (n := 96) (rv := [.cell 6 true 3, .tmp 7]) fun r hr => ?_; unfold c17 st0
      (have we1 := e1; exact xwalkd1)
  rw [if_neg hneg]
  have e2 : ((S.toNat : Nat) : Int) = S := by omega
  rw [e2] at hmd
  by_cases hmore : 0 < S ∧ k < (Lib.decDigits z.natAbs).length
  · rw [if_pos hmore]
    have e3 : (((S - 1).toNat : Nat) : Int) = S - 1 := by omega
    rw [e3] at hmd2
    rw [DD, e3]
    rw [DD, e3] at hmd2
    rcases hmg with ⟨hr0, hr1, hr2⟩ | ⟨hr0, hr1, hr2⟩
    · rw [hr1] at hsg
      rw [hr2] at hpw
      refine pcr_byq ok17 hG (n := 96) (rv := [.cell 6 true 3, .tmp 7]) fun r hr => ?_; unfold c17 st0
      (have we1 := e1; exact xwalkd1)
    · rw [hr1] at hsg
      rw [hr2] at hpw
      refine pcr_byq ok17 hG (n := 96) (rv := [.cell 6 true 3, .tmp 7]) fun r hr => ?_; unfold c17 st0
      (have we1 := e1; exact xwalkd1)
  · rw [if_neg hmore]
    rw [DD, e2]
    rw [DD, e2] at hmd
    have hm2 : S = 0 ∨ (0 < S ∧ ¬ k < (Lib.decDigits z.natAbs).length) := by omega
    rcases hm2 with h2 | ⟨h2, h3⟩
    · subst h2
      rcases hmg with ⟨hr0, hr1, hr2⟩ | ⟨hr0, hr1, hr2⟩
      · rw [hr1] at hsg
        rw [hr2] at hpw
        refine pcr_byq ok17 hG (n := 96) (rv := [.cell 6 true 3, .tmp 7]) fun r hr => ?_; unfold c17 st0
        (have we1 := e1; exact xwalkd1)
      · rw [hr1] at hsg
        rw [hr2] at hpw
        refine pcr_byq ok17 hG (n := 96) (rv := [.cell 6 true 3, .tmp 7]) fun r hr => ?_; unfold c17 st0
        (have we1 := e1; exact xwalkd1)
    · rcases hmg with ⟨hr0, hr1, hr2⟩ | ⟨hr0, hr1, hr2⟩
      · rw [hr1] at hsg
        rw [hr2] at hpw
        refine pcr_byq ok17 hG (n := 96) (rv := [.cell 6 true 3, .tmp 7]) fun r hr => ?_; unfold c17 st0
        (have we1 := e1; exact xwalkd1)
      · rw [hr1] at hsg
        rw [hr2] at hpw
        refine pcr_byq ok17 hG (n := 96) (rv := [.cell 6 true 3, .tmp 7]) fun r hr => ?_; unfold c17 st0
        (have we1 := e1; exact xwalkd1)
end Go.Proofs.YtapikjmijmebpaaGreatDoorK.RoundT
