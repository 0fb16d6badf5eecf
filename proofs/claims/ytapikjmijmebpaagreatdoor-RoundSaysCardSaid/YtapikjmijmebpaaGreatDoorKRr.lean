/-
  Joined: RefRnd, RefRnd2.
-/
import Derived.Test.YtapikjmijmebpaaGreatDoorKIrRefD
import Derived.Test.YtapikjmijmebpaaGreatDoorKRd
import Derived.Test.YtapikjmijmebpaaGreatDoorKRoundC
import Derived.Test.YtapikjmijmebpaaGreatDoorKIrRefQ
set_option linter.all false
set_option linter.unusedVariables false
set_option linter.unusedSimpArgs false
set_option maxHeartbeats 4000000
/-
  The document's rounding: Int, scaled, To, Step, Sig: what they compute.
-/
namespace Go.Proofs.YtapikjmijmebpaaGreatDoorK.RefT
open Go.Proofs.YtapikjmijmebpaaGreatDoorK.AI Go.Proofs.YtapikjmijmebpaaGreatDoorK.NatIr Go.Proofs.YtapikjmijmebpaaGreatDoorK.Dig Go.Proofs.YtapikjmijmebpaaGreatDoorK.NatT Go.Proofs.YtapikjmijmebpaaGreatDoorK.NumT Go.Proofs.YtapikjmijmebpaaGreatDoorK.RatT Go.Proofs.YtapikjmijmebpaaGreatDoorK.DecT Go.Proofs.YtapikjmijmebpaaGreatDoorK.RoundT
set_option linter.unusedSimpArgs false
attribute [local irreducible] awp awpOps
attribute [local go_sem] getO putE_same putE_ne putE_none un0_at ini_zero ini_one ini_two ini_three ne_eq not_false_eq_true Nat.zero_ne_one Nat.one_ne_zero zero_ne_succ succ_ne_zero sym_nil sym_cons symG_call symG_op symG_skip IOp.isCall gd st_mv st_pick st_new st_box st_build st_lit st_load st_store st_faddr st_fld st_iaddrS st_iaddrA st_idxs st_bin st_beq st_neg st_not st_conv st_slcS st_slcL st_make st_app st_lenS st_lenL st_mx st_mn st_ext st_nilck st_bstr byD pureC loadC setH hv boundO D.cells D.one D.boxable fillD putD rowD binC intBinC decT decF dec_true dec_false bne_self_eq_false beq_self_eq_true beq_true_false beq_false_true bne_iff_ne List.length_nil List.length_cons List.getD_cons_zero List.getD_cons_succ List.set_cons_zero List.set_cons_succ List.all_cons List.all_nil Bool.and_true Bool.true_and Nat.lt_irrefl Nat.sub_self Nat.zero_add Nat.add_zero Nat.mul_one Nat.lt_add_one if_true if_false List.replicate_zero List.nil_append List.cons_append List.append_nil List.map_cons List.map_nil Bool.false_eq_true or_self or_true true_or or_false false_or true_and and_true and_self Int.ofNat_zero wrap_i64 wrap_u32 wrap_u64 wrap_u8 wrap_u32_mod wrap_u64_mod Nat.zero_lt_one Int.toNat_natCast Int.sub_zero toNat_pred List.take_succ_cons List.take_zero List.drop_succ_cons List.drop_zero List.take_nil List.drop_nil Nat.le_refl List.length_singleton rvDs rvD ldD one? Option.bind_some Option.map_some resD_int resD_bool resD_str resD_sl resD_rp resD_nils resD_null resD_agg resD_tup resD_own rdOwn resD_ptr rdPtr rd_ite resL_eq go_nil go_cons D.imm resArgs shr32 shl32 Nat.zero_mul Bool.and_self Bool.and_false Bool.false_and strBin_eql strBin_neq Bool.not_true Bool.not_false i64max List.length_reverse List.length_set SS_length SS_getD SS_set SS_take SS_drop SS_imm SS_one SS_app1 W_get1 W_len1 W_getD W_set W_take W_drop W_app W_length W_imm W_one W_repl N mx_nat toNat_succ toNat_add toNat_pred2 tdiv_nn tmod_nn List.take_of_length_le cast_succ and_one or_shl32 min64 shr32b shl32b IntKind.bits
attribute [local go_sem] V_getD V_set V_take V_drop V_imm V_one V_app V_app1 V_repl V_get1 V_length M List.length_append
attribute [local go_sem] nl ZD MZ
attribute [local go_sem] QD MQ
attribute [local go_sem] MD List.size_toArray ba_size not_true_eq_false not_false_eq_true
variable {G : World → Prop} {L M' X Y s : Nat} {x r : Rat} {b : Bool} {d e : D} {m : Int}
theorem den_iff (x : Rat) : x.den = 1 ↔ x = (x.floor : Rat) := by
  constructor
  · intro h
    have h1 := num_den x
    rw [h, show ((1 : Nat) : Rat) = 1 from rfl, Rat.mul_one] at h1
    have h2 : x.floor = x.num := by rw [h1, Rat.floor_intCast, ← h1]
    rw [h2]; exact h1
  · intro h
    rw [h, Rat.den_intCast]
theorem MQ_int (z : Int) : MQ ((z : Int) : Rat) = .agg [.bool (ng z), M z.natAbs, M 1] := by
  unfold MQ
  rw [Rat.num_intCast, Rat.den_intCast]
theorem qhalf : mkRat 1 2 = (1 : Rat) / 2 := by rw [Rat.mkRat_eq_div]; rfl
set_option maxHeartbeats 32000000 in
theorem pcr_intR (hG : Stable G) (hx : Qm L x d) (hL : L < 300) (h1 : 1 ≤ m) (h7 : m ≤ 7) : PCr Tryz.prog G 21 [MQ x, .int .i64 m] (MZ (rnd x m)) := by
  have hf := pcr_qfloor hG hx (by omega)
  have hfb := fl_nat hx
  have hfb1 : (x.floor + 1).natAbs < 4294967296 ^ (L + 1) := by rw [Nat.pow_succ]; omega
  have hdl := wd4_lt hx.lt.2
  have ht := pcr_rtext hG x.den (by omega)
  have e1 := text_one (n := x.den)
  have hz1 := pcr_zint hG 1 (by omega) (by omega)
  have ha := pcr_zadd hG hfb (y := 1) (L' := 1) (by decide) (by omega) (by omega)
  have hs1 := pcr_rsmall hG 1 (by omega)
  have hs2 := pcr_rsmall hG 2 (by omega)
  rw [show ((1 : Nat) : Int) = 1 from rfl] at hs1
  rw [show ((2 : Nat) : Int) = 2 from rfl] at hs2
  have hn := pcr_qneg hG ((x.floor : Int) : Rat)
  rw [MQ_int] at hn
  have hfq := qm_z hx.pos hfb
  have hqa := pcr_qadd hG hx (qm_neg hfq) (by omega) (by omega)
  have hpq := qm_add hx (qm_neg hfq)
  rw [show x + -(x.floor : Rat) = x - x.floor from (Rat.sub_eq_add_neg _ _).symm] at hqa hpq
  have hho := pcr_qof hG (z := 1) (Y := 2) (L := 1) (L' := 1) (by decide) (by decide) (by decide) (by omega) (by omega)
  have hc := pcr_qcmp hG hpq (qm_le (n := 1) (d := 2) (L := 1) (by omega) (by decide) (by decide)) (by omega) (by omega)
  rw [qhalf] at hc hho
  have hdv := pcr_rdiv hG x.floor.natAbs 2 (by decide) (by have := wd4_lt hfb; omega) (by have := wd4_lt (X := 2) (n := 1) (by decide); omega)
  have hnd := den_iff x
  have hng : ng x.num = decide (x.floor < 0) := by
    have := num_neg_iff x
    have h2 := below_iff (r := x)
    exact decide_eq_decide.2 (by rw [this, h2])
  have hh := sgn3 (x - x.floor - 1 / 2)
  have hp3 : (x - x.floor - 1 / 2 < 0 ∧ ¬ (x - x.floor) + (x - x.floor) = 1 ∧ ¬ 1 < (x - x.floor) + (x - x.floor)) ∨ (x - x.floor - 1 / 2 = 0 ∧ (x - x.floor) + (x - x.floor) = 1) ∨ (0 < x - x.floor - 1 / 2 ∧ ¬ (x - x.floor) + (x - x.floor) = 1 ∧ 1 < (x - x.floor) + (x - x.floor)) := by
    rcases hh with h | h | h
    · left; refine ⟨h.1, ?_, ?_⟩ <;> grind
    · right; left; exact ⟨h.1, by grind⟩
    · right; right; refine ⟨h.1, ?_, ?_⟩ <;> grind
  unfold rnd
  by_cases hd : x = (x.floor : Rat)
  · rw [if_pos hd]
    rw [eq_true (hnd.2 hd)] at e1
    refine pcr_byq ok21 hG (n := 77) (rv := [.cell 4 true 2]) fun r hr => ?_; unfold c21 st0
    (have we1 := e1; exact xwalkd1)
  rw [if_neg hd]
  rw [eq_false (mt hnd.1 hd)] at e1
  have hm : m = 1 ∨ m = 2 ∨ m = 3 ∨ m = 4 ∨ (5 ≤ m ∧ ¬ m = 1 ∧ ¬ m = 2 ∧ ¬ m = 3 ∧ ¬ m = 4) := by omega
  generalize x.floor = f at *
  have hM0 : ∀ z : Int, MZ z = .agg [.bool (ng z), M z.natAbs] := fun z => rfl
  by_cases hf0 : f < 0
  · rw [decide_eq_true hf0] at hng
    rw [show MQ x = .agg [.bool true, M x.num.natAbs, M x.den] from by rw [MQ, hng]] at hf hqa ⊢
    rcases hm with rfl | rfl | rfl | rfl | ⟨hm, hm1, hm2, hm3, hm4⟩
    · rw [show goes f (x - f) 1 = true by simp [goes, hf0] <;> omega, if_pos rfl]
      refine pcr_byq ok21 hG (n := 77) (rv := [.cell 4 true 2]) fun r hr => ?_; unfold c21 st0
      (have we1 := e1; exact xwalkd1)
    · rw [show goes f (x - f) 2 = false by simp [goes, hf0] <;> omega, if_neg (by decide)]
      refine pcr_byq ok21 hG (n := 77) (rv := [.cell 4 true 2]) fun r hr => ?_; unfold c21 st0
      (have we1 := e1; exact xwalkd1)
    · rw [show goes f (x - f) 3 = false by simp [goes, hf0] <;> omega, if_neg (by decide)]
      refine pcr_byq ok21 hG (n := 77) (rv := [.cell 4 true 2]) fun r hr => ?_; unfold c21 st0
      (have we1 := e1; exact xwalkd1)
    · rw [show goes f (x - f) 4 = true by simp [goes, hf0] <;> omega, if_pos rfl]
      refine pcr_byq ok21 hG (n := 77) (rv := [.cell 4 true 2]) fun r hr => ?_; unfold c21 st0
      (have we1 := e1; exact xwalkd1)
    · have hgo := goes_half (f := f) (p := x - f) hm
      rcases hp3 with ⟨h, h3, h4⟩ | ⟨h, h3⟩ | ⟨h, h3, h4⟩
      · rw [if_pos h3, decide_eq_false h4] at hgo
        rw [hgo, if_neg (by decide)]
        rw [sg_negq h] at hc
        refine pcr_byq ok21 hG (n := 77) (rv := [.cell 4 true 2]) fun r hr => ?_; unfold c21 st0
        (have we1 := e1; exact xwalkd1)
      · rw [if_neg (fun h => h h3)] at hgo
        rw [sg_zero h] at hc
        by_cases h5 : m = 5
        · rw [if_pos h5, decide_eq_true hf0] at hgo
          rw [hgo, if_pos rfl]
          subst h5
          refine pcr_byq ok21 hG (n := 77) (rv := [.cell 4 true 2]) fun r hr => ?_; unfold c21 st0
          (have we1 := e1; exact xwalkd1)
        rw [if_neg h5] at hgo
        by_cases h6 : m = 6
        · rw [if_pos h6, decide_eq_true hf0] at hgo
          rw [hgo, if_neg (by decide)]
          subst h6
          refine pcr_byq ok21 hG (n := 77) (rv := [.cell 4 true 2]) fun r hr => ?_; unfold c21 st0
          (have we1 := e1; exact xwalkd1)
        rw [if_neg h6] at hgo
        by_cases h8 : f % 2 = 0
        · rw [decide_eq_false (fun h => h h8)] at hgo
          rw [hgo, if_neg (by decide)]
          have hw : (wd 10000 (f.natAbs % 2)).length = 0 := by rw [show f.natAbs % 2 = 0 by omega, wd_zero]; rfl
          refine pcr_byq ok21 hG (n := 77) (rv := [.cell 4 true 2]) fun r hr => ?_; unfold c21 st0
          (have we1 := e1; exact xwalkd1)
        · rw [decide_eq_true h8] at hgo
          rw [hgo, if_pos rfl]
          have hw := wd4_pos (X := f.natAbs % 2) (by omega)
          refine pcr_byq ok21 hG (n := 77) (rv := [.cell 4 true 2]) fun r hr => ?_; unfold c21 st0
          (have we1 := e1; exact xwalkd1)
      · rw [if_pos h3, decide_eq_true h4] at hgo
        rw [hgo, if_pos rfl]
        rw [sg_pos h] at hc
        refine pcr_byq ok21 hG (n := 77) (rv := [.cell 4 true 2]) fun r hr => ?_; unfold c21 st0
        (have we1 := e1; exact xwalkd1)
  · rw [decide_eq_false hf0] at hng
    rw [show MQ x = .agg [.bool false, M x.num.natAbs, M x.den] from by rw [MQ, hng]] at hf hqa ⊢
    rcases hm with rfl | rfl | rfl | rfl | ⟨hm, hm1, hm2, hm3, hm4⟩
    · rw [show goes f (x - f) 1 = false by simp [goes, hf0] <;> omega, if_neg (by decide)]
      refine pcr_byq ok21 hG (n := 77) (rv := [.cell 4 true 2]) fun r hr => ?_; unfold c21 st0
      (have we1 := e1; exact xwalkd1)
    · rw [show goes f (x - f) 2 = true by simp [goes, hf0] <;> omega, if_pos rfl]
      refine pcr_byq ok21 hG (n := 77) (rv := [.cell 4 true 2]) fun r hr => ?_; unfold c21 st0
      (have we1 := e1; exact xwalkd1)
    · rw [show goes f (x - f) 3 = false by simp [goes, hf0] <;> omega, if_neg (by decide)]
      refine pcr_byq ok21 hG (n := 77) (rv := [.cell 4 true 2]) fun r hr => ?_; unfold c21 st0
      (have we1 := e1; exact xwalkd1)
    · rw [show goes f (x - f) 4 = true by simp [goes, hf0] <;> omega, if_pos rfl]
      refine pcr_byq ok21 hG (n := 77) (rv := [.cell 4 true 2]) fun r hr => ?_; unfold c21 st0
      (have we1 := e1; exact xwalkd1)
    · have hgo := goes_half (f := f) (p := x - f) hm
      rcases hp3 with ⟨h, h3, h4⟩ | ⟨h, h3⟩ | ⟨h, h3, h4⟩
      · rw [if_pos h3, decide_eq_false h4] at hgo
        rw [hgo, if_neg (by decide)]
        rw [sg_negq h] at hc
        refine pcr_byq ok21 hG (n := 77) (rv := [.cell 4 true 2]) fun r hr => ?_; unfold c21 st0
        (have we1 := e1; exact xwalkd1)
      · rw [if_neg (fun h => h h3)] at hgo
        rw [sg_zero h] at hc
        by_cases h5 : m = 5
        · rw [if_pos h5, decide_eq_false hf0] at hgo
          rw [hgo, if_neg (by decide)]
          subst h5
          refine pcr_byq ok21 hG (n := 77) (rv := [.cell 4 true 2]) fun r hr => ?_; unfold c21 st0
          (have we1 := e1; exact xwalkd1)
        rw [if_neg h5] at hgo
        by_cases h6 : m = 6
        · rw [if_pos h6, decide_eq_false hf0] at hgo
          rw [hgo, if_pos (by decide)]
          subst h6
          refine pcr_byq ok21 hG (n := 77) (rv := [.cell 4 true 2]) fun r hr => ?_; unfold c21 st0
          (have we1 := e1; exact xwalkd1)
        rw [if_neg h6] at hgo
        by_cases h8 : f % 2 = 0
        · rw [decide_eq_false (fun h => h h8)] at hgo
          rw [hgo, if_neg (by decide)]
          have hw : (wd 10000 (f.natAbs % 2)).length = 0 := by rw [show f.natAbs % 2 = 0 by omega, wd_zero]; rfl
          refine pcr_byq ok21 hG (n := 77) (rv := [.cell 4 true 2]) fun r hr => ?_; unfold c21 st0
          (have we1 := e1; exact xwalkd1)
        · rw [decide_eq_true h8] at hgo
          rw [hgo, if_pos rfl]
          have hw := wd4_pos (X := f.natAbs % 2) (by omega)
          refine pcr_byq ok21 hG (n := 77) (rv := [.cell 4 true 2]) fun r hr => ?_; unfold c21 st0
          (have we1 := e1; exact xwalkd1)
      · rw [if_pos h3, decide_eq_true h4] at hgo
        rw [hgo, if_pos rfl]
        rw [sg_pos h] at hc
        refine pcr_byq ok21 hG (n := 77) (rv := [.cell 4 true 2]) fun r hr => ?_; unfold c21 st0
        (have we1 := e1; exact xwalkd1)
end Go.Proofs.YtapikjmijmebpaaGreatDoorK.RefT
/-
  The document's rounding: scaled, To, Step, powers of ten, Sig: what they compute.
-/
namespace Go.Proofs.YtapikjmijmebpaaGreatDoorK.RefT
open Go.Proofs.YtapikjmijmebpaaGreatDoorK.AI Go.Proofs.YtapikjmijmebpaaGreatDoorK.NatIr Go.Proofs.YtapikjmijmebpaaGreatDoorK.Dig Go.Proofs.YtapikjmijmebpaaGreatDoorK.NatT Go.Proofs.YtapikjmijmebpaaGreatDoorK.NumT Go.Proofs.YtapikjmijmebpaaGreatDoorK.RatT Go.Proofs.YtapikjmijmebpaaGreatDoorK.DecT Go.Proofs.YtapikjmijmebpaaGreatDoorK.RoundT
set_option linter.unusedSimpArgs false
attribute [local irreducible] awp awpOps
attribute [local go_sem] getO putE_same putE_ne putE_none un0_at ini_zero ini_one ini_two ini_three ne_eq not_false_eq_true Nat.zero_ne_one Nat.one_ne_zero zero_ne_succ succ_ne_zero sym_nil sym_cons symG_call symG_op symG_skip IOp.isCall gd st_mv st_pick st_new st_box st_build st_lit st_load st_store st_faddr st_fld st_iaddrS st_iaddrA st_idxs st_bin st_beq st_neg st_not st_conv st_slcS st_slcL st_make st_app st_lenS st_lenL st_mx st_mn st_ext st_nilck st_bstr byD pureC loadC setH hv boundO D.cells D.one D.boxable fillD putD rowD binC intBinC decT decF dec_true dec_false bne_self_eq_false beq_self_eq_true beq_true_false beq_false_true bne_iff_ne List.length_nil List.length_cons List.getD_cons_zero List.getD_cons_succ List.set_cons_zero List.set_cons_succ List.all_cons List.all_nil Bool.and_true Bool.true_and Nat.lt_irrefl Nat.sub_self Nat.zero_add Nat.add_zero Nat.mul_one Nat.lt_add_one if_true if_false List.replicate_zero List.nil_append List.cons_append List.append_nil List.map_cons List.map_nil Bool.false_eq_true or_self or_true true_or or_false false_or true_and and_true and_self Int.ofNat_zero wrap_i64 wrap_u32 wrap_u64 wrap_u8 wrap_u32_mod wrap_u64_mod Nat.zero_lt_one Int.toNat_natCast Int.sub_zero toNat_pred List.take_succ_cons List.take_zero List.drop_succ_cons List.drop_zero List.take_nil List.drop_nil Nat.le_refl List.length_singleton rvDs rvD ldD one? Option.bind_some Option.map_some resD_int resD_bool resD_str resD_sl resD_rp resD_nils resD_null resD_agg resD_tup resD_own rdOwn resD_ptr rdPtr rd_ite resL_eq go_nil go_cons D.imm resArgs shr32 shl32 Nat.zero_mul Bool.and_self Bool.and_false Bool.false_and strBin_eql strBin_neq Bool.not_true Bool.not_false i64max List.length_reverse List.length_set SS_length SS_getD SS_set SS_take SS_drop SS_imm SS_one SS_app1 W_get1 W_len1 W_getD W_set W_take W_drop W_app W_length W_imm W_one W_repl N mx_nat toNat_succ toNat_add toNat_pred2 tdiv_nn tmod_nn List.take_of_length_le cast_succ and_one or_shl32 min64 shr32b shl32b IntKind.bits
attribute [local go_sem] V_getD V_set V_take V_drop V_imm V_one V_app V_app1 V_repl V_get1 V_length M List.length_append
attribute [local go_sem] nl ZD MZ
attribute [local go_sem] QD MQ
attribute [local go_sem] MD List.size_toArray ba_size not_true_eq_false not_false_eq_true
variable {G : World → Prop} {L M' X Y s : Nat} {x r : Rat} {b : Bool} {d e : D} {m : Int}
theorem ten_cast (k : Nat) : ((10 ^ k : Nat) : Rat) = (10 : Rat) ^ k := by rw [Rat.natCast_pow]; rfl
theorem pcr_scaled (hG : Stable G) (hx : Qm L x d) (hL : L < 200) (hs : s ≤ 60) : PCr Tryz.prog G 96 [MQ x, .int .i64 (s : Int)] (MQ (x * (10 : Rat) ^ s)) := by
  have h1 := pcr_rsmall hG 1 (by omega)
  rw [show ((1 : Nat) : Int) = 1 from rfl] at h1
  have ht := pcr_rten hG s (by omega)
  have hm := pcr_qmul hG hx (qm_tenN hs) (by omega) (by omega)
  rw [MQ_ten, ten_cast] at hm
  refine pcr_byq ok96 hG (n := 12) (rv := [.cell 4 true 3]) fun r hr => ?_; unfold c96 st0
  (exact xwalkd)
theorem pcr_toR (hG : Stable G) (hx : Qm L x d) (hL : L < 200) (hs : s ≤ 60) (h1 : 1 ≤ m) (h7 : m ≤ 7) : PCr Tryz.prog G 22 [MQ x, .int .i64 (s : Int), .int .i64 m] (.tup [MD (ng (rto x s m)) (rto x s m).natAbs s, .bool true]) := by
  have hsc := pcr_scaled hG hx hL hs
  have hi := pcr_intR hG (qm_sc hx hs) (by omega) h1 h7
  unfold rto
  rw [MZ] at hi
  refine pcr_byq ok22 hG (n := 35) (rv := [.cell 6 true 3, .tmp 7]) fun r hr => ?_; unfold c22 st0
  (exact xwalkd)
theorem pcr_toR0 (hG : Stable G) (x : Rat) (k : Int) (h : (k < 0 ∨ 60 < k) ∨ mok m = false) : PCr Tryz.prog G 22 [MQ x, .int .i64 k, .int .i64 m] (.tup [MD false 0 0, .bool false]) := by
  rw [MD_zero]
  by_cases h1 : k < 0
  · refine pcr_byq ok22 hG (n := 35) (rv := [.cell 6 true 3, .tmp 7]) fun r hr => ?_; unfold c22 st0
    (exact xwalkd)
  by_cases h2 : 60 < k
  · refine pcr_byq ok22 hG (n := 35) (rv := [.cell 6 true 3, .tmp 7]) fun r hr => ?_; unfold c22 st0
    (exact xwalkd)
  have h3 : ¬ (1 ≤ m ∧ m ≤ 7) := by
    rcases h with h | h
    · omega
    · intro h4; rw [mok_iff.2 h4] at h; cases h
  by_cases h4 : m < 1
  · refine pcr_byq ok22 hG (n := 35) (rv := [.cell 6 true 3, .tmp 7]) fun r hr => ?_; unfold c22 st0
    (exact xwalkd)
  · have h5 : 7 < m := by omega
    refine pcr_byq ok22 hG (n := 35) (rv := [.cell 6 true 3, .tmp 7]) fun r hr => ?_; unfold c22 st0
    (exact xwalkd)
theorem pcr_stepR0 (hG : Stable G) (x : Rat) (b : Bool) (Y t : Nat) (h : (b = true ∨ Y = 0) ∨ mok m = false) : PCr Tryz.prog G 25 [MQ x, MD b Y t, .int .i64 m] (.tup [MD false 0 0, .bool false]) := by
  rw [MD_zero]
  cases b
  case true =>
    refine pcr_byq ok25 hG (n := 43) (rv := [.cell 6 true 3, .tmp 7]) fun r hr => ?_; unfold c25 st0
    (exact xwalkd)
  by_cases hY : Y = 0
  · have hw : (wd 10000 Y).length = 0 := by rw [hY, wd_zero]; rfl
    refine pcr_byq ok25 hG (n := 43) (rv := [.cell 6 true 3, .tmp 7]) fun r hr => ?_; unfold c25 st0
    (exact xwalkd)
  have hw := wd4_pos hY
  have h3 : ¬ (1 ≤ m ∧ m ≤ 7) := by
    rcases h with h | h
    · rcases h with h | h
      · cases h
      · exact absurd h hY
    · intro h4; rw [mok_iff.2 h4] at h; cases h
  by_cases h4 : m < 1
  · refine pcr_byq ok25 hG (n := 43) (rv := [.cell 6 true 3, .tmp 7]) fun r hr => ?_; unfold c25 st0
    (exact xwalkd)
  · have h5 : 7 < m := by omega
    refine pcr_byq ok25 hG (n := 43) (rv := [.cell 6 true 3, .tmp 7]) fun r hr => ?_; unfold c25 st0
    (exact xwalkd)
set_option maxHeartbeats 4000000 in
theorem pcr_stepR (hG : Stable G) (hx : Qm L x d) (hL : L < 100) (hs : s ≤ 60) (hY : Y < 4294967296 ^ M') (hM : M' < 100) (hY0 : Y ≠ 0) (h1 : 1 ≤ m) (h7 : m ≤ 7) :
    PCr Tryz.prog G 25 [MQ x, MD false Y s, .int .i64 m] (.tup [MD (ng (stz x Y s m)) (stz x Y s m).natAbs s, .bool true]) := by
  have hw := wd4_pos hY0
  have hra := pcr_dratR (b := false) hG hY (by omega) hs
  have hpos := dq_pos (s := s) hY0
  have hne : dq false Y s ≠ 0 := fun h => by rw [h] at hpos; exact absurd hpos (by decide)
  have hqi := pcr_qinv hG (dq false Y s) hne
  have hq := qm_dq (b := false) (s := s) ⟨fun h => Bool.noConfusion h, hs⟩ hY
  have hqm := pcr_qmul hG hx (qm_inv hq) (by omega) (by omega)
  have hi := pcr_intR hG (qm_mul hx (qm_inv hq)) (by omega) h1 h7
  have hrb := rnd_nat (qm_mul hx (qm_inv hq)) m
  have l1 := wd4_lt hrb
  have l2 := wd4_lt hY
  have hmu := pcr_rmul hG (rnd (x * (dq false Y s)⁻¹) m).natAbs Y (by omega) (by omega)
  have e1 : (stz x Y s m).natAbs = (rnd (x * (dq false Y s)⁻¹) m).natAbs * Y := by rw [stz, Int.natAbs_mul, Int.natAbs_natCast]
  have e2 : ng (stz x Y s m) = ng (rnd (x * (dq false Y s)⁻¹) m) := by
    unfold stz ng
    refine decide_eq_decide.2 ⟨fun h => ?_, fun h => ?_⟩
    · refine Int.lt_of_not_ge fun h2 => ?_
      have := Int.mul_nonneg h2 (show (0 : Int) ≤ Y by omega)
      omega
    · exact Int.mul_neg_of_neg_of_pos h (by omega)
  rw [e1, e2]
  rw [MZ] at hi
  refine pcr_byq ok25 hG (n := 43) (rv := [.cell 6 true 3, .tmp 7]) fun r hr => ?_; unfold c25 st0
  (exact xwalkd)
set_option maxHeartbeats 4000000 in
theorem pcr_qpowX (hG : Stable G) (hx : Qm L x d) (K : Nat) (h : L * K + L < 900) : PCr Tryz.prog G 98 [MQ x, .int .i64 (K : Int)] (.tup [MQ (x ^ K), .bool true]) := by
  have h1 := pcr_qint hG 1 (by omega) (by omega)
  have hx' := hx.self
  have hL0 := hx.pos
  have hK : K < 900 := by have := Nat.le_mul_of_pos_left K (show 0 < L by omega); omega
  refine pcr_byq ok98 hG (n := 28) (rv := [.cell 4 true 3, .tmp 5]) fun r hr => ?_; unfold c98 st0
  (refine xwalk ?_)
  refine awp_loop (fun k σ => ∃ (i : Nat) (q : Rat), i ≤ K ∧ k = K - i ∧ q = x ^ i ∧
      σ = ⟨(putE (putE (putE (putE (putE (putE un0 (some 1) (.int .i64 ((K : Nat) : Int))) (some 2) (.ptr 0 0 0)) (some 4) (.ptr 1 0 0)) (some 5) (.bool false)) (some 6) (.ptr 2 0 0)) (some 7) (.int .i64 (i : Int))),
        [some (0, 38, 3, [.bool (ng (x).num), M (x).num.natAbs, M (x).den]), some (0, 38, 3, [.bool false, .nils, .nils]), some (0, 38, 3, [.bool (ng q.num), M q.num.natAbs, M q.den])]⟩) (K)
      (Ent.env (less_put (less_put (less_put (less_put (less_put (less_put (less_un0 _) ?_) ?_) ?_) ?_) ?_) ?_)) ⟨0, ((1 : Int) : Rat), Nat.zero_le _, rfl, by rw [Rat.pow_zero]; rfl, rfl⟩ ?_
  iterate 5 (· exact xlq)
  · show _ = D.int .i64 ((0 : Nat) : Int)
    exact xlq
  rintro k σ1 ⟨i, q, hi, rfl, hq, rfl⟩
  by_cases hlt : i < K
  · have hli := Nat.mul_le_mul_left L (show i ≤ K by omega)
    have hqm : Qm (L * i + 1) q (QD q) := by rw [hq]; exact qm_pow hx' i
    have hm := pcr_qmul hG hqm hx' (by omega) (by omega)
    (refine xwalk ?_)
    refine ⟨K - (i + 1), _, by omega, Ent.env (less_put (less_put (less_put (less_put (less_put (less_put (less_un0 _) ?_) ?_) ?_) ?_) ?_) ?_), i + 1, q * x, by omega, rfl, by rw [hq, Rat.pow_succ], rfl⟩
    iterate 5 (· exact xlq)
    · simp only [go_sem, Nat.reduceEqDiff, Nat.reduceAdd, Nat.reduceLT, Nat.reduceMul, Nat.reduceLeDiff, reduceCtorEq, Int.reduceNeg, Int.reduceToNat]
  · obtain rfl : i = K := by omega
    (refine xwalk ?_)
    refine xrt ?_
    rw [hr, ← hq]; rfl
set_option maxHeartbeats 4000000 in
theorem pcr_qpownX (hG : Stable G) (hx : Qm L x d) (K : Nat) (h : L * (K + 1) + L < 900) (h0 : x ≠ 0) (k : Int) (hkk : k = -((K : Int) + 1)) : PCr Tryz.prog G 98 [MQ x, .int .i64 k] (.tup [MQ (x⁻¹ ^ (K + 1)), .bool true]) := by
  have h1 := pcr_qint hG 1 (by omega) (by omega)
  have hs := pcr_qsign hG x
  have hi := pcr_qinv hG x h0
  have hx' := (qm_inv hx).self
  have hL0 := hx.pos
  have hK : K < 900 := by have := Nat.le_mul_of_pos_left (K + 1) (show 0 < L by omega); omega
  have hsg : ¬ x.num.sign = 0 := fun h => h0 (Rat.num_eq_zero.1 (Int.sign_eq_zero_iff_zero.1 h))
  have hneg : (0 : Int) - k = ((K + 1 : Nat) : Int) := by omega
  refine pcr_byq ok98 hG (n := 28) (rv := [.cell 4 true 3, .tmp 5]) fun r hr => ?_; unfold c98 st0
  (have we1 := hneg; refine xwalk1 ?_)
  refine awp_loop (fun k σ => ∃ (i : Nat) (q : Rat), i ≤ K + 1 ∧ k = K + 1 - i ∧ q = x⁻¹ ^ i ∧
      σ = ⟨(putE (putE (putE (putE (putE (putE un0 (some 1) (.int .i64 ((K + 1 : Nat) : Int))) (some 2) (.ptr 0 0 0)) (some 4) (.ptr 1 0 0)) (some 5) (.bool false)) (some 6) (.ptr 2 0 0)) (some 7) (.int .i64 (i : Int))),
        [some (0, 38, 3, [.bool (ng (x⁻¹).num), M (x⁻¹).num.natAbs, M (x⁻¹).den]), some (0, 38, 3, [.bool false, .nils, .nils]), some (0, 38, 3, [.bool (ng q.num), M q.num.natAbs, M q.den])]⟩) (K + 1)
      (Ent.env (less_put (less_put (less_put (less_put (less_put (less_put (less_un0 _) ?_) ?_) ?_) ?_) ?_) ?_)) ⟨0, ((1 : Int) : Rat), Nat.zero_le _, rfl, by rw [Rat.pow_zero]; rfl, rfl⟩ ?_
  · simp only [go_sem, Nat.reduceEqDiff, Nat.reduceAdd, Nat.reduceLT, Nat.reduceMul, Nat.reduceLeDiff, reduceCtorEq, Int.reduceNeg, Int.reduceToNat] <;> exact congrArg (D.int .i64) (by omega)
  iterate 4 (· exact xlq)
  · show _ = D.int .i64 ((0 : Nat) : Int)
    exact xlq
  rintro k σ1 ⟨i, q, hi, rfl, hq, rfl⟩
  by_cases hlt : i < K + 1
  · have hli := Nat.mul_le_mul_left L (show i ≤ K + 1 by omega)
    have hqm : Qm (L * i + 1) q (QD q) := by rw [hq]; exact qm_pow hx' i
    have hm := pcr_qmul hG hqm hx' (by omega) (by omega)
    (refine xwalk ?_)
    refine ⟨K + 1 - (i + 1), _, by omega, Ent.env (less_put (less_put (less_put (less_put (less_put (less_put (less_un0 _) ?_) ?_) ?_) ?_) ?_) ?_), i + 1, q * x⁻¹, by omega, rfl, by rw [hq, Rat.pow_succ], rfl⟩
    iterate 5 (· exact xlq)
    · simp only [go_sem, Nat.reduceEqDiff, Nat.reduceAdd, Nat.reduceLT, Nat.reduceMul, Nat.reduceLeDiff, reduceCtorEq, Int.reduceNeg, Int.reduceToNat]
  · obtain rfl : i = K + 1 := by omega
    (refine xwalk ?_)
    refine xrt ?_
    rw [hr, ← hq]; rfl
theorem pcr_qtq (hG : Stable G) (k : Int) (hk : k.natAbs < 400) : PCr Tryz.prog G 98 [MQ ((10 : Int) : Rat), .int .i64 k] (.tup [MQ (tq k), .bool true]) := by
  by_cases h : k < 0
  · obtain ⟨K, rfl⟩ : ∃ K : Nat, k = -((K : Int) + 1) := ⟨(-k - 1).toNat, by omega⟩
    have h2 := pcr_qpownX hG qm_ten K (by omega) (by decide) _ rfl
    rw [show -((K : Int) + 1) = -((K + 1 : Nat) : Int) by omega] at h2 ⊢
    rw [tq_negN]
    exact h2
  · obtain ⟨K, rfl⟩ : ∃ K : Nat, k = (K : Int) := ⟨k.toNat, by omega⟩
    rw [tq_nat]
    exact pcr_qpowX hG qm_ten K (by omega)
theorem MQ_mag (x : Rat) : MQ (mag x) = .agg [.bool false, M x.num.natAbs, M x.den] ∧ (mag x).num.natAbs = x.num.natAbs ∧ (mag x).den = x.den := by
  have h := num_neg_iff x
  unfold mag MQ
  split
  · rename_i h0
    rw [Rat.neg_num, Rat.neg_den, Int.natAbs_neg]
    refine ⟨?_, rfl, rfl⟩
    rw [show ng (-x.num) = false from decide_eq_false (by have := h.2 h0; omega)]
  · rename_i h0
    refine ⟨?_, rfl, rfl⟩
    rw [show ng x.num = false from decide_eq_false (mt h.1 h0)]
def mgR (r : Rat) (k : Nat) (m : Int) : D := if 60 < sgs r k then .tup [MD false 0 0, .int .i64 11] else .tup [MD (ng (sgv r k m).1) (sgv r k m).1.natAbs (sgv r k m).2, .int .i64 0]
theorem pcr_sigR1 (hG : Stable G) (x : Rat) (k : Int) (h : (k < 1 ∨ 40 < k) ∨ mok m = false) : PCr Tryz.prog G 23 [MQ x, .int .i64 k, .int .i64 m] (.tup [MD false 0 0, .int .i64 1]) := by
  rw [MD_zero]
  by_cases h1 : k < 1
  · refine pcr_byq ok23 hG (n := 132) (rv := [.cell 6 true 3, .tmp 7]) fun r hr => ?_; unfold c23 st0
    (exact xwalkd)
  by_cases h2 : 40 < k
  · refine pcr_byq ok23 hG (n := 132) (rv := [.cell 6 true 3, .tmp 7]) fun r hr => ?_; unfold c23 st0
    (exact xwalkd)
  have h3 : ¬ (1 ≤ m ∧ m ≤ 7) := by
    rcases h with h | h
    · omega
    · intro h4; rw [mok_iff.2 h4] at h; cases h
  by_cases h4 : m < 1
  · refine pcr_byq ok23 hG (n := 132) (rv := [.cell 6 true 3, .tmp 7]) fun r hr => ?_; unfold c23 st0
    (exact xwalkd)
  · have h5 : 7 < m := by omega
    refine pcr_byq ok23 hG (n := 132) (rv := [.cell 6 true 3, .tmp 7]) fun r hr => ?_; unfold c23 st0
    (exact xwalkd)
theorem pcr_sigR0 (hG : Stable G) (k : Nat) (hk1 : 1 ≤ k) (hk : k ≤ 40) (h1 : 1 ≤ m) (h7 : m ≤ 7) : PCr Tryz.prog G 23 [MQ 0, .int .i64 (k : Int), .int .i64 m] (.tup [MD false 0 (k - 1), .int .i64 0]) := by
  have hsg := pcr_qsign hG 0
  rw [show (0 : Rat).num.sign = 0 from rfl] at hsg
  have e1 : ((k - 1 : Nat) : Int) = (k : Int) - 1 := by omega
  rw [MD, M_zero, e1]
  refine pcr_byq ok23 hG (n := 132) (rv := [.cell 6 true 3, .tmp 7]) fun r hr => ?_; unfold c23 st0
  (exact xwalkd)
theorem ng_mul_ten (n : Int) (K : Nat) : ng (n * (10 : Int) ^ K) = ng n ∧ (n * (10 : Int) ^ K).natAbs = n.natAbs * 10 ^ K := by
  have hp : (0 : Int) < (10 : Int) ^ K := Int.pow_pos (by decide)
  refine ⟨decide_eq_decide.2 ⟨fun h => ?_, fun h => Int.mul_neg_of_neg_of_pos h hp⟩, by rw [Int.natAbs_mul, Int.natAbs_pow]; rfl⟩
  refine Int.lt_of_not_ge fun h2 => ?_
  have := Int.mul_nonneg h2 (Int.le_of_lt hp)
  omega
set_option maxHeartbeats 32000000 in
theorem pcr_sigR (hG : Stable G) (hx : Qm L x d) (hL : L < 20) (h0 : x ≠ 0) (k : Nat) (hk1 : 1 ≤ k) (hk : k ≤ 40) (h1 : 1 ≤ m) (h7 : m ≤ 7) :
    PCr Tryz.prog G 23 [MQ x, .int .i64 (k : Int), .int .i64 m] (mgR x k m) := by
  have hsg := pcr_qsign hG x
  have hsn : ¬ x.num.sign = 0 := fun h => h0 (Rat.num_eq_zero.1 (Int.sign_eq_zero_iff_zero.1 h))
  obtain ⟨hmq, hmn, hmd⟩ := MQ_mag x
  have hzo := pcr_zof hG false x.num.natAbs
  rw [MZ, sg_neg, sg_abs, Bool.false_and] at hzo
  have l1 := wd4_lt hx.lt.1
  have l2 := wd4_lt hx.lt.2
  have ht1 := pcr_rtext hG x.num.natAbs (by omega)
  have ht2 := pcr_rtext hG x.den (by omega)
  have b1 := dl_bnd hx.lt.1
  have b2 := dl_bnd hx.lt.2
  have b3 := dl_pos x.num.natAbs
  have b4 := dl_pos x.den
  have hq10 := pcr_qint hG 10 (by omega) (by omega)
  obtain ⟨hS, hpb⟩ := sgs_bnd hx k
  have hmqm := mag_qm hx
  have hmore := fun h => sgn_more (m := m) h0 hk1 h
  have hsv : sgn x k m = rnd (x * tq (sgs x k)) m := rfl
  have hzb := sgn_nat hx hk m
  have h1s := pcr_rsmall hG 1 (by omega)
  have h10s := pcr_rsmall hG 10 (by omega)
  rw [show ((1 : Nat) : Int) = 1 from rfl] at h1s
  rw [show ((10 : Nat) : Int) = 10 from rfl] at h10s
  have hpos : 0 ≤ sgs x k → sgs x k ≤ 60 → PCr Tryz.prog G 22 [MQ x, .int .i64 (sgs x k), .int .i64 m] (.tup [MD (ng (sgn x k m)) (sgn x k m).natAbs (sgs x k).toNat, .bool true]) := by
    intro hp h6
    have h := pcr_toR hG hx (by omega) (s := (sgs x k).toNat) (by omega) h1 h7
    have e : rto x (sgs x k).toNat m = sgn x k m := by
      rw [hsv, rto, ← tq_nat, show (((sgs x k).toNat : Nat) : Int) = sgs x k by omega]
    rw [e, show (((sgs x k).toNat : Nat) : Int) = sgs x k by omega] at h
    exact h
  have hneg : sgs x k < 0 → PCr Tryz.prog G 101 [.agg [.bool false, M (10 ^ (-sgs x k).toNat), M 1]] (MQ (tq (sgs x k))) ∧ PCr Tryz.prog G 100 [MQ x, MQ (tq (sgs x k))] (MQ (x * tq (sgs x k))) ∧ PCr Tryz.prog G 21 [MQ (x * tq (sgs x k)), .int .i64 m] (MZ (sgn x k m)) := by
    intro hn
    have hi := pcr_qinv hG ((10 ^ (-sgs x k).toNat : Nat) : Rat) (fun e => ten_ne _ (by exact_mod_cast e))
    rw [MQ_ten, ten_cast, ← tq_nat, ← tq_neg, show -(((-sgs x k).toNat : Nat) : Int) = sgs x k by omega] at hi
    exact ⟨hi, pcr_qmul hG hx (qm_tq (sgs x k) _ rfl) (by omega) (by omega), pcr_intR hG (qm_st hx hk) (by omega) h1 h7⟩
  have hten : sgs x k < 0 → PCr Tryz.prog G 99 [.int .i64 (0 - sgs x k)] (M (10 ^ (-sgs x k).toNat)) ∧ PCr Tryz.prog G 102 [M (sgn x k m).natAbs, M (10 ^ (-sgs x k).toNat)] (M ((sgn x k m).natAbs * 10 ^ (-sgs x k).toNat)) := by
    intro hn
    have ht := pcr_rten hG (-sgs x k).toNat (by omega)
    have l3 := wd4_lt hzb
    have l4 : (wd 10000 (10 ^ (-sgs x k).toNat)).length ≤ 3 * (-sgs x k).toNat := wd4_lt (Nat.pow_lt_pow_left (by decide) (by omega))
    refine ⟨?_, pcr_rmul hG _ _ (by omega) (by omega)⟩
    rwa [show (((-sgs x k).toNat : Nat) : Int) = 0 - sgs x k by omega] at ht
  have htx := pcr_rtext hG (sgn x k m).natAbs (by have := wd4_lt hzb; omega)
  have hdv := pcr_rdiv hG (sgn x k m).natAbs 10 (by decide) (by have := wd4_lt hzb; omega) (by have := wd4_lt (X := 10) (n := 1) (by decide); omega)
  have hdlb := dl_bnd hzb
  have hpow : 10 ^ k = 10 * 10 ^ (k - 1) := by rw [show k = (k - 1) + 1 by omega, Nat.pow_succ, Nat.add_sub_cancel, Nat.mul_comm]
  have hnt := ng_mul_ten (sgn x k m) (-sgs x k).toNat
  have hpw : ∃ E : Int, E.natAbs ≤ 10 * L + 1 ∧ (dl x.num.natAbs : Int) - dl x.den = E ∧ ((mag x < tq E ∧ sgs x k = (k : Int) - 1 - (E - 1)) ∨ (¬ mag x < tq E ∧ sgs x k = (k : Int) - 1 - E)) := by
    refine ⟨_, ?_, rfl, ?_⟩
    · omega
    · rw [hS, pwr, hmn, hmd]
      by_cases hlt : mag x < tq ((dl x.num.natAbs : Int) - dl x.den)
      · left; rw [if_pos hlt]; exact ⟨hlt, rfl⟩
      · right; rw [if_neg hlt]; exact ⟨hlt, rfl⟩
  obtain ⟨E, hEb, hE, hEc⟩ := hpw
  have hqt := pcr_qtq hG E (by omega)
  have hc := pcr_qcmp hG hmqm (qm_tq E _ rfl) (by omega) (by omega)
  rw [hmq] at hc
  have hcl := fun h : mag x < tq E => cmp_lt h
  have hcg : ¬ mag x < tq E → ¬ (mag x - tq E).num.sign < 0 := fun h h2 => h (cmp_lt_iff.1 h2)
  unfold mgR sgv
  unfold dl at *
  clear hS hpb hsv
  generalize sgn x k m = z at *
  generalize sgs x k = S at *
  generalize (mag x - tq E).num.sign = sn at *
  generalize x.num.sign = sx at *
  by_cases h60 : 60 < S
  · rw [if_pos h60, MD_zero]
    rcases hEc with ⟨hlt, hS⟩ | ⟨hlt, hS⟩
    · have e1 := hS.symm
      have hsn0 := hcl hlt
      refine pcr_byq ok23 hG (n := 132) (rv := [.cell 6 true 3, .tmp 7]) fun r hr => ?_; unfold c23 st0
      (have we1 := hE; have we2 := e1; exact xwalkd2)
    · have e1 := hS.symm
      have hsn0 := hcg hlt
      refine pcr_byq ok23 hG (n := 132) (rv := [.cell 6 true 3, .tmp 7]) fun r hr => ?_; unfold c23 st0
      (have we1 := hE; have we2 := e1; exact xwalkd2)
  rw [if_neg h60]
  by_cases hn : S < 0
  · obtain ⟨n1, n2, n3⟩ := hneg hn
    obtain ⟨n4, n5⟩ := hten hn
    rw [if_pos hn]
    dsimp only
    rw [hnt.1, hnt.2]
    rw [MZ] at n3
    clear hpos hneg hten
    rcases hEc with ⟨hlt, hS⟩ | ⟨hlt, hS⟩
    · have e1 := hS.symm
      have hsn0 := hcl hlt
      refine pcr_byq ok23 hG (n := 132) (rv := [.cell 6 true 3, .tmp 7]) fun r hr => ?_; unfold c23 st0
      (have we1 := hE; have we2 := e1; exact xwalkd2)
    · have e1 := hS.symm
      have hsn0 := hcg hlt
      refine pcr_byq ok23 hG (n := 132) (rv := [.cell 6 true 3, .tmp 7]) fun r hr => ?_; unfold c23 st0
      (have we1 := hE; have we2 := e1; exact xwalkd2)
  rw [if_neg hn]
  have hp := hpos (by omega) (by omega)
  have e2 : ((S.toNat : Nat) : Int) = S := by omega
  rw [MD, e2] at hp
  clear hpos hneg hten
  by_cases hm2 : 0 < S ∧ k < (Lib.decDigits z.natAbs).length
  · rw [if_pos hm2]
    obtain ⟨hm3, hm4⟩ := hm2
    have hzk := hmore hm4
    rw [hpow] at hzk
    generalize 10 ^ (k - 1) = W at *
    have e3 : (((S - 1).toNat : Nat) : Int) = S - 1 := by omega
    have e4 : ng (z / 10) = ng z := decide_eq_decide.2 (by omega)
    have e5 : (z / 10).natAbs = z.natAbs / 10 := by omega
    dsimp only
    rw [MD, e3, e4, e5]
    rcases hEc with ⟨hlt, hS⟩ | ⟨hlt, hS⟩
    · have e1 := hS.symm
      have hsn0 := hcl hlt
      refine pcr_byq ok23 hG (n := 132) (rv := [.cell 6 true 3, .tmp 7]) fun r hr => ?_; unfold c23 st0
      (have we1 := hE; have we2 := e1; exact xwalkd2)
    · have e1 := hS.symm
      have hsn0 := hcg hlt
      refine pcr_byq ok23 hG (n := 132) (rv := [.cell 6 true 3, .tmp 7]) fun r hr => ?_; unfold c23 st0
      (have we1 := hE; have we2 := e1; exact xwalkd2)
  · rw [if_neg hm2]
    dsimp only
    rw [MD, e2]
    have hm3 : (¬ k < (Lib.decDigits z.natAbs).length) ∨ (k < (Lib.decDigits z.natAbs).length ∧ S = 0) := by omega
    rcases hEc with ⟨hlt, hS⟩ | ⟨hlt, hS⟩
    · have e1 := hS.symm
      have hsn0 := hcl hlt
      rcases hm3 with h3 | ⟨h3, h4⟩
      · refine pcr_byq ok23 hG (n := 132) (rv := [.cell 6 true 3, .tmp 7]) fun r hr => ?_; unfold c23 st0
        (have we1 := hE; have we2 := e1; exact xwalkd2)
      · refine pcr_byq ok23 hG (n := 132) (rv := [.cell 6 true 3, .tmp 7]) fun r hr => ?_; unfold c23 st0
        (have we1 := hE; have we2 := e1; exact xwalkd2)
    · have e1 := hS.symm
      have hsn0 := hcg hlt
      rcases hm3 with h3 | ⟨h3, h4⟩
      · refine pcr_byq ok23 hG (n := 132) (rv := [.cell 6 true 3, .tmp 7]) fun r hr => ?_; unfold c23 st0
        (have we1 := hE; have we2 := e1; exact xwalkd2)
      · refine pcr_byq ok23 hG (n := 132) (rv := [.cell 6 true 3, .tmp 7]) fun r hr => ?_; unfold c23 st0
        (have we1 := hE; have we2 := e1; exact xwalkd2)
end Go.Proofs.YtapikjmijmebpaaGreatDoorK.RefT
