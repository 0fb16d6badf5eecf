/-
  Package round: Mode, goesUp, Int, tens, made, To, over, Step: what they compute.
-/
import Derived.Test.YtapikjmijmebpaaGreatDoorKIrRound
import Derived.Test.YtapikjmijmebpaaGreatDoorKRq
import Derived.Test.YtapikjmijmebpaaGreatDoorKDecA
set_option linter.all false
set_option linter.unusedVariables false
set_option linter.unusedSimpArgs false
set_option maxHeartbeats 4000000
namespace Go.Proofs.YtapikjmijmebpaaGreatDoorK.RoundT
open Go.Proofs.YtapikjmijmebpaaGreatDoorK.AI Go.Proofs.YtapikjmijmebpaaGreatDoorK.NatIr Go.Proofs.YtapikjmijmebpaaGreatDoorK.Dig Go.Proofs.YtapikjmijmebpaaGreatDoorK.NatT Go.Proofs.YtapikjmijmebpaaGreatDoorK.NumT Go.Proofs.YtapikjmijmebpaaGreatDoorK.RatT Go.Proofs.YtapikjmijmebpaaGreatDoorK.DecT
set_option linter.unusedSimpArgs false
attribute [local irreducible] awp awpOps
attribute [local go_sem] getO putE_same putE_ne putE_none un0_at ini_zero ini_one ini_two ini_three ne_eq not_false_eq_true Nat.zero_ne_one Nat.one_ne_zero zero_ne_succ succ_ne_zero sym_nil sym_cons symG_call symG_op symG_skip IOp.isCall gd st_mv st_pick st_new st_box st_build st_lit st_load st_store st_faddr st_fld st_iaddrS st_iaddrA st_idxs st_bin st_beq st_neg st_not st_conv st_slcS st_slcL st_make st_app st_lenS st_lenL st_mx st_mn st_ext st_nilck st_bstr byD pureC loadC setH hv boundO D.cells D.one D.boxable fillD putD rowD binC intBinC decT decF dec_true dec_false bne_self_eq_false beq_self_eq_true beq_true_false beq_false_true bne_iff_ne List.length_nil List.length_cons List.getD_cons_zero List.getD_cons_succ List.set_cons_zero List.set_cons_succ List.all_cons List.all_nil Bool.and_true Bool.true_and Nat.lt_irrefl Nat.sub_self Nat.zero_add Nat.add_zero Nat.mul_one Nat.lt_add_one if_true if_false List.replicate_zero List.nil_append List.cons_append List.append_nil List.map_cons List.map_nil Bool.false_eq_true or_self or_true true_or or_false false_or true_and and_true and_self Int.ofNat_zero wrap_i64 wrap_u32 wrap_u64 wrap_u8 wrap_u32_mod wrap_u64_mod Nat.zero_lt_one Int.toNat_natCast Int.sub_zero toNat_pred List.take_succ_cons List.take_zero List.drop_succ_cons List.drop_zero List.take_nil List.drop_nil Nat.le_refl List.length_singleton rvDs rvD ldD one? Option.bind_some Option.map_some resD_int resD_bool resD_str resD_sl resD_rp resD_nils resD_null resD_agg resD_tup resD_own rdOwn resD_ptr rdPtr rd_ite resL_eq go_nil go_cons D.imm resArgs shr32 shl32 Nat.zero_mul Bool.and_self Bool.and_false Bool.false_and strBin_eql strBin_neq Bool.not_true Bool.not_false i64max List.length_reverse List.length_set SS_length SS_getD SS_set SS_take SS_drop SS_imm SS_one SS_app1 W_get1 W_len1 W_getD W_set W_take W_drop W_app W_length W_imm W_one W_repl N mx_nat toNat_succ toNat_add toNat_pred2 tdiv_nn tmod_nn List.take_of_length_le cast_succ and_one or_shl32 min64 shr32b shl32b IntKind.bits
attribute [local go_sem] nl ZD
attribute [local go_sem] QD
attribute [local go_sem] DD not_true_eq_false not_false_eq_true
variable {G : World → Prop} {L M X Y s : Nat} {x r p : Rat} {z f m : Int} {b : Bool} {d e : D}
def mok (m : Int) : Bool := decide (1 ≤ m) && decide (m ≤ 7)
theorem mok_iff : mok m = true ↔ 1 ≤ m ∧ m ≤ 7 := by simp [mok]
theorem pcr_mode (hG : Stable G) (m : Int) : PCr Tryz.prog G 19 [.int .i64 m] (.bool (mok m)) := by
  unfold mok
  by_cases h1 : 1 ≤ m
  case neg =>
    rw [decide_eq_false h1]
    refine pcr_byq ok19 hG (n := 9) (rv := [.tmp 2]) fun r hr => ?_; unfold c19 st0
    (exact xwalkd)
  by_cases h2 : m ≤ 7
  · rw [decide_eq_true h1, decide_eq_true h2]
    refine pcr_byq ok19 hG (n := 9) (rv := [.tmp 2]) fun r hr => ?_; unfold c19 st0
    (exact xwalkd)
  · rw [decide_eq_true h1, decide_eq_false h2]
    refine pcr_byq ok19 hG (n := 9) (rv := [.tmp 2]) fun r hr => ?_; unfold c19 st0
    (exact xwalkd)
theorem fl_nat (hx : Qm L r d) : r.floor.natAbs < 4294967296 ^ L := by
  rw [Rat.floor_def]
  exact Nat.lt_of_le_of_lt (Int.natAbs_ediv_le_natAbs r.num r.den) hx.lt.1
theorem qm_z (h0 : 1 ≤ L) (h : f.natAbs < 4294967296 ^ L) : Qm L (f : Rat) (QD (f : Rat)) := qm_QD h0 h (by rw [Rat.den_intCast]; exact pow_one_le h0)
set_option maxHeartbeats 8000000 in
theorem pcr_goesup (hG : Stable G) (hx : Qm L r d) (hp : Qm M p (QD p)) (hL : L < 10000) (hM : M < 10000) (hf : f = r.floor) (h1 : 1 ≤ m) (h7 : m ≤ 7) :
    PCr Tryz.prog G 76 [d, ZD f, QD p, .int .i64 m] (.bool (goes f p m)) := by
  have hs := RatT.pcr_sign hG hx (by omega)
  have ha := RatT.pcr_add hG hp hp (by omega) (by omega)
  have hi := RatT.pcr_int hG 1 (by omega) (by omega)
  have hc := RatT.pcr_cmp hG (qm_add hp hp) (qm_int 1 (by decide)) (by omega) (by omega)
  have h2 := NumT.pcr_of hG 2 (by omega) (by omega)
  have hfb := fl_nat hx
  rw [← hf] at hfb
  have hdv := NumT.pcr_div hG (zm_ZD hfb) (zm_ZD (z := 2) (L := 1) (by decide)) (by omega) (by omega) (by decide)
  have hsg := NumT.pcr_sign hG (L := L + 1) (zm_ZD (z := f % 2) (by
    have : (f % 2).natAbs < 2 := by omega
    have h3 := pow_one_le (L := L + 1) (by omega)
    omega)) (by omega)
  have hb : r.num.sign < 0 ↔ f < 0 := by
    rw [hf, ← below_iff]
    have := sgn3 r
    constructor
    · intro h
      rcases this with h4 | h4 | h4
      · exact h4.1
      · omega
      · omega
    · intro h
      rw [sg_negq h]; exact (by decide : (-1 : Int) < 0)
  have hh := sgn3 (p + p - ((1 : Int) : Rat))
  have e1 : (p + p - ((1 : Int) : Rat) < 0 ∧ ¬ p + p = 1 ∧ ¬ 1 < p + p) ∨ (p + p - ((1 : Int) : Rat) = 0 ∧ p + p = 1) ∨ (0 < p + p - ((1 : Int) : Rat) ∧ ¬ p + p = 1 ∧ 1 < p + p) := by
    rw [show ((1 : Int) : Rat) = 1 from rfl]
    rcases hh with h | h | h
    · left; refine ⟨h.1, ?_, ?_⟩ <;> grind
    · right; left; exact ⟨h.1, by grind⟩
    · right; right; refine ⟨h.1, ?_, ?_⟩ <;> grind
  obtain ⟨b0, X, Y, n, k, cs, ds, _, _, _, rfl⟩ := hx.row
  generalize r.num.sign = sr at *
  have hm : m = 1 ∨ m = 2 ∨ m = 3 ∨ m = 4 ∨ (5 ≤ m ∧ ¬ m = 1 ∧ ¬ m = 2 ∧ ¬ m = 3 ∧ ¬ m = 4) := by omega
  rcases hm with rfl | rfl | rfl | rfl | ⟨hm, hm1, hm2, hm3, hm4⟩
  · by_cases h : f < 0
    · have hb' := hb.2 h
      rw [show goes f p 1 = true by simp [goes, h]]
      refine pcr_byq ok76 hG (n := 56) (rv := [.tmp 8]) fun r hr => ?_; unfold c76 st0
      (exact xwalkd)
    · have hb' := mt hb.1 h
      rw [show goes f p 1 = false by simp [goes, h] <;> omega]
      refine pcr_byq ok76 hG (n := 56) (rv := [.tmp 8]) fun r hr => ?_; unfold c76 st0
      (exact xwalkd)
  · by_cases h : f < 0
    · have hb' := hb.2 h
      rw [show goes f p 2 = false by simp [goes, h]]
      refine pcr_byq ok76 hG (n := 56) (rv := [.tmp 8]) fun r hr => ?_; unfold c76 st0
      (exact xwalkd)
    · have hb' := mt hb.1 h
      rw [show goes f p 2 = true by simp [goes] <;> omega]
      refine pcr_byq ok76 hG (n := 56) (rv := [.tmp 8]) fun r hr => ?_; unfold c76 st0
      (exact xwalkd)
  · rw [show goes f p 3 = false by simp [goes]]
    refine pcr_byq ok76 hG (n := 56) (rv := [.tmp 8]) fun r hr => ?_; unfold c76 st0
    (exact xwalkd)
  · rw [show goes f p 4 = true by simp [goes]]
    refine pcr_byq ok76 hG (n := 56) (rv := [.tmp 8]) fun r hr => ?_; unfold c76 st0
    (exact xwalkd)
  · rw [goes_half hm]
    rcases e1 with ⟨h, h3, h4⟩ | ⟨h, h3⟩ | ⟨h, h3, h4⟩
    · rw [if_pos h3, decide_eq_false h4]
      rw [sg_negq h] at hc
      refine pcr_byq ok76 hG (n := 56) (rv := [.tmp 8]) fun r hr => ?_; unfold c76 st0
      (exact xwalkd)
    · rw [if_neg (fun h => h h3)]
      rw [sg_zero h] at hc
      by_cases h5 : m = 5
      · subst h5
        rw [if_pos rfl]
        by_cases h : f < 0
        · have hb' := hb.2 h
          rw [decide_eq_true h]
          refine pcr_byq ok76 hG (n := 56) (rv := [.tmp 8]) fun r hr => ?_; unfold c76 st0
          (exact xwalkd)
        · have hb' := mt hb.1 h
          rw [decide_eq_false h]
          refine pcr_byq ok76 hG (n := 56) (rv := [.tmp 8]) fun r hr => ?_; unfold c76 st0
          (exact xwalkd)
      · rw [if_neg h5]
        by_cases h6 : m = 6
        · subst h6
          rw [if_pos rfl]
          by_cases h : f < 0
          · have hb' := hb.2 h
            rw [decide_eq_true h]
            refine pcr_byq ok76 hG (n := 56) (rv := [.tmp 8]) fun r hr => ?_; unfold c76 st0
            (exact xwalkd)
          · have hb' := mt hb.1 h
            rw [decide_eq_false h]
            refine pcr_byq ok76 hG (n := 56) (rv := [.tmp 8]) fun r hr => ?_; unfold c76 st0
            (exact xwalkd)
        · rw [if_neg h6]
          by_cases h0 : f % 2 = 0
          · rw [decide_eq_false (fun h => h h0)]
            rw [h0] at hsg hdv
            rw [show (0 : Int).sign = 0 from rfl] at hsg
            refine pcr_byq ok76 hG (n := 56) (rv := [.tmp 8]) fun r hr => ?_; unfold c76 st0
            (exact xwalkd)
          · rw [decide_eq_true h0]
            rw [show f % 2 = 1 by omega] at hsg hdv
            rw [show (1 : Int).sign = 1 from rfl] at hsg
            refine pcr_byq ok76 hG (n := 56) (rv := [.tmp 8]) fun r hr => ?_; unfold c76 st0
            (exact xwalkd)
    · rw [if_pos h3, decide_eq_true h4]
      rw [sg_pos h] at hc
      refine pcr_byq ok76 hG (n := 56) (rv := [.tmp 8]) fun r hr => ?_; unfold c76 st0
      (exact xwalkd)
theorem rnd_nat (hx : Qm L r d) (m : Int) : (rnd r m).natAbs < 4294967296 ^ (L + 1) := by
  have h1 := fl_nat hx
  have h2 := rnd_or r m
  rw [Nat.pow_succ]
  omega
theorem pcr_rint0 (hG : Stable G) (hx : Qm L r d) (h : mok m = false) : PCr Tryz.prog G 15 [d, .int .i64 m] (.tup [ZD 0, .int .i64 1]) := by
  have hm := pcr_mode hG m
  rw [h] at hm
  obtain ⟨b0, X, Y, n, k, cs, ds, _, _, _, rfl⟩ := hx.row
  rw [ZD_zero]
  refine pcr_byq ok15 hG (n := 40) (rv := [.cell 4 true 2, .tmp 5]) fun r hr => ?_; unfold c15 st0
  (exact xwalkd)
set_option maxHeartbeats 4000000 in
theorem pcr_rint (hG : Stable G) (hx : Qm L r d) (hL : L < 4000) (h1 : 1 ≤ m) (h7 : m ≤ 7) : PCr Tryz.prog G 15 [d, .int .i64 m] (.tup [ZD (rnd r m), .int .i64 0]) := by
  have hm := pcr_mode hG m
  rw [mok_iff.2 ⟨h1, h7⟩] at hm
  have hfl := RatT.pcr_floor hG hx (by omega)
  have hfb := fl_nat hx
  have ho1 := NatT.pcr_of hG 1 (by omega)
  have hof := RatT.pcr_of hG (b := ng r.floor) (nm_N hfb) nm1 (by omega) (by omega) (by omega)
  rw [sg_self, mk_one] at hof
  have hfq := qm_z hx.pos hfb
  have hng := RatT.pcr_neg hG hfq (by omega)
  have had := RatT.pcr_add hG hx (qm_neg hfq) (by omega) (by omega)
  have hpq := qm_add hx (qm_neg hfq)
  rw [show r + -(r.floor : Rat) = r - r.floor from (Rat.sub_eq_add_neg _ _).symm] at had hpq
  have hsg := RatT.pcr_sign hG hpq (by omega)
  have hgo := pcr_goesup hG hx hpq (by omega) (by omega) rfl h1 h7
  have hz1 := NumT.pcr_of hG 1 (by omega) (by omega)
  have hza := NumT.pcr_add hG (zm_ZD hfb) (zm_ZD (z := 1) (L := 1) (by decide)) (by omega) (by omega)
  have h0 := sgn3 (r - r.floor)
  have e0 : r = (r.floor : Rat) ↔ r - r.floor = 0 := ⟨fun h => by rw [← h]; exact Rat.sub_self, fun h => by grind⟩
  obtain ⟨b0, X, Y, n, k, cs, ds, _, _, _, rfl⟩ := hx.row
  unfold rnd
  by_cases hz : r = (r.floor : Rat)
  · rw [if_pos hz]
    rw [sg_zero (e0.1 hz)] at hsg
    refine pcr_byq ok15 hG (n := 40) (rv := [.cell 4 true 2, .tmp 5]) fun r hr => ?_; unfold c15 st0
    (exact xwalkd)
  · have hsn : ¬ (r - r.floor).num.sign = 0 := by
      rcases h0 with h | h | h
      · omega
      · exact absurd (e0.2 h.1) hz
      · omega
    rw [if_neg hz]
    generalize (r - r.floor).num.sign = sp at *
    cases hg : goes r.floor (r - r.floor) m
    · rw [hg] at hgo
      rw [if_neg (by decide)]
      refine pcr_byq ok15 hG (n := 40) (rv := [.cell 4 true 2, .tmp 5]) fun r hr => ?_; unfold c15 st0
      (exact xwalkd)
    · rw [hg] at hgo
      rw [if_pos rfl]
      refine pcr_byq ok15 hG (n := 40) (rv := [.cell 4 true 2, .tmp 5]) fun r hr => ?_; unfold c15 st0
      (exact xwalkd)
theorem qm_ten : Qm 1 ((10 : Int) : Rat) (QD ((10 : Int) : Rat)) := qm_QD (by omega) (by decide) (by decide)
theorem cast_pow (k : Nat) : ((10 : Int) : Rat) ^ k = (10 : Rat) ^ k := rfl
theorem pcr_rtens (hG : Stable G) (k : Nat) (hk : k < 1000) : PCr Tryz.prog G 78 [.int .i64 (k : Int)] (QD ((10 : Rat) ^ k)) := by
  have h1 := RatT.pcr_int hG 10 (by omega) (by omega)
  have h2 := RatT.pcr_pow hG qm_ten k (by omega) hk
  rw [cast_pow] at h2
  refine pcr_byq ok78 hG (n := 12) (rv := [.cell 2 true 3]) fun r hr => ?_; unfold c78 st0
  (exact xwalkd)
theorem qm_tens (k : Nat) : Qm (k + 1) ((10 : Rat) ^ k) (QD ((10 : Rat) ^ k)) := by
  have := qm_pow qm_ten k
  rwa [cast_pow, Nat.one_mul] at this
theorem pcr_rmade (hG : Stable G) (h : z.natAbs < 4294967296 ^ L) (s : Nat) : PCr Tryz.prog G 79 [ZD z, .int .i64 (s : Int)] (DD (ng z) z.natAbs s) := by
  refine pcr_byq ok79 hG (n := 11) (rv := [.cell 4 true 3]) fun r hr => ?_; unfold c79 st0
  (exact xwalkd)
def rto (r : Rat) (s : Nat) (m : Int) : Int := rnd (r * (10 : Rat) ^ s) m
theorem qm_sc (hx : Qm L r d) (hs : s ≤ 60) : Qm (L + 61) (r * (10 : Rat) ^ s) (QD (r * (10 : Rat) ^ s)) := (qm_mul hx (qm_tens s)).up (by omega)
theorem rto_nat (hx : Qm L r d) (hs : s ≤ 60) (m : Int) : (rto r s m).natAbs < 4294967296 ^ (L + 62) := rnd_nat (qm_sc hx hs) m
theorem pcr_to (hG : Stable G) (hx : Qm L r d) (hL : L < 3000) (hs : s ≤ 60) (h1 : 1 ≤ m) (h7 : m ≤ 7) : PCr Tryz.prog G 16 [d, .int .i64 (s : Int), .int .i64 m] (.tup [DD (ng (rto r s m)) (rto r s m).natAbs s, .int .i64 0]) := by
  have ht := pcr_rtens hG s (by omega)
  have hmu := RatT.pcr_mul hG hx (qm_tens s) (by omega) (by omega)
  have hri := pcr_rint hG (qm_sc hx hs) (by omega) h1 h7
  have hmd := pcr_rmade hG (rto_nat hx hs m) s
  unfold rto at *
  obtain ⟨b0, X, Y, n, k, cs, ds, _, _, _, rfl⟩ := hx.row
  refine pcr_byq ok16 hG (n := 33) (rv := [.cell 6 true 3, .tmp 7]) fun r hr => ?_; unfold c16 st0
  (exact xwalkd)
theorem pcr_to0 (hG : Stable G) (hx : Qm L r d) (hL : L < 3000) (k : Int) (h : (k < 0 ∨ 60 < k) ∨ mok m = false) : PCr Tryz.prog G 16 [d, .int .i64 k, .int .i64 m] (.tup [DD false 0 0, .int .i64 1]) := by
  rw [DD_zero]
  by_cases hk1 : k < 0
  · obtain ⟨b0, X, Y, n, k, cs, ds, _, _, _, rfl⟩ := hx.row
    refine pcr_byq ok16 hG (n := 33) (rv := [.cell 6 true 3, .tmp 7]) fun r hr => ?_; unfold c16 st0
    (exact xwalkd)
  by_cases hk2 : 60 < k
  · obtain ⟨b0, X, Y, n, k, cs, ds, _, _, _, rfl⟩ := hx.row
    refine pcr_byq ok16 hG (n := 33) (rv := [.cell 6 true 3, .tmp 7]) fun r hr => ?_; unfold c16 st0
    (exact xwalkd)
  obtain ⟨s, rfl⟩ : ∃ s : Nat, k = s := ⟨k.toNat, by omega⟩
  have hm : mok m = false := by
    rcases h with h | h
    · omega
    · exact h
  have ht := pcr_rtens hG s (by omega)
  have hmu := RatT.pcr_mul hG hx (qm_tens s) (by omega) (by omega)
  have hri := pcr_rint0 hG (qm_sc (s := s) hx (by omega)) hm
  obtain ⟨b0, X, Y, n, k, cs, ds, _, _, _, rfl⟩ := hx.row
  refine pcr_byq ok16 hG (n := 33) (rv := [.cell 6 true 3, .tmp 7]) fun r hr => ?_; unfold c16 st0
  (exact xwalkd)
theorem pcr_over (hG : Stable G) (hx : Qm L x d) (hy : Qm M r e) (h0 : r ≠ 0) (hL : L < 10000) (hM : M < 10000) : PCr Tryz.prog G 85 [d, e] (QD (x * r⁻¹)) := by
  have h1 := RatT.pcr_inv hG hy (by omega) h0
  have h2 := RatT.pcr_mul hG hx (qm_inv hy) (by omega) (by omega)
  obtain ⟨b0, X, Y, n, k, cs, ds, _, _, _, rfl⟩ := hx.row
  obtain ⟨b1, X1, Y1, n1, k1, cs1, ds1, _, _, _, rfl⟩ := hy.row
  refine pcr_byq ok85 hG (n := 15) (rv := [.cell 4 true 3]) fun r hr => ?_; unfold c85 st0
  (exact xwalkd)
end Go.Proofs.YtapikjmijmebpaaGreatDoorK.RoundT
