/-
  Package round: Step, power, Sig: what they compute.
-/
import Derived.Test.YtapikjmijmebpaaGreatDoorKIrRat
import Derived.Test.YtapikjmijmebpaaGreatDoorKIrRound
import Derived.Test.YtapikjmijmebpaaGreatDoorKRoundA
import Derived.Test.YtapikjmijmebpaaGreatDoorKRoundS
set_option linter.all false
set_option linter.unusedVariables false
set_option linter.unusedSimpArgs false
set_option maxHeartbeats 4000000
namespace Go.Proofs.YtapikjmijmebpaaGreatDoorK.RoundT
open Go.Proofs.YtapikjmijmebpaaGreatDoorK.AI Go.Proofs.YtapikjmijmebpaaGreatDoorK.NatIr Go.Proofs.YtapikjmijmebpaaGreatDoorK.Dig Go.Proofs.YtapikjmijmebpaaGreatDoorK.NatT Go.Proofs.YtapikjmijmebpaaGreatDoorK.NumT Go.Proofs.YtapikjmijmebpaaGreatDoorK.RatT Go.Proofs.YtapikjmijmebpaaGreatDoorK.DecT
set_option linter.unusedSimpArgs false
attribute [local irreducible] awp awpOps
attribute [local go_sem] getO putE_same putE_ne putE_none un0_at ini_zero ini_one ini_two ini_three ne_eq not_false_eq_true Nat.zero_ne_one Nat.one_ne_zero zero_ne_succ succ_ne_zero sym_nil sym_cons symG_call symG_op symG_skip IOp.isCall gd st_mv st_pick st_new st_box st_build st_lit st_load st_store st_faddr st_fld st_iaddrS st_iaddrA st_idxs st_bin st_beq st_neg st_not st_conv st_slcS st_slcL st_make st_app st_lenS st_lenL st_mx st_mn st_ext st_nilck st_bstr byD pureC loadC setH hv boundO D.cells D.one D.boxable fillD putD rowD binC intBinC decT decF dec_true dec_false bne_self_eq_false beq_self_eq_true beq_true_false beq_false_true bne_iff_ne List.length_nil List.length_cons List.getD_cons_zero List.getD_cons_succ List.set_cons_zero List.set_cons_succ List.all_cons List.all_nil Bool.and_true Bool.true_and Nat.lt_irrefl Nat.sub_self Nat.zero_add Nat.add_zero Nat.mul_one Nat.lt_add_one if_true if_false List.replicate_zero List.nil_append List.cons_append List.append_nil List.map_cons List.map_nil Bool.false_eq_true or_self or_true true_or or_false false_or true_and and_true and_self Int.ofNat_zero wrap_i64 wrap_u32 wrap_u64 wrap_u8 wrap_u32_mod wrap_u64_mod Nat.zero_lt_one Int.toNat_natCast Int.sub_zero toNat_pred List.take_succ_cons List.take_zero List.drop_succ_cons List.drop_zero List.take_nil List.drop_nil Nat.le_refl List.length_singleton rvDs rvD ldD one? Option.bind_some Option.map_some resD_int resD_bool resD_str resD_sl resD_rp resD_nils resD_null resD_agg resD_tup resD_own rdOwn resD_ptr rdPtr rd_ite resL_eq go_nil go_cons D.imm resArgs shr32 shl32 Nat.zero_mul Bool.and_self Bool.and_false Bool.false_and strBin_eql strBin_neq Bool.not_true Bool.not_false i64max List.length_reverse List.length_set SS_length SS_getD SS_set SS_take SS_drop SS_imm SS_one SS_app1 W_get1 W_len1 W_getD W_set W_take W_drop W_app W_length W_imm W_one W_repl N mx_nat toNat_succ toNat_add toNat_pred2 tdiv_nn tmod_nn List.take_of_length_le cast_succ and_one or_shl32 min64 shr32b shl32b IntKind.bits
attribute [local go_sem] nl ZD
attribute [local go_sem] QD
attribute [local go_sem] DD not_true_eq_false not_false_eq_true List.size_toArray ba_size
variable {G : World → Prop} {L M X Y s : Nat} {x r p : Rat} {z f m : Int} {b : Bool} {d e : D}
theorem dq_pos (hY : Y ≠ 0) : 0 < dq false Y s := by
  unfold dq
  rw [Rat.mkRat_eq_div, Rat.div_def]
  have h1 : (0 : Rat) < ((sg false Y : Int) : Rat) := by
    rw [show (0 : Rat) = ((0 : Int) : Rat) from rfl, Rat.intCast_lt_intCast]
    show (0 : Int) < (Y : Int)
    omega
  have h2 : (0 : Rat) < ((10 ^ s : Nat) : Rat)⁻¹ := by
    rw [Rat.natCast_pow]
    have h3 := tens_pos s
    rw [show ((10 : Nat) : Rat) = (10 : Rat) from rfl]
    have h4 := Rat.mul_inv_cancel _ (tens_ne s)
    rcases sgn3 ((10 : Rat) ^ s)⁻¹ with h | h | h
    · have := Rat.mul_pos h3 (show 0 < -((10 : Rat) ^ s)⁻¹ by grind)
      grind
    · rw [h.1, Rat.mul_zero] at h4; exact absurd h4 (by decide)
    · exact h.1
  exact Rat.mul_pos h1 h2
theorem dq_npos (h : b = true ∨ Y = 0) : (dq b Y s).num.sign ≤ 0 := by
  unfold dq
  rw [mk_num (ten_ne s)]
  rcases h with rfl | rfl
  · have : sg true (Y / Nat.gcd Y (10 ^ s)) ≤ 0 := by
      show -((Y / Nat.gcd Y (10 ^ s) : Nat) : Int) ≤ 0
      exact Int.neg_nonpos_of_nonneg (Int.natCast_nonneg _)
    have h2 := Int.sign_trichotomy (sg true (Y / Nat.gcd Y (10 ^ s)))
    rcases Int.lt_or_eq_of_le this with h | h
    · rw [Int.sign_eq_neg_one_of_neg h]; decide
    · rw [h]; decide
  · rw [Nat.zero_div]
    cases b <;> decide
def stz (x : Rat) (Y s : Nat) (m : Int) : Int := rnd (x * (dq false Y s)⁻¹) m * (Y : Int)
theorem qm_dq (h : Dok b Y s) (hY : Y < 4294967296 ^ M) : Qm (M + 7) (dq b Y s) (QD (dq b Y s)) := by
  refine qm_le (by omega) ?_ ?_
  · rw [sg_abs, Nat.pow_add]
    have := Nat.pow_pos (n := 7) (show 0 < 4294967296 by omega)
    have h2 := Nat.le_mul_of_pos_right (4294967296 ^ M) this
    omega
  · refine Nat.lt_of_lt_of_le (ten_lt h.2) (Nat.pow_le_pow_right (by omega) (by omega))
set_option maxHeartbeats 4000000 in
theorem pcr_step (hG : Stable G) (hx : Qm L x d) (hL : L < 1000) (h : Dok false Y s) (hY : Y < 4294967296 ^ M) (hM : M < 1000) (hY0 : Y ≠ 0) (h1 : 1 ≤ m) (h7 : m ≤ 7) :
    PCr Tryz.prog G 18 [d, DD false Y s, .int .i64 m] (.tup [DD (ng (stz x Y s m)) (stz x Y s m).natAbs s, .int .i64 0]) := by
  have hgd := pcr_dgoodD hG h hY (by omega)
  have hra := pcr_drat hG (Dm.self h hY) (by omega)
  have hq := qm_dq h hY
  have hsg := RatT.pcr_sign hG hq (by omega)
  have hpos := dq_pos (s := s) hY0
  rw [sg_pos hpos] at hsg
  have hov := pcr_over hG hx hq (fun h => by rw [h] at hpos; exact absurd hpos (by decide)) (by omega) (by omega)
  have hqv := qm_mul hx (qm_inv hq)
  have hri := pcr_rint hG hqv (by omega) h1 h7
  have hrb := rnd_nat hqv m
  have hmu := NumT.pcr_mul hG (zm_ZD hrb) (zm_sg (b := false) (nm_N hY)) (by omega) (by omega)
  rw [show sg false Y = (Y : Int) from rfl] at hmu
  have hsb := (zm_mul (zm_ZD hrb) (zm_sg (b := false) (nm_N hY))).lt
  rw [show sg false Y = (Y : Int) from rfl] at hsb
  have hmd := pcr_rmade hG hsb s
  unfold stz
  obtain ⟨b0, X0, Y0, n, k, cs, ds, _, _, _, rfl⟩ := hx.row
  refine pcr_byq ok18 hG (n := 42) (rv := [.cell 6 true 3, .tmp 7]) fun r hr => ?_; unfold c18 st0
  (exact xwalkd)
theorem pcr_step0 (hG : Stable G) (hx : Qm L x d) (hL : L < 1000) (b : Bool) (a : List Int) (n : Nat) (k : Int) (hn : n = a.length) (ha : ok 4294967296 a) (hl : a.length ≤ M) (hM : M < 1000) (h : gdB b a k = false ∨ b = true ∨ vl 4294967296 a = 0) :
    PCr Tryz.prog G 18 [d, .agg [.bool b, .sl n (W a), .int .i64 k], .int .i64 m] (.tup [DD false 0 0, .int .i64 1]) := by
  have hgd := pcr_dgood hG b a n k hn ha (by omega)
  have hx0 := hx
  obtain ⟨b0, X0, Y0, n0, k0, cs, ds, _, _, _, rfl⟩ := hx.row
  rw [DD_zero]
  cases hg : gdB b a k
  · rw [hg] at hgd
    have hra := pcr_drat hG (d := .agg [.bool b, .sl n (W a), .int .i64 k]) (L := M) (b := false) (X := 0) (s := 0) ⟨b, a, n, k, hn, ha, by omega, rfl, by rw [hg]; rfl⟩ (by omega)
    refine pcr_byq ok18 hG (n := 42) (rv := [.cell 6 true 3, .tmp 7]) fun r hr => ?_; unfold c18 st0
    (exact xwalkd)
  · rw [hg] at hgd
    have h1 := gdB_DD hn ha hg
    have hY : vl 4294967296 a < 4294967296 ^ M :=
      Nat.lt_of_lt_of_le (vl_lt ha) (Nat.pow_le_pow_right (by omega) hl)
    have hdm : Dm M b (vl 4294967296 a) k.toNat (.agg [.bool b, .sl n (W a), .int .i64 k]) := ⟨b, a, n, k, hn, ha, by omega, rfl, by rw [hg]; rfl⟩
    have hra := pcr_drat hG hdm (by omega)
    have hsg := RatT.pcr_sign hG (qm_dq h1.2 hY) (by omega)
    have hnp := dq_npos (s := k.toNat) (b := b) (Y := vl 4294967296 a) (by
      rcases h with h | h
      · rw [hg] at h; cases h
      · exact h)
    generalize (dq b (vl 4294967296 a) k.toNat).num.sign = sn at *
    refine pcr_byq ok18 hG (n := 42) (rv := [.cell 6 true 3, .tmp 7]) fun r hr => ?_; unfold c18 st0
    (exact xwalkd)
theorem pcr_stepm (hG : Stable G) (hx : Qm L x d) (hL : L < 1000) (h : Dok false Y s) (hY : Y < 4294967296 ^ M) (hM : M < 1000) (hY0 : Y ≠ 0) (hm : mok m = false) :
    PCr Tryz.prog G 18 [d, DD false Y s, .int .i64 m] (.tup [DD false 0 0, .int .i64 1]) := by
  have hgd := pcr_dgoodD hG h hY (by omega)
  have hra := pcr_drat hG (Dm.self h hY) (by omega)
  have hq := qm_dq h hY
  have hsg := RatT.pcr_sign hG hq (by omega)
  have hpos := dq_pos (s := s) hY0
  rw [sg_pos hpos] at hsg
  have hov := pcr_over hG hx hq (fun h => by rw [h] at hpos; exact absurd hpos (by decide)) (by omega) (by omega)
  have hri := pcr_rint0 hG (qm_mul hx (qm_inv hq)) hm
  obtain ⟨b0, X0, Y0, n, k, cs, ds, _, _, _, rfl⟩ := hx.row
  rw [DD_zero]
  refine pcr_byq ok18 hG (n := 42) (rv := [.cell 6 true 3, .tmp 7]) fun r hr => ?_; unfold c18 st0
  (exact xwalkd)
theorem pcr_pownegX (hG : Stable G) (hx : Qm L r d) (K : Nat) (h : L < 200) (hk : K < 900) (hb : L * K ≤ 20000) (h0 : r ≠ 0) (k : Int) (hkk : k = -((K : Int) + 1)) : PCr Tryz.prog G 64 [d, .int .i64 k] (.tup [QD (r⁻¹ ^ (K + 1)), .bool true]) := by
  have hp := RatT.pcr_plain hG hx (by omega)
  have h1 := RatT.pcr_inv hG hx.self (by omega) h0
  have h2 := RatT.pcr_pow hG (qm_inv hx) K h (by omega)
  have h3 := RatT.pcr_mul hG (qm_inv hx) (qm_pow (qm_inv hx) K) (by omega) (by omega)
  rw [show r⁻¹ * r⁻¹ ^ K = r⁻¹ ^ (K + 1) by rw [Rat.pow_succ, Rat.mul_comm]] at h3
  have e1 : (0 : Int) - (k + 1) = K := by omega
  obtain ⟨b1, X1, Y1, n1, m1, cs1, ds1, _, _, _, rfl⟩ := hx.row
  refine pcr_byq ok64 hG (n := 52) (rv := [.cell 4 true 3, .tmp 5]) fun r hr => ?_; unfold c64 st0
  (have we1 := e1; exact xwalkd1)
theorem qm_tq (k : Int) (K : Nat) (hk : k.natAbs = K) : Qm (K + 1) (tq k) (QD (tq k)) := by
  by_cases h : k < 0
  · have e : k = -(K : Int) := by omega
    rw [e, tq_neg, tq_nat]
    exact qm_inv (qm_tens K)
  · have e : k = (K : Int) := by omega
    rw [e, tq_nat]
    exact qm_tens K
theorem pcr_rtensI (hG : Stable G) (k : Int) (hk : k.natAbs < 500) : PCr Tryz.prog G 78 [.int .i64 k] (QD (tq k)) := by
  by_cases h : k < 0
  · obtain ⟨K, rfl⟩ : ∃ K : Nat, k = -((K : Int) + 1) := ⟨(-k - 1).toNat, by omega⟩
    have h1 := RatT.pcr_int hG 10 (by omega) (by omega)
    have h2 := pcr_pownegX hG qm_ten K (by omega) (by omega) (by omega) (by decide) _ rfl
    rw [show -((K : Int) + 1) = -((K + 1 : Nat) : Int) by omega] at h2 ⊢
    rw [tq_negN, ← show (((10 : Int) : Rat)⁻¹) ^ (K + 1) = (10 : Rat)⁻¹ ^ (K + 1) from rfl]
    refine pcr_byq ok78 hG (n := 12) (rv := [.cell 2 true 3]) fun r hr => ?_; unfold c78 st0
    (exact xwalkd)
  · obtain ⟨K, rfl⟩ : ∃ K : Nat, k = (K : Int) := ⟨k.toNat, by omega⟩
    rw [tq_nat]
    exact pcr_rtens hG K (by omega)
theorem dl_bnd (hx : X < 4294967296 ^ L) : dl X ≤ 10 * L + 1 := nm_dlen (nm_N hx)
theorem pwr_nat (hx : Qm L r d) : (pwr r).natAbs ≤ 10 * L + 2 := by
  have h1 := dl_bnd hx.lt.1
  have h2 := dl_bnd hx.lt.2
  have h3 := dl_pos r.num.natAbs
  have h4 := dl_pos r.den
  unfold pwr
  split <;> omega
set_option maxHeartbeats 4000000 in
theorem pcr_power (hG : Stable G) (hT : ∀ w, G w → Lib.TabIs Tryz.prog w "internal/strconv.uint64pow10" .u64 Lib.pow10Tab) (hx : Qm L r (QD r)) (hL : L < 30) : PCr Tryz.prog G 80 [QD r] (.int .i64 (pwr r)) := by
  have h1 := pcr_textN hG hT (nm_N hx.lt.1) (by omega)
  have h2 := pcr_textN hG hT (nm_N hx.lt.2) (by omega)
  have b1 := dl_bnd hx.lt.1
  have b2 := dl_bnd hx.lt.2
  have b3 := dl_pos r.num.natAbs
  have b4 := dl_pos r.den
  unfold pwr
  unfold dl at *
  generalize he : ((Lib.decDigits r.num.natAbs).length : Int) - ((Lib.decDigits r.den).length : Int) = e at *
  have h3 := pcr_rtensI hG e (by omega)
  have h4 := RatT.pcr_cmp hG hx (qm_tq e e.natAbs rfl) (by omega) (by omega)
  by_cases hlt : r < tq e
  · rw [if_pos hlt]
    rw [cmp_lt hlt] at h4
    refine pcr_byq ok80 hG (n := 22) (rv := [.tmp 2]) fun r hr => ?_; unfold c80 st0
    (have we1 := he; exact xwalkd1)
  · rw [if_neg hlt]
    have h5 : ¬ (r - tq e).num.sign < 0 := fun h => hlt (cmp_lt_iff.1 h)
    generalize (r - tq e).num.sign = sn at *
    refine pcr_byq ok80 hG (n := 22) (rv := [.tmp 2]) fun r hr => ?_; unfold c80 st0
    (have we1 := he; exact xwalkd1)
theorem pcr_sig1 (hG : Stable G) (hx : Qm L r d) (k : Int) (h : (k < 1 ∨ 40 < k) ∨ mok m = false) : PCr Tryz.prog G 17 [d, .int .i64 k, .int .i64 m] (.tup [DD false 0 0, .int .i64 1]) := by
  have hm := pcr_mode hG m
  obtain ⟨b0, X0, Y0, n0, k0, cs, ds, _, _, _, rfl⟩ := hx.row
  rw [DD_zero]
  by_cases h1 : k < 1
  · refine pcr_byq ok17 hG (n := 96) (rv := [.cell 6 true 3, .tmp 7]) fun r hr => ?_; unfold c17 st0
    (exact xwalkd)
  by_cases h2 : 40 < k
  · refine pcr_byq ok17 hG (n := 96) (rv := [.cell 6 true 3, .tmp 7]) fun r hr => ?_; unfold c17 st0
    (exact xwalkd)
  have hm0 : mok m = false := by
    rcases h with h | h
    · omega
    · exact h
  rw [hm0] at hm
  refine pcr_byq ok17 hG (n := 96) (rv := [.cell 6 true 3, .tmp 7]) fun r hr => ?_; unfold c17 st0
  (exact xwalkd)
theorem add0 (r : Rat) : r + ((0 : Int) : Rat) = r := Rat.add_zero r
theorem pcr_sig0 (hG : Stable G) (hx : Qm L 0 d) (hL : L < 1000) (k : Nat) (hk1 : 1 ≤ k) (hk : k ≤ 40) (h1 : 1 ≤ m) (h7 : m ≤ 7) : PCr Tryz.prog G 17 [d, .int .i64 (k : Int), .int .i64 m] (.tup [DD false 0 (k - 1), .int .i64 0]) := by
  have hm := pcr_mode hG m
  rw [mok_iff.2 ⟨h1, h7⟩] at hm
  have hi := RatT.pcr_int hG 0 (by omega) (by omega)
  have ha := RatT.pcr_add hG hx (qm_int 0 (by decide)) (by omega) (by omega)
  rw [add0] at ha
  have hsg := RatT.pcr_sign hG hx.self (by omega)
  rw [sg_zero rfl] at hsg
  have e1 : ((k - 1 : Nat) : Int) = (k : Int) - 1 := by omega
  obtain ⟨b0, X0, Y0, n0, k0, cs, ds, _, _, _, rfl⟩ := hx.row
  rw [DD, nl_zero, e1]
  refine pcr_byq ok17 hG (n := 96) (rv := [.cell 6 true 3, .tmp 7]) fun r hr => ?_; unfold c17 st0
  (exact xwalkd)
end Go.Proofs.YtapikjmijmebpaaGreatDoorK.RoundT
