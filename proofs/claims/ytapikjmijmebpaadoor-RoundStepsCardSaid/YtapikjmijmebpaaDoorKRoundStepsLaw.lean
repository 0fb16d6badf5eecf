/-
  cubitlaw5.RoundSteps answers true.
-/
import Derived.Test.YtapikjmijmebpaaDoorKIrLRoundSteps
import Derived.Test.YtapikjmijmebpaaDoorKAwakeE5
import Derived.Test.YtapikjmijmebpaaDoorKOverL5
import Derived.Test.YtapikjmijmebpaaDoorKRoundB
set_option linter.all false
set_option linter.unusedVariables false
set_option linter.unusedSimpArgs false
set_option maxHeartbeats 4000000
namespace Go.Proofs.YtapikjmijmebpaaDoorK.LawT5
open Go.Proofs.YtapikjmijmebpaaDoorK.AI Go.Proofs.YtapikjmijmebpaaDoorK.NatIr Go.Proofs.YtapikjmijmebpaaDoorK.Dig Go.Proofs.YtapikjmijmebpaaDoorK.NatT Go.Proofs.YtapikjmijmebpaaDoorK.NumT Go.Proofs.YtapikjmijmebpaaDoorK.RatT Go.Proofs.YtapikjmijmebpaaDoorK.DecT Go.Proofs.YtapikjmijmebpaaDoorK.RoundT
set_option linter.unusedSimpArgs false
attribute [local irreducible] awp awpOps
attribute [local go_sem] getO putE_same putE_ne putE_none un0_at ini_zero ini_one ini_two ini_three ne_eq not_false_eq_true Nat.zero_ne_one Nat.one_ne_zero zero_ne_succ succ_ne_zero sym_nil sym_cons symG_call symG_op symG_skip IOp.isCall gd st_mv st_pick st_new st_box st_build st_lit st_load st_store st_faddr st_fld st_iaddrS st_iaddrA st_idxs st_bin st_beq st_neg st_not st_conv st_slcS st_slcL st_make st_app st_lenS st_lenL st_mx st_mn st_ext st_nilck st_bstr byD pureC loadC setH hv boundO D.cells D.one D.boxable fillD putD rowD binC intBinC decT decF dec_true dec_false bne_self_eq_false beq_self_eq_true beq_true_false beq_false_true bne_iff_ne List.length_nil List.length_cons List.getD_cons_zero List.getD_cons_succ List.set_cons_zero List.set_cons_succ List.all_cons List.all_nil Bool.and_true Bool.true_and Nat.lt_irrefl Nat.sub_self Nat.zero_add Nat.add_zero Nat.mul_one Nat.lt_add_one if_true if_false List.replicate_zero List.nil_append List.cons_append List.append_nil List.map_cons List.map_nil Bool.false_eq_true or_self or_true true_or or_false false_or true_and and_true and_self Int.ofNat_zero wrap_i64 wrap_u32 wrap_u64 wrap_u8 wrap_u32_mod wrap_u64_mod Nat.zero_lt_one Int.toNat_natCast Int.sub_zero toNat_pred List.take_succ_cons List.take_zero List.drop_succ_cons List.drop_zero List.take_nil List.drop_nil Nat.le_refl List.length_singleton rvDs rvD ldD one? Option.bind_some Option.map_some resD_int resD_bool resD_str resD_sl resD_rp resD_nils resD_null resD_agg resD_tup resD_own rdOwn resD_ptr rdPtr rd_ite resL_eq go_nil go_cons D.imm resArgs shr32 shl32 Nat.zero_mul Bool.and_self Bool.and_false Bool.false_and strBin_eql strBin_neq Bool.not_true Bool.not_false i64max List.length_reverse List.length_set SS_length SS_getD SS_set SS_take SS_drop SS_imm SS_one SS_app1 W_get1 W_len1 W_getD W_set W_take W_drop W_app W_length W_imm W_one W_repl N mx_nat toNat_succ toNat_add toNat_pred2 tdiv_nn tmod_nn List.take_of_length_le cast_succ and_one or_shl32 min64 shr32b shl32b IntKind.bits
attribute [local go_sem] nl ZD
attribute [local go_sem] QD
attribute [local go_sem] DD not_true_eq_false not_false_eq_true eq_self decide_true
variable {G : World → Prop}
theorem stz_one (x : Rat) (s : Nat) (m : Int) : stz x 1 s m = rto x s m := by
  have h : (dq false 1 s)⁻¹ = (10 : Rat) ^ s := by
    rw [dq, Rat.mkRat_eq_div, Rat.div_def, show ((sg false 1 : Int) : Rat) = 1 from rfl, Rat.one_mul, Rat.inv_inv, Rat.natCast_pow]; rfl
  rw [stz, h]
  exact Int.mul_one _
set_option maxHeartbeats 16000000 in
theorem pcr_steps_law (hG : Stable G) (hT : ∀ w, G w → Lib.TabIs Tryd.prog w "internal/strconv.uint64pow10" .u64 Lib.pow10Tab) (hM : ∀ w, G w → LibT.gMax w)
    (b : Bool) (a : List Int) (n : Nat) (hn : n = a.length) (ha : ok 4294967296 a) (hla : a.length ≤ 9223372036854775807) (c : List Int) (m : Nat) (hm : m = c.length) (hc : ok 4294967296 c) (hlc : c.length ≤ 9223372036854775807)
    (sc : Int) (hsc : -9223372036854775808 ≤ sc ∧ sc ≤ 9223372036854775807) (mo : Int) (hmo : -9223372036854775808 ≤ mo ∧ mo ≤ 9223372036854775807) (st : Int) (hst : 0 ≤ st ∧ st ≤ 18446744073709551615) :
    PCr Tryd.prog G 8 [.agg [.bool b, .sl n (W a), .sl m (W c)], .int .i64 sc, .int .i64 mo, .int .u64 st] (.bool true) := by
  have haw := pcr_awake hG hT hM
  obtain ⟨l, hl, hb⟩ := pcr_longq hG b n m (W a) (W c)
  cases l
  case true =>
    refine pcr_by hG (fn := Tryd.f8) (n := 107) (rv := [.tmp 8]) (by kernel_rfl) ok8 (by kernel_rfl) (by decide) (by kernel_rfl) (by simp) (by kernel_rfl) (fun r hr => ?_); unfold c8 st0
    (exact xwalkd)
  by_cases h1 : sc < 0
  · refine pcr_by hG (fn := Tryd.f8) (n := 107) (rv := [.tmp 8]) (by kernel_rfl) ok8 (by kernel_rfl) (by decide) (by kernel_rfl) (by simp) (by kernel_rfl) (fun r hr => ?_); unfold c8 st0
    (exact xwalkd)
  by_cases h2 : 15 < sc
  · refine pcr_by hG (fn := Tryd.f8) (n := 107) (rv := [.tmp 8]) (by kernel_rfl) ok8 (by kernel_rfl) (by decide) (by kernel_rfl) (by simp) (by kernel_rfl) (fun r hr => ?_); unfold c8 st0
    (exact xwalkd)
  by_cases h3 : mo < 1
  · refine pcr_by hG (fn := Tryd.f8) (n := 107) (rv := [.tmp 8]) (by kernel_rfl) ok8 (by kernel_rfl) (by decide) (by kernel_rfl) (by simp) (by kernel_rfl) (fun r hr => ?_); unfold c8 st0
    (exact xwalkd)
  by_cases h4 : 7 < mo
  · refine pcr_by hG (fn := Tryd.f8) (n := 107) (rv := [.tmp 8]) (by kernel_rfl) ok8 (by kernel_rfl) (by decide) (by kernel_rfl) (by simp) (by kernel_rfl) (fun r hr => ?_); unfold c8 st0
    (exact xwalkd)
  by_cases h5 : st = 0
  · subst h5
    refine pcr_by hG (fn := Tryd.f8) (n := 107) (rv := [.tmp 8]) (by kernel_rfl) ok8 (by kernel_rfl) (by decide) (by kernel_rfl) (by simp) (by kernel_rfl) (fun r hr => ?_); unfold c8 st0
    (exact xwalkd)
  obtain ⟨hb1, hb2⟩ := hb rfl
  have hx := qm_in (b := b) (L := 12) hn ha hm hc (by omega) hb1 hb2
  generalize vq b a c = x at *
  obtain ⟨s, rfl⟩ : ∃ s : Nat, sc = s := ⟨sc.toNat, by omega⟩
  obtain ⟨Y, rfl⟩ : ∃ Y : Nat, st = Y := ⟨st.toNat, by omega⟩
  have hto := pcr_to hG hx (by omega) (s := s) (by omega) (m := mo) (by omega) (by omega)
  have hzb := rto_nat (s := s) hx (by omega) mo
  have h1N := NatT.pcr_of hG 1 (by omega)
  have h0N := NatT.pcr_of hG 0 (by omega)
  have hYN := NatT.pcr_of hG Y (by omega)
  have hYb : Y < 4294967296 ^ 2 := by omega
  have hs1 := pcr_step hG hx (by omega) (Y := 1) (s := s) (M := 1) (m := mo) ⟨fun h => Bool.noConfusion h, by omega⟩ (by omega) (by omega) (by decide) (by omega) (by omega)
  have hs2 := pcr_step hG hx (by omega) (Y := Y) (s := s) (M := 2) (m := mo) ⟨fun h => Bool.noConfusion h, by omega⟩ hYb (by omega) (by omega) (by omega) (by omega)
  rw [stz_one] at hs1
  have htx := pcr_dtext hG hT (Dm.self (dok_z (z := rto x s mo) (s := s) (by omega)) hzb) (by omega)
  have hq := qm_mul hx (qm_inv (qm_dq (b := false) (s := s) ⟨fun h => Bool.noConfusion h, by omega⟩ hYb))
  have hrb := rnd_nat hq mo
  have hst2 : (stz x Y s mo).natAbs = (rnd (x * (dq false Y s)⁻¹) mo).natAbs * Y := by rw [stz, Int.natAbs_mul, Int.natAbs_natCast]
  have hsb : (stz x Y s mo).natAbs < 4294967296 ^ (12 + (2 + 7) + 1 + 2) := by
    rw [hst2, Nat.pow_add _ _ 2]
    exact mul_lt2 hrb hYb
  have hmod : (stz x Y s mo).natAbs % Y = 0 := by rw [hst2, Nat.mul_mod_left]
  have hdv := pcr_divN hG (nm_N hsb) (nm_N hYb) (by omega) (by omega) (by omega)
  rw [hmod] at hdv
  have hcm := pcr_cmpE hG (nm_N (X := 0) (L := 1) (by omega)) (nm_N (X := 0) (L := 1) (by omega)) (by omega) (by omega) rfl
  generalize rto x s mo = z at *
  generalize stz x Y s mo = y at *
  refine pcr_by hG (fn := Tryd.f8) (n := 107) (rv := [.tmp 8]) (by kernel_rfl) ok8 (by kernel_rfl) (by decide) (by kernel_rfl) (by simp) (by kernel_rfl) (fun r hr => ?_); unfold c8 st0
  (exact xwalkd)
end Go.Proofs.YtapikjmijmebpaaDoorK.LawT5
