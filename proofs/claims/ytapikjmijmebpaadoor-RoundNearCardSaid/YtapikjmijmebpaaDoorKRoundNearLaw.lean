/-
  cubitlaw5.RoundNear answers true.
-/
import Derived.Test.YtapikjmijmebpaaDoorKIrLRoundNear
import Derived.Test.YtapikjmijmebpaaDoorKAwakeE5
import Derived.Test.YtapikjmijmebpaaDoorKOverL5
set_option linter.all false
set_option linter.unusedVariables false
set_option linter.unusedSimpArgs false
set_option maxHeartbeats 4000000
namespace Go.Proofs.YtapikjmijmebpaaDoorK.LawT5
open Go.Proofs.YtapikjmijmebpaaDoorK.AI Go.Proofs.YtapikjmijmebpaaDoorK.NatIr Go.Proofs.YtapikjmijmebpaaDoorK.Dig Go.Proofs.YtapikjmijmebpaaDoorK.NatT Go.Proofs.YtapikjmijmebpaaDoorK.NumT Go.Proofs.YtapikjmijmebpaaDoorK.RatT Go.Proofs.YtapikjmijmebpaaDoorK.DecT Go.Proofs.YtapikjmijmebpaaDoorK.RoundT
set_option linter.unusedSimpArgs false
attribute [local irreducible] awp awpOps
attribute [local go_sem] getO putE_same putE_ne putE_none un0_at ini_zero ini_one ini_two ini_three ne_eq not_false_eq_true Nat.zero_ne_one Nat.one_ne_zero zero_ne_succ succ_ne_zero sym_nil sym_cons symG_call symG_op symG_skip IOp.isCall gd st_mv st_pick st_new st_box st_build st_lit st_load st_store st_faddr st_fld st_iaddrS st_iaddrA st_idxs st_bin st_beq st_neg st_not st_conv st_slcS st_slcL st_make st_app st_lenS st_lenL st_mx st_mn st_ext st_nilck st_bstr byD pureC loadC setH hv boundO D.cells D.one D.boxable fillD putD rowD binC intBinC decT decF dec_true dec_false bne_self_eq_false beq_self_eq_true beq_true_false beq_false_true bne_iff_ne List.length_nil List.length_cons List.getD_cons_zero List.getD_cons_succ List.set_cons_zero List.set_cons_succ List.all_cons List.all_nil Bool.and_true Bool.true_and Nat.lt_irrefl Nat.sub_self Nat.zero_add Nat.add_zero Nat.mul_one Nat.lt_add_one if_true if_false List.replicate_zero List.nil_append List.cons_append List.append_nil List.map_cons List.map_nil Bool.false_eq_true or_self or_true true_or or_false false_or true_and and_true and_self Int.ofNat_zero wrap_i64 wrap_u32 wrap_u64 wrap_u8 wrap_u32_mod wrap_u64_mod Nat.zero_lt_one Int.toNat_natCast Int.sub_zero toNat_pred List.take_succ_cons List.take_zero List.drop_succ_cons List.drop_zero List.take_nil List.drop_nil Nat.le_refl List.length_singleton rvDs rvD ldD one? Option.bind_some Option.map_some resD_int resD_bool resD_str resD_sl resD_rp resD_nils resD_null resD_agg resD_tup resD_own rdOwn resD_ptr rdPtr rd_ite resL_eq go_nil go_cons D.imm resArgs shr32 shl32 Nat.zero_mul Bool.and_self Bool.and_false Bool.false_and strBin_eql strBin_neq Bool.not_true Bool.not_false i64max List.length_reverse List.length_set SS_length SS_getD SS_set SS_take SS_drop SS_imm SS_one SS_app1 W_get1 W_len1 W_getD W_set W_take W_drop W_app W_length W_imm W_one W_repl N mx_nat toNat_succ toNat_add toNat_pred2 tdiv_nn tmod_nn List.take_of_length_le cast_succ and_one or_shl32 min64 shr32b shl32b IntKind.bits
attribute [local go_sem] nl ZD
attribute [local go_sem] QD
attribute [local go_sem] DD not_true_eq_false not_false_eq_true
variable {G : World → Prop}
set_option maxHeartbeats 16000000 in
theorem pcr_near_law (hG : Stable G) (hT : ∀ w, G w → Lib.TabIs Tryd.prog w "internal/strconv.uint64pow10" .u64 Lib.pow10Tab) (hM : ∀ w, G w → LibT.gMax w)
    (b : Bool) (a : List Int) (n : Nat) (hn : n = a.length) (ha : ok 4294967296 a) (hla : a.length ≤ 9223372036854775807) (c : List Int) (m : Nat) (hm : m = c.length) (hc : ok 4294967296 c) (hlc : c.length ≤ 9223372036854775807)
    (sc : Int) (hsc : -9223372036854775808 ≤ sc ∧ sc ≤ 9223372036854775807) (mo : Int) (hmo : -9223372036854775808 ≤ mo ∧ mo ≤ 9223372036854775807) :
    PCr Tryd.prog G 5 [.agg [.bool b, .sl n (W a), .sl m (W c)], .int .i64 sc, .int .i64 mo] (.bool true) := by
  have haw := pcr_awake hG hT hM
  obtain ⟨l, hl, hb⟩ := pcr_longq hG b n m (W a) (W c)
  cases l
  case true =>
    refine pcr_by hG (fn := Tryd.f5) (n := 99) (rv := [.tmp 6]) (by kernel_rfl) ok5 (by kernel_rfl) (by decide) (by kernel_rfl) (by simp) (by kernel_rfl) (fun r hr => ?_); unfold c5 st0
    (exact xwalkd)
  by_cases h1 : sc < 0
  · refine pcr_by hG (fn := Tryd.f5) (n := 99) (rv := [.tmp 6]) (by kernel_rfl) ok5 (by kernel_rfl) (by decide) (by kernel_rfl) (by simp) (by kernel_rfl) (fun r hr => ?_); unfold c5 st0
    (exact xwalkd)
  by_cases h2 : 20 < sc
  · refine pcr_by hG (fn := Tryd.f5) (n := 99) (rv := [.tmp 6]) (by kernel_rfl) ok5 (by kernel_rfl) (by decide) (by kernel_rfl) (by simp) (by kernel_rfl) (fun r hr => ?_); unfold c5 st0
    (exact xwalkd)
  by_cases h3 : mo < 1
  · refine pcr_by hG (fn := Tryd.f5) (n := 99) (rv := [.tmp 6]) (by kernel_rfl) ok5 (by kernel_rfl) (by decide) (by kernel_rfl) (by simp) (by kernel_rfl) (fun r hr => ?_); unfold c5 st0
    (exact xwalkd)
  by_cases h4 : 7 < mo
  · refine pcr_by hG (fn := Tryd.f5) (n := 99) (rv := [.tmp 6]) (by kernel_rfl) ok5 (by kernel_rfl) (by decide) (by kernel_rfl) (by simp) (by kernel_rfl) (fun r hr => ?_); unfold c5 st0
    (exact xwalkd)
  obtain ⟨hb1, hb2⟩ := hb rfl
  have hx := qm_in (b := b) (L := 12) hn ha hm hc (by omega) hb1 hb2
  generalize vq b a c = x at *
  obtain ⟨s, rfl⟩ : ∃ s : Nat, sc = s := ⟨sc.toNat, by omega⟩
  have hto := pcr_to hG hx (by omega) (s := s) (by omega) (m := mo) (by omega) (by omega)
  have hzb := rto_nat (s := s) hx (by omega) mo
  have hz : rto x s mo = rnd (x * (10 : Rat) ^ s) mo := rfl
  have hnr := to_near x s mo
  have hhf := fun h => to_half x s (m := mo) h
  have hag := rnd_again (rto x s mo) s mo
  rw [← hz] at hnr hhf
  generalize rto x s mo = z at *
  have hok : Dok (ng z) z.natAbs s := dok_z (by omega)
  have hdq : dq (ng z) z.natAbs s = vd z s := dq_vd z s
  have hra := pcr_drat hG (Dm.self hok hzb) (by omega)
  have hqm := dq_qm5 hok hzb
  rw [hdq] at hra hqm
  have hto2 := pcr_to hG hqm (by omega) (s := s) (by omega) (m := mo) (by omega) (by omega)
  rw [show rto (vd z s) s mo = z from hag] at hto2
  have hu := qm_inv (qm_tens s)
  have hov := pcr_overT hG
  have hpw := RatT.pcr_pow hG qm_tenth s (by omega) (by omega)
  rw [tenth_pow] at hpw
  have hng := RatT.pcr_neg hG hx (by omega)
  have had := RatT.pcr_add hG hqm (qm_neg hx) (by omega) (by omega)
  have hoq := qm_add hqm (qm_neg hx)
  rw [show vd z s + -x = vd z s - x from (Rat.sub_eq_add_neg _ _).symm] at had hoq
  have hsg := RatT.pcr_sign hG hoq (by omega)
  have hcmp := RatT.pcr_cmp hG hqm hqm (by omega) (by omega)
  rw [RatT.cmp_eq rfl] at hcmp
  generalize vd z s - x = o at *
  have h3 := sgn3 o
  by_cases ho : o < 0
  · have hso := sg_negq ho
    rw [hso] at hsg
    have hno := RatT.pcr_neg hG hoq (by omega)
    have hc1 := RatT.pcr_cmp hG (qm_neg hoq) hu (by omega) (by omega)
    rw [cmp_lt (show -o < ((10 : Rat) ^ s)⁻¹ by grind)] at hc1
    by_cases h5 : 5 ≤ mo
    · have hdb := RatT.pcr_add hG (qm_neg hoq) (qm_neg hoq) (by omega) (by omega)
      have hc2 := RatT.pcr_cmp hG (qm_add (qm_neg hoq) (qm_neg hoq)) hu (by omega) (by omega)
      have h6 := cmp_le (x := -o + -o) (y := ((10 : Rat) ^ s)⁻¹) (by have := hhf h5; grind)
      generalize (-o + -o - ((10 : Rat) ^ s)⁻¹).num.sign = sn at *
      refine pcr_by hG (fn := Tryd.f5) (n := 99) (rv := [.tmp 6]) (by kernel_rfl) ok5 (by kernel_rfl) (by decide) (by kernel_rfl) (by simp) (by kernel_rfl) (fun r hr => ?_); unfold c5 st0
      (exact xwalkd)
    · refine pcr_by hG (fn := Tryd.f5) (n := 99) (rv := [.tmp 6]) (by kernel_rfl) ok5 (by kernel_rfl) (by decide) (by kernel_rfl) (by simp) (by kernel_rfl) (fun r hr => ?_); unfold c5 st0
      (exact xwalkd)
  · have hso : ¬ o.num.sign < 0 := by
      rcases h3 with h | h | h
      · exact absurd h.1 ho
      · omega
      · omega
    generalize o.num.sign = so at *
    have hc1 := RatT.pcr_cmp hG hoq hu (by omega) (by omega)
    rw [cmp_lt (show o < ((10 : Rat) ^ s)⁻¹ by grind)] at hc1
    by_cases h5 : 5 ≤ mo
    · have hdb := RatT.pcr_add hG hoq hoq (by omega) (by omega)
      have hc2 := RatT.pcr_cmp hG (qm_add hoq hoq) hu (by omega) (by omega)
      have h6 := cmp_le (x := o + o) (y := ((10 : Rat) ^ s)⁻¹) (by have := hhf h5; grind)
      generalize (o + o - ((10 : Rat) ^ s)⁻¹).num.sign = sn at *
      refine pcr_by hG (fn := Tryd.f5) (n := 99) (rv := [.tmp 6]) (by kernel_rfl) ok5 (by kernel_rfl) (by decide) (by kernel_rfl) (by simp) (by kernel_rfl) (fun r hr => ?_); unfold c5 st0
      (exact xwalkd)
    · refine pcr_by hG (fn := Tryd.f5) (n := 99) (rv := [.tmp 6]) (by kernel_rfl) ok5 (by kernel_rfl) (by decide) (by kernel_rfl) (by simp) (by kernel_rfl) (fun r hr => ?_); unfold c5 st0
      (exact xwalkd)
end Go.Proofs.YtapikjmijmebpaaDoorK.LawT5
