/-
  cubitlaw5.RoundOrder answers true.
-/
import Derived.Test.YtapikjmijmebpaaDoorKIrLRoundOrder
import Derived.Test.YtapikjmijmebpaaDoorKAwakeE5
import Derived.Test.YtapikjmijmebpaaDoorKOverL5
set_option linter.all false
set_option linter.unusedVariables false
set_option linter.unusedSimpArgs false
set_option maxHeartbeats 4000000
namespace Go.Proofs.YtapikjmijmebpaaDoorK.LawT5
open Go.Proofs.YtapikjmijmebpaaDoorK.AI Go.Proofs.YtapikjmijmebpaaDoorK.NatIr Go.Proofs.YtapikjmijmebpaaDoorK.Dig Go.Proofs.YtapikjmijmebpaaDoorK.NatT Go.Proofs.YtapikjmijmebpaaDoorK.NumT Go.Proofs.YtapikjmijmebpaaDoorK.RatT Go.Proofs.YtapikjmijmebpaaDoorK.DecT Go.Proofs.YtapikjmijmebpaaDoorK.RoundT
set_option linter.unusedSimpArgs false
attribute [local irreducible] awp awpOps
attribute [local go_sem] getO putE_same putE_ne putE_none un0_at ini_zero ini_one ini_two ini_three ne_eq not_false_eq_true Nat.zero_ne_one Nat.one_ne_zero zero_ne_succ succ_ne_zero sym_nil sym_cons symG_call symG_op symG_skip IOp.isCall gd st_mv st_pick st_new st_box st_build st_lit st_load st_store st_faddr st_fld st_iaddrS st_iaddrA st_idxs st_bin st_beq st_neg st_not st_conv st_slcS st_slcL st_make st_app st_lenS st_lenL st_mx st_mn st_ext st_nilck st_bstr byD pureC loadC setH hv boundO D.cells D.one D.boxable fillD putD rowD binC intBinC decT decF dec_true dec_false bne_self_eq_false beq_self_eq_true beq_true_false beq_false_true bne_iff_ne List.length_nil List.length_cons List.getD_cons_zero List.getD_cons_succ List.set_cons_zero List.set_cons_succ List.all_cons List.all_nil Bool.and_true Bool.true_and Nat.lt_irrefl Nat.sub_self Nat.zero_add Nat.add_zero Nat.mul_one Nat.lt_add_one if_true if_false List.replicate_zero List.nil_append List.cons_append List.append_nil List.map_cons List.map_nil Bool.false_eq_true or_self or_true true_or or_false false_or true_and and_true and_self Int.ofNat_zero wrap_i64 wrap_u32 wrap_u64 wrap_u8 wrap_u32_mod wrap_u64_mod Nat.zero_lt_one Int.toNat_natCast Int.sub_zero toNat_pred List.take_succ_cons List.take_zero List.drop_succ_cons List.drop_zero List.take_nil List.drop_nil Nat.le_refl List.length_singleton rvDs rvD ldD one? Option.bind_some Option.map_some resD_int resD_bool resD_str resD_sl resD_rp resD_nils resD_null resD_agg resD_tup resD_own rdOwn resD_ptr rdPtr rd_ite resL_eq go_nil go_cons D.imm resArgs shr32 shl32 Nat.zero_mul Bool.and_self Bool.and_false Bool.false_and strBin_eql strBin_neq Bool.not_true Bool.not_false i64max List.length_reverse List.length_set SS_length SS_getD SS_set SS_take SS_drop SS_imm SS_one SS_app1 W_get1 W_len1 W_getD W_set W_take W_drop W_app W_length W_imm W_one W_repl N mx_nat toNat_succ toNat_add toNat_pred2 tdiv_nn tmod_nn List.take_of_length_le cast_succ and_one or_shl32 min64 shr32b shl32b IntKind.bits
attribute [local go_sem] nl ZD
attribute [local go_sem] QD
attribute [local go_sem] DD not_true_eq_false not_false_eq_true
variable {G : World → Prop}
set_option maxHeartbeats 16000000 in
theorem pcr_order5_law (hG : Stable G) (hT : ∀ w, G w → Lib.TabIs Tryd.prog w "internal/strconv.uint64pow10" .u64 Lib.pow10Tab) (hM : ∀ w, G w → LibT.gMax w)
    (b : Bool) (a : List Int) (n : Nat) (hn : n = a.length) (ha : ok 4294967296 a) (hla : a.length ≤ 9223372036854775807) (c : List Int) (m : Nat) (hm : m = c.length) (hc : ok 4294967296 c) (hlc : c.length ≤ 9223372036854775807)
    (b' : Bool) (a' : List Int) (n' : Nat) (hn' : n' = a'.length) (ha' : ok 4294967296 a') (hla' : a'.length ≤ 9223372036854775807) (c' : List Int) (m' : Nat) (hm' : m' = c'.length) (hc' : ok 4294967296 c') (hlc' : c'.length ≤ 9223372036854775807)
    (sc : Int) (hsc : -9223372036854775808 ≤ sc ∧ sc ≤ 9223372036854775807) (mo : Int) (hmo : -9223372036854775808 ≤ mo ∧ mo ≤ 9223372036854775807) :
    PCr Tryd.prog G 6 [.agg [.bool b, .sl n (W a), .sl m (W c)], .agg [.bool b', .sl n' (W a'), .sl m' (W c')], .int .i64 sc, .int .i64 mo] (.bool true) := by
  have haw := pcr_awake hG hT hM
  obtain ⟨l, hl, hb⟩ := pcr_longq hG b n m (W a) (W c)
  obtain ⟨l', hl', hb'⟩ := pcr_longq hG b' n' m' (W a') (W c')
  cases l
  case true =>
    refine pcr_by hG (fn := Tryd.f6) (n := 98) (rv := [.tmp 8]) (by kernel_rfl) ok6 (by kernel_rfl) (by decide) (by kernel_rfl) (by simp) (by kernel_rfl) (fun r hr => ?_); unfold c6 st0
    (exact xwalkd)
  cases l'
  case true =>
    refine pcr_by hG (fn := Tryd.f6) (n := 98) (rv := [.tmp 8]) (by kernel_rfl) ok6 (by kernel_rfl) (by decide) (by kernel_rfl) (by simp) (by kernel_rfl) (fun r hr => ?_); unfold c6 st0
    (exact xwalkd)
  by_cases h1 : sc < 0
  · refine pcr_by hG (fn := Tryd.f6) (n := 98) (rv := [.tmp 8]) (by kernel_rfl) ok6 (by kernel_rfl) (by decide) (by kernel_rfl) (by simp) (by kernel_rfl) (fun r hr => ?_); unfold c6 st0
    (exact xwalkd)
  by_cases h2 : 10 < sc
  · refine pcr_by hG (fn := Tryd.f6) (n := 98) (rv := [.tmp 8]) (by kernel_rfl) ok6 (by kernel_rfl) (by decide) (by kernel_rfl) (by simp) (by kernel_rfl) (fun r hr => ?_); unfold c6 st0
    (exact xwalkd)
  by_cases h3 : mo < 1
  · refine pcr_by hG (fn := Tryd.f6) (n := 98) (rv := [.tmp 8]) (by kernel_rfl) ok6 (by kernel_rfl) (by decide) (by kernel_rfl) (by simp) (by kernel_rfl) (fun r hr => ?_); unfold c6 st0
    (exact xwalkd)
  by_cases h4 : 7 < mo
  · refine pcr_by hG (fn := Tryd.f6) (n := 98) (rv := [.tmp 8]) (by kernel_rfl) ok6 (by kernel_rfl) (by decide) (by kernel_rfl) (by simp) (by kernel_rfl) (fun r hr => ?_); unfold c6 st0
    (exact xwalkd)
  obtain ⟨hb1, hb2⟩ := hb rfl
  obtain ⟨hb3, hb4⟩ := hb' rfl
  have hx := qm_in (b := b) (L := 12) hn ha hm hc (by omega) hb1 hb2
  have hy := qm_in (b := b') (L := 12) hn' ha' hm' hc' (by omega) hb3 hb4
  generalize vq b a c = x at *
  generalize vq b' a' c' = y at *
  obtain ⟨s, rfl⟩ : ∃ s : Nat, sc = s := ⟨sc.toNat, by omega⟩
  have hoth : (mo = 3 ∧ oth mo = 4) ∨ (mo = 4 ∧ oth mo = 3) ∨ (¬ mo = 3 ∧ ¬ mo = 4 ∧ oth mo = mo) := by unfold oth; omega
  have hob : 1 ≤ oth mo ∧ oth mo ≤ 7 := by omega
  have hng := RatT.pcr_neg hG hx (by omega)
  have ht1 := pcr_to hG hx (by omega) (s := s) (by omega) (m := mo) (by omega) (by omega)
  have ht2 := pcr_to hG hy (by omega) (s := s) (by omega) (m := mo) (by omega) (by omega)
  have ht3 := pcr_to hG (qm_neg hx) (by omega) (s := s) (by omega) (m := oth mo) hob.1 hob.2
  have hz1 := rto_nat (s := s) hx (by omega) mo
  have hz2 := rto_nat (s := s) hy (by omega) mo
  have hz3 := rto_nat (s := s) (qm_neg hx) (by omega) (oth mo)
  have hmono := fun h : x ≤ y => to_mono h s mo
  have hneg : vd (rto (-x) s (oth mo)) s = -vd (rto x s mo) s := to_neg x s (by omega) (by omega)
  rw [show rnd (x * (10 : Rat) ^ s) mo = rto x s mo from rfl, show rnd (y * (10 : Rat) ^ s) mo = rto y s mo from rfl] at hmono
  generalize rto x s mo = z1 at *
  generalize rto y s mo = z2 at *
  generalize rto (-x) s (oth mo) = z3 at *
  have hr1 := pcr_drat hG (Dm.self (dok_z (s := s) (by omega)) hz1) (by omega)
  have hr2 := pcr_drat hG (Dm.self (dok_z (s := s) (by omega)) hz2) (by omega)
  have hr3 := pcr_drat hG (Dm.self (dok_z (s := s) (by omega)) hz3) (by omega)
  have hq1 := dq_qm5 (dok_z (z := z1) (s := s) (by omega)) hz1
  have hq2 := dq_qm5 (dok_z (z := z2) (s := s) (by omega)) hz2
  have hq3 := dq_qm5 (dok_z (z := z3) (s := s) (by omega)) hz3
  rw [dq_vd] at hr1 hr2 hr3 hq1 hq2 hq3
  rw [hneg] at hr3 hq3
  have hn1 := RatT.pcr_neg hG hq1 (by omega)
  have hc3 := RatT.pcr_cmp hG hq3 (qm_neg hq1) (by omega) (by omega)
  rw [RatT.cmp_eq rfl] at hc3
  have hc1 := RatT.pcr_cmp hG hx hy (by omega) (by omega)
  by_cases hxy : x ≤ y
  · have h5 := cmp_le hxy
    have hc2 := RatT.pcr_cmp hG hq1 hq2 (by omega) (by omega)
    have h6 := cmp_le (hmono hxy)
    generalize (x - y).num.sign = s1 at *
    generalize (vd z1 s - vd z2 s).num.sign = s2 at *
    rcases hoth with ⟨rfl, ho⟩ | ⟨rfl, ho⟩ | ⟨ho1, ho2, ho⟩
    · rw [ho] at ht3
      refine pcr_by hG (fn := Tryd.f6) (n := 98) (rv := [.tmp 8]) (by kernel_rfl) ok6 (by kernel_rfl) (by decide) (by kernel_rfl) (by simp) (by kernel_rfl) (fun r hr => ?_); unfold c6 st0
      (exact xwalkd)
    · rw [ho] at ht3
      refine pcr_by hG (fn := Tryd.f6) (n := 98) (rv := [.tmp 8]) (by kernel_rfl) ok6 (by kernel_rfl) (by decide) (by kernel_rfl) (by simp) (by kernel_rfl) (fun r hr => ?_); unfold c6 st0
      (exact xwalkd)
    · rw [ho] at ht3
      refine pcr_by hG (fn := Tryd.f6) (n := 98) (rv := [.tmp 8]) (by kernel_rfl) ok6 (by kernel_rfl) (by decide) (by kernel_rfl) (by simp) (by kernel_rfl) (fun r hr => ?_); unfold c6 st0
      (exact xwalkd)
  · rw [cmp_gt (Rat.not_le.1 hxy)] at hc1
    rcases hoth with ⟨rfl, ho⟩ | ⟨rfl, ho⟩ | ⟨ho1, ho2, ho⟩
    · rw [ho] at ht3
      refine pcr_by hG (fn := Tryd.f6) (n := 98) (rv := [.tmp 8]) (by kernel_rfl) ok6 (by kernel_rfl) (by decide) (by kernel_rfl) (by simp) (by kernel_rfl) (fun r hr => ?_); unfold c6 st0
      (exact xwalkd)
    · rw [ho] at ht3
      refine pcr_by hG (fn := Tryd.f6) (n := 98) (rv := [.tmp 8]) (by kernel_rfl) ok6 (by kernel_rfl) (by decide) (by kernel_rfl) (by simp) (by kernel_rfl) (fun r hr => ?_); unfold c6 st0
      (exact xwalkd)
    · rw [ho] at ht3
      refine pcr_by hG (fn := Tryd.f6) (n := 98) (rv := [.tmp 8]) (by kernel_rfl) ok6 (by kernel_rfl) (by decide) (by kernel_rfl) (by simp) (by kernel_rfl) (fun r hr => ?_); unfold c6 st0
      (exact xwalkd)
end Go.Proofs.YtapikjmijmebpaaDoorK.LawT5
