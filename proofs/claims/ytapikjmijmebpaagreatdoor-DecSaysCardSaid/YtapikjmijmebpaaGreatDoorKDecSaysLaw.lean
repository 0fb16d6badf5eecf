/-
  cubitlaw4.DecSays answers true.
-/
import Derived.Test.YtapikjmijmebpaaGreatDoorKIrLDecSays
import Derived.Test.YtapikjmijmebpaaGreatDoorKAwakeE4
import Derived.Test.YtapikjmijmebpaaGreatDoorKIsD4
import Derived.Test.YtapikjmijmebpaaGreatDoorKRefDec2
import Derived.Test.YtapikjmijmebpaaGreatDoorKLongQ4
set_option linter.all false
set_option linter.unusedVariables false
set_option linter.unusedSimpArgs false
set_option maxHeartbeats 4000000
namespace Go.Proofs.YtapikjmijmebpaaGreatDoorK.LawT4
open Go.Proofs.YtapikjmijmebpaaGreatDoorK.AI Go.Proofs.YtapikjmijmebpaaGreatDoorK.NatIr Go.Proofs.YtapikjmijmebpaaGreatDoorK.Dig Go.Proofs.YtapikjmijmebpaaGreatDoorK.NatT Go.Proofs.YtapikjmijmebpaaGreatDoorK.NumT Go.Proofs.YtapikjmijmebpaaGreatDoorK.RatT Go.Proofs.YtapikjmijmebpaaGreatDoorK.RefT Go.Proofs.YtapikjmijmebpaaGreatDoorK.DecT
set_option linter.unusedSimpArgs false
attribute [local irreducible] awp awpOps
attribute [local go_sem] getO putE_same putE_ne putE_none un0_at ini_zero ini_one ini_two ini_three ne_eq not_false_eq_true Nat.zero_ne_one Nat.one_ne_zero zero_ne_succ succ_ne_zero sym_nil sym_cons symG_call symG_op symG_skip IOp.isCall gd st_mv st_pick st_new st_box st_build st_lit st_load st_store st_faddr st_fld st_iaddrS st_iaddrA st_idxs st_bin st_beq st_neg st_not st_conv st_slcS st_slcL st_make st_app st_lenS st_lenL st_mx st_mn st_ext st_nilck st_bstr byD pureC loadC setH hv boundO D.cells D.one D.boxable fillD putD rowD binC intBinC decT decF dec_true dec_false bne_self_eq_false beq_self_eq_true beq_true_false beq_false_true bne_iff_ne List.length_nil List.length_cons List.getD_cons_zero List.getD_cons_succ List.set_cons_zero List.set_cons_succ List.all_cons List.all_nil Bool.and_true Bool.true_and Nat.lt_irrefl Nat.sub_self Nat.zero_add Nat.add_zero Nat.mul_one Nat.lt_add_one if_true if_false List.replicate_zero List.nil_append List.cons_append List.append_nil List.map_cons List.map_nil Bool.false_eq_true or_self or_true true_or or_false false_or true_and and_true and_self Int.ofNat_zero wrap_i64 wrap_u32 wrap_u64 wrap_u8 wrap_u32_mod wrap_u64_mod Nat.zero_lt_one Int.toNat_natCast Int.sub_zero toNat_pred List.take_succ_cons List.take_zero List.drop_succ_cons List.drop_zero List.take_nil List.drop_nil Nat.le_refl List.length_singleton rvDs rvD ldD one? Option.bind_some Option.map_some resD_int resD_bool resD_str resD_sl resD_rp resD_nils resD_null resD_agg resD_tup resD_own rdOwn resD_ptr rdPtr rd_ite resL_eq go_nil go_cons D.imm resArgs shr32 shl32 Nat.zero_mul Bool.and_self Bool.and_false Bool.false_and strBin_eql strBin_neq Bool.not_true Bool.not_false i64max List.length_reverse List.length_set SS_length SS_getD SS_set SS_take SS_drop SS_imm SS_one SS_app1 W_get1 W_len1 W_getD W_set W_take W_drop W_app W_length W_imm W_one W_repl N mx_nat toNat_succ toNat_add toNat_pred2 tdiv_nn tmod_nn List.take_of_length_le cast_succ and_one or_shl32 min64 shr32b shl32b IntKind.bits
attribute [local go_sem] V_getD V_set V_take V_drop V_imm V_one V_app V_app1 V_repl V_get1 V_length M List.length_append
attribute [local go_sem] nl ZD MZ
attribute [local go_sem] QD MQ
attribute [local go_sem] MD DD not_true_eq_false not_false_eq_true eq_self decide_true
variable {G : World → Prop}
set_option maxHeartbeats 16000000 in
theorem pcr_says_law (hG : Stable G) (hT : ∀ w, G w → Lib.TabIs Tryz.prog w "internal/strconv.uint64pow10" .u64 Lib.pow10Tab) (hM : ∀ w, G w → LibT.gMax w)
    (t : ByteArray) (ht : t.size ≤ 9223372036854775807)
    (b0 : Bool) (a : List Int) (n : Nat) (hn : n = a.length) (ha : ok 4294967296 a) (hla : a.length ≤ 9223372036854775807) (k : Int) (hk : -9223372036854775808 ≤ k ∧ k ≤ 9223372036854775807)
    (b1 : Bool) (a1 : List Int) (n1 : Nat) (hn1 : n1 = a1.length) (ha1 : ok 4294967296 a1) (hla1 : a1.length ≤ 9223372036854775807) (c1 : List Int) (m1 : Nat) (hm1 : m1 = c1.length) (hc1 : ok 4294967296 c1) (hlc1 : c1.length ≤ 9223372036854775807)
    (most : Int) (hmo : -9223372036854775808 ≤ most ∧ most ≤ 9223372036854775807) :
    PCr Tryz.prog G 6 [.str t, .agg [.bool b0, .sl n (W a), .int .i64 k], .agg [.bool b1, .sl n1 (W a1), .sl m1 (W c1)], .int .i64 most] (.bool true) := by
  have haw := pcr_awake hG hT hM
  obtain ⟨l1, hl1, hb1⟩ := pcr_longq hG b1 n1 m1 (W a1) (W c1)
  by_cases h3 : 300 < t.size
  · refine pcr_by hG (fn := Tryz.f6) (n := 119) (rv := [.tmp 8]) (by kernel_rfl) ok6 (by kernel_rfl) (by decide) (by kernel_rfl) (by simp) (by kernel_rfl) (fun r hr => ?_); unfold c6 st0
    (exact xwalkd)
  by_cases h4 : 12 < n
  · refine pcr_by hG (fn := Tryz.f6) (n := 119) (rv := [.tmp 8]) (by kernel_rfl) ok6 (by kernel_rfl) (by decide) (by kernel_rfl) (by simp) (by kernel_rfl) (fun r hr => ?_); unfold c6 st0
    (exact xwalkd)
  cases l1
  case true =>
    refine pcr_by hG (fn := Tryz.f6) (n := 119) (rv := [.tmp 8]) (by kernel_rfl) ok6 (by kernel_rfl) (by decide) (by kernel_rfl) (by simp) (by kernel_rfl) (fun r hr => ?_); unfold c6 st0
    (exact xwalkd)
  obtain ⟨hb11, hb12⟩ := hb1 rfl
  have hx := qm_in (b := b1) (L := 12) hn1 ha1 hm1 hc1 (by omega) hb11 hb12
  have ho1 := pcr_own hG b1 a1 n1 hn1 ha1 hb11 c1 m1 hm1 hc1 hb12
  generalize vq b1 a1 c1 = x at *
  obtain ⟨b, X, s, hdm⟩ := dm_in (L := 12) (b0 := b0) (k := k) hn ha (by omega)
  obtain ⟨hok, hX⟩ := hdm.ok
  have hs := hok.2
  have hrw := raw_of hG hdm (by omega)
  have hdf := pcr_dof hG hx (by omega) most
  have hdr := pcr_dofR hG hx (by omega) most
  have htx := pcr_dtext hG hT hdm (by omega)
  have htr := pcr_dtextR (b := b) hG hX (by omega) hs
  have hra := pcr_drat hG hdm (by omega)
  have hrr := pcr_dratR (b := b) hG hX (by omega) hs
  have hqi := pcr_qis hG (dq_qm hok hX) (by omega)
  have hwh := pcr_dwhole hG hdm (by omega)
  have hwr := pcr_dwholeR (b := b) hG hX (by omega) hs
  have hwi := pcr_is hG (X := X / 10 ^ s) (L := 12) (Nat.lt_of_le_of_lt (Nat.div_le_self _ _) hX) (by omega)
  have hpt := pcr_dpart hG hT hdm (by omega)
  have hpr := pcr_dpartR (b := b) hG hX (by omega) hs
  have hsh := pcr_dshort hG hdm (by omega)
  have hsr := pcr_dshortR hG hok hX (by omega)
  have hsd := pcr_dis hG hok.short (Nat.lt_of_le_of_lt (sh_fst_le s X) hX) (by omega)
  have hps := pcr_dparse hG hM t ht
  have hpsr := pcr_dparseR hG t ht
  have hpd : (∃ e : Int, ¬ e = 0 ∧ PCr Tryz.prog G 29 [.str t] (.tup [DD false 0 0, .int .i64 e]) ∧ PCr Tryz.prog G 41 [.str t] (.tup [MD false 0 0, .int .i64 e])) ∨
      ∃ b X k, PCr Tryz.prog G 29 [.str t] (.tup [DD b X k, .int .i64 0]) ∧ PCr Tryz.prog G 41 [.str t] (.tup [MD b X k, .int .i64 0]) ∧ PCr Tryz.prog G 42 [DD b X k, MD b X k] (.bool true) := by
    unfold dPE at hps
    unfold mPE at hpsr
    by_cases h0 : 256 < t.size
    · rw [if_pos h0] at hps hpsr
      exact .inl ⟨11, by decide, hps, hpsr⟩
    · rw [if_neg h0] at hps hpsr
      cases hd : dP t.data.toList with
      | none =>
        rw [hd] at hps hpsr
        exact .inl ⟨2, by decide, hps, hpsr⟩
      | some v =>
        obtain ⟨b, X, k⟩ := v
        rw [hd] at hps hpsr
        obtain ⟨ho, hx⟩ := dP_ok hd
        exact .inr ⟨b, X, k, hps, hpsr, pcr_dis hG ho hx (by have := ba_len t; omega)⟩
  have hoo : (∃ q k, PCr Tryz.prog G 36 [.agg [.bool b1, .sl n1 (W a1), .sl m1 (W c1)], .int .i64 most] (.tup [DD (ng x.num) q k, .bool true]) ∧ PCr Tryz.prog G 44 [MQ x, .int .i64 most] (.tup [MD (ng x.num) q k, .bool true]) ∧ PCr Tryz.prog G 42 [DD (ng x.num) q k, MD (ng x.num) q k] (.bool true)) ∨
      PCr Tryz.prog G 36 [.agg [.bool b1, .sl n1 (W a1), .sl m1 (W c1)], .int .i64 most] (.tup [DD false 0 0, .bool false]) ∧ PCr Tryz.prog G 44 [MQ x, .int .i64 most] (.tup [MD false 0 0, .bool false]) := by
    cases hlo : loM x.num.natAbs x.den (far most) 0 with
    | none =>
      rw [hlo] at hdf hdr
      exact .inr ⟨hdf, hdr⟩
    | some v =>
      obtain ⟨q, k⟩ := v
      rw [hlo] at hdf hdr
      obtain ⟨h5, h6, rfl⟩ := loM_some hlo
      have hk6 : k ≤ 60 := by have : far most ≤ 60 := by unfold far; omega
                              omega
      refine .inl ⟨_, k, hdf, hdr, pcr_dis hG (L := 19) ⟨fun hng => ?_, hk6⟩ ?_ (by omega)⟩
      · have h7 : x.num < 0 := of_decide_eq_true hng
        intro h8
        have h9 := Nat.div_mul_cancel (Nat.dvd_of_mod_eq_zero h6)
        rw [h8, Nat.zero_mul] at h9
        exact Nat.mul_ne_zero (by omega) (ten_ne k) h9.symm
      · refine Nat.lt_of_le_of_lt (Nat.div_le_self _ _) ?_
        rw [show 19 = 12 + 7 from rfl, Nat.pow_add]
        exact mul_lt2 hx.lt.1 (ten_lt hk6)
  clear hdf hdr hps hpsr
  rcases hpd with ⟨e, he, hp1, hp2⟩ | ⟨b2, X2, k2, hp1, hp2, hp3⟩
  · rcases hoo with ⟨q, k3, hq1, hq2, hq3⟩ | ⟨hq1, hq2⟩
    · refine pcr_by hG (fn := Tryz.f6) (n := 119) (rv := [.tmp 8]) (by kernel_rfl) ok6 (by kernel_rfl) (by decide) (by kernel_rfl) (by simp) (by kernel_rfl) (fun r hr => ?_); unfold c6 st0
      (exact xwalkd)
    · refine pcr_by hG (fn := Tryz.f6) (n := 119) (rv := [.tmp 8]) (by kernel_rfl) ok6 (by kernel_rfl) (by decide) (by kernel_rfl) (by simp) (by kernel_rfl) (fun r hr => ?_); unfold c6 st0
      (exact xwalkd)
  · rcases hoo with ⟨q, k3, hq1, hq2, hq3⟩ | ⟨hq1, hq2⟩
    · refine pcr_by hG (fn := Tryz.f6) (n := 119) (rv := [.tmp 8]) (by kernel_rfl) ok6 (by kernel_rfl) (by decide) (by kernel_rfl) (by simp) (by kernel_rfl) (fun r hr => ?_); unfold c6 st0
      (exact xwalkd)
    · refine pcr_by hG (fn := Tryz.f6) (n := 119) (rv := [.tmp 8]) (by kernel_rfl) ok6 (by kernel_rfl) (by decide) (by kernel_rfl) (by simp) (by kernel_rfl) (fun r hr => ?_); unfold c6 st0
      (exact xwalkd)
end Go.Proofs.YtapikjmijmebpaaGreatDoorK.LawT4
