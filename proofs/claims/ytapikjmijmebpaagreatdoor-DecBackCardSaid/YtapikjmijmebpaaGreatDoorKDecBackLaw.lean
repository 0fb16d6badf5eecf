/-
  cubitlaw4.DecBack answers true.
-/
import Derived.Test.YtapikjmijmebpaaGreatDoorKIrLDecBack
import Derived.Test.YtapikjmijmebpaaGreatDoorKAwakeE4
import Derived.Test.YtapikjmijmebpaaGreatDoorKIsD4
set_option linter.all false
set_option linter.unusedVariables false
set_option linter.unusedSimpArgs false
set_option maxHeartbeats 4000000
namespace Go.Proofs.YtapikjmijmebpaaGreatDoorK.LawT4
open Go.Proofs.YtapikjmijmebpaaGreatDoorK.AI Go.Proofs.YtapikjmijmebpaaGreatDoorK.NatIr Go.Proofs.YtapikjmijmebpaaGreatDoorK.Dig Go.Proofs.YtapikjmijmebpaaGreatDoorK.NatT Go.Proofs.YtapikjmijmebpaaGreatDoorK.NumT Go.Proofs.YtapikjmijmebpaaGreatDoorK.RatT Go.Proofs.YtapikjmijmebpaaGreatDoorK.RefT Go.Proofs.YtapikjmijmebpaaGreatDoorK.DecT
set_option linter.unusedSimpArgs false
attribute [local irreducible] awp awpOps
attribute [local go_sem] getO putE_same putE_ne putE_none un0_at ini_zero ini_one ini_two ini_three ne_eq not_false_eq_true Nat.zero_ne_one Nat.one_ne_zero zero_ne_succ succ_ne_zero sym_nil sym_cons symG_call symG_op symG_skip IOp.isCall gd st_mv st_pick st_new st_box st_build st_lit st_load st_store st_faddr st_fld st_iaddrS st_iaddrA st_idxs st_bin st_beq st_neg st_not st_conv st_slcS st_slcL st_make st_app st_lenS st_lenL st_mx st_mn st_ext st_nilck st_bstr byD pureC loadC setH hv boundO D.cells D.one D.boxable fillD putD rowD binC intBinC decT decF dec_true dec_false bne_self_eq_false beq_self_eq_true beq_true_false beq_false_true bne_iff_ne List.length_nil List.length_cons List.getD_cons_zero List.getD_cons_succ List.set_cons_zero List.set_cons_succ List.all_cons List.all_nil Bool.and_true Bool.true_and Nat.lt_irrefl Nat.sub_self Nat.zero_add Nat.add_zero Nat.mul_one Nat.lt_add_one if_true if_false List.replicate_zero List.nil_append List.cons_append List.append_nil List.map_cons List.map_nil Bool.false_eq_true or_self or_true true_or or_false false_or true_and and_true and_self Int.ofNat_zero wrap_i64 wrap_u32 wrap_u64 wrap_u8 wrap_u32_mod wrap_u64_mod Nat.zero_lt_one Int.toNat_natCast Int.sub_zero toNat_pred List.take_succ_cons List.take_zero List.drop_succ_cons List.drop_zero List.take_nil List.drop_nil Nat.le_refl List.length_singleton rvDs rvD ldD one? Option.bind_some Option.map_some resD_int resD_bool resD_str resD_sl resD_rp resD_nils resD_null resD_agg resD_tup resD_own rdOwn resD_ptr rdPtr rd_ite resL_eq go_nil go_cons D.imm resArgs shr32 shl32 Nat.zero_mul Bool.and_self Bool.and_false Bool.false_and strBin_eql strBin_neq Bool.not_true Bool.not_false i64max List.length_reverse List.length_set SS_length SS_getD SS_set SS_take SS_drop SS_imm SS_one SS_app1 W_get1 W_len1 W_getD W_set W_take W_drop W_app W_length W_imm W_one W_repl N mx_nat toNat_succ toNat_add toNat_pred2 tdiv_nn tmod_nn List.take_of_length_le cast_succ and_one or_shl32 min64 shr32b shl32b IntKind.bits
attribute [local go_sem] V_getD V_set V_take V_drop V_imm V_one V_app V_app1 V_repl V_get1 V_length M List.length_append
attribute [local go_sem] nl ZD MZ
attribute [local go_sem] QD MQ
attribute [local go_sem] MD DD List.size_toArray ba_size not_true_eq_false not_false_eq_true
variable {G : World → Prop}
set_option maxHeartbeats 16000000 in
theorem pcr_back_law (hG : Stable G) (hT : ∀ w, G w → Lib.TabIs Tryz.prog w "internal/strconv.uint64pow10" .u64 Lib.pow10Tab) (hM : ∀ w, G w → LibT.gMax w)
    (b0 : Bool) (a : List Int) (n : Nat) (hn : n = a.length) (ha : ok 4294967296 a) (hla : a.length ≤ 9223372036854775807) (k : Int) (hk : -9223372036854775808 ≤ k ∧ k ≤ 9223372036854775807) :
    PCr Tryz.prog G 9 [.agg [.bool b0, .sl n (W a), .int .i64 k]] (.bool true) := by
  have haw := pcr_awake hG hT hM
  by_cases hl : 16 < n
  · refine pcr_by hG (fn := Tryz.f9) (n := 74) (rv := [.tmp 2]) (by kernel_rfl) ok9 (by kernel_rfl) (by decide) (by kernel_rfl) (by simp) (by kernel_rfl) (fun r hr => ?_); unfold c9 st0
    (repeat (first | refine xctlp ?_ | refine xrgp ?_ | (refine xcb1 ?_; (first | refine xcbf (by first | with_reducible assumption | assumption) (by rfl) ?_ | refine xcba (by first | with_reducible assumption | assumption) ?_)) | refine xrgs ?_ | (refine xcbg1 ?_; (first | refine xcbf (by first | with_reducible assumption | assumption) (by rfl) ?_ | refine xcba (by first | with_reducible assumption | assumption) ?_)) | refine xdr ?_ | refine xctp ?_ | refine xcFp ?_ | refine xcto ?_ | refine xcfo ?_ | (refine xrt ?_; exact hr.symm)))
  have hg := pcr_dgood hG b0 a n k hn ha (by omega)
  cases hgd : gdB b0 a k
  · rw [hgd] at hg
    refine pcr_by hG (fn := Tryz.f9) (n := 74) (rv := [.tmp 2]) (by kernel_rfl) ok9 (by kernel_rfl) (by decide) (by kernel_rfl) (by simp) (by kernel_rfl) (fun r hr => ?_); unfold c9 st0
    (repeat (first | refine xctlp ?_ | refine xrgp ?_ | (refine xcb1 ?_; (first | refine xcbf (by first | with_reducible assumption | assumption) (by rfl) ?_ | refine xcba (by first | with_reducible assumption | assumption) ?_)) | refine xrgs ?_ | (refine xcbg1 ?_; (first | refine xcbf (by first | with_reducible assumption | assumption) (by rfl) ?_ | refine xcba (by first | with_reducible assumption | assumption) ?_)) | refine xdr ?_ | refine xctp ?_ | refine xcFp ?_ | refine xcto ?_ | refine xcfo ?_ | (refine xrt ?_; exact hr.symm)))
  rw [hgd] at hg
  obtain ⟨he, hok⟩ := gdB_DD hn ha hgd
  have hx : vl 4294967296 a < 4294967296 ^ 16 := Nat.lt_of_lt_of_le (vl_lt ha) (Nat.pow_le_pow_right (by omega) (by omega))
  have hdm : Dm 16 b0 (vl 4294967296 a) k.toNat (.agg [.bool b0, .sl n (W a), .int .i64 k]) := ⟨b0, a, n, k, hn, ha, by omega, rfl, by rw [hgd]; rfl⟩
  have hkk : k = ((k.toNat : Nat) : Int) := by
    injection he with h1
    injection h1 with _ h1
    injection h1 with _ h1
    injection h1 with h1 _
    injection h1
  generalize vl 4294967296 a = X at *
  generalize k.toNat = s at *
  subst hkk
  have htx := pcr_dtext hG hT hdm (by omega)
  have hlen : (dT b0 X s).length ≤ 256 := by
    have h1 := nm_dlen (nm_N hx)
    have h2 := pd_len (X := X) (s := s)
    have h3 := pw_len (X := X) (s := s)
    have h4 := pp_len (X := X) (s := s)
    have h5 := hok.2
    unfold dT
    cases b0
    · by_cases h0 : s = 0
      · simp [h0] at *; omega
      · simp [h0]; omega
    · by_cases h0 : s = 0
      · simp [h0] at *; omega
      · simp [h0]; omega
  have hps := pcr_dparse hG hM ⟨(dT b0 X s).toArray⟩ (by rw [ba_size]; omega)
  rw [dPE, if_neg (by rw [ba_size]; omega), show (⟨(dT b0 X s).toArray⟩ : ByteArray).data.toList = dT b0 X s from rfl, dP_dT hok.1 hok.2, dRes] at hps
  have hsh := pcr_dshort hG hdm (by omega)
  have hsx : (sh X s).1 < 4294967296 ^ 16 := Nat.lt_of_le_of_lt (sh_fst_le s X) hx
  have hsm := Dm.self hok.short hsx
  have hra := pcr_drat hG hdm (by omega)
  have hrs := pcr_drat hG hsm (by omega)
  have hsq : dq b0 (sh X s).1 (sh X s).2 = dq b0 X s := sh_rat b0 X s
  rw [hsq] at hrs
  have hqm := dq_qm hok hx
  have hcm := RatT.pcr_cmp hG hqm hqm (by omega) (by omega)
  rw [RatT.cmp_eq rfl] at hcm
  have hof := pcr_dof hG hqm (by omega) 60
  obtain ⟨q1, q2, q3⟩ := dq_num hok
  rw [q1, q2, q3, loM, if_pos (Nat.zero_le _), show far 60 - 0 = 60 from rfl, lo_sh hok.2, dOf] at hof
  have hrw := raw_of hG hdm (by omega)
  have hrws := raw_of hG hsm (by omega)
  have hd1 := pcr_dis hG hok hx (by omega)
  have hd2 := pcr_dis hG hok.short hsx (by omega)
  have hpt := pcr_dpart hG hT hdm (by omega)
  have hsl := sh_le s X
  have hpl := pp_len (X := X) (s := s)
  rw [he] at hg htx hsh hra hrw hpt ⊢
  have hwl := wd_length_le (B := 4294967296) (by omega) hx
  refine pcr_by hG (fn := Tryz.f9) (n := 74) (rv := [.tmp 2]) (by kernel_rfl) ok9 (by kernel_rfl) (by decide) (by kernel_rfl) (by simp) (by kernel_rfl) (fun r hr => ?_); unfold c9 st0
  (repeat (first | refine xctlp ?_ | refine xrgp ?_ | (refine xcb1 ?_; (first | refine xcbf (by first | with_reducible assumption | assumption) (by rfl) ?_ | refine xcba (by first | with_reducible assumption | assumption) ?_)) | refine xrgs ?_ | (refine xcbg1 ?_; (first | refine xcbf (by first | with_reducible assumption | assumption) (by rfl) ?_ | refine xcba (by first | with_reducible assumption | assumption) ?_)) | refine xdr ?_ | refine xctp ?_ | refine xcFp ?_ | refine xcto ?_ | refine xcfo ?_ | (refine xrt ?_; exact hr.symm)))
end Go.Proofs.YtapikjmijmebpaaGreatDoorK.LawT4
