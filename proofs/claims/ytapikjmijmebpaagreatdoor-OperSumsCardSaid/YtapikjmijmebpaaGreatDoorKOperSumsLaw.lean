/-
  cubitlaw18.OperSums answers true.
-/
import Derived.Test.YtapikjmijmebpaaGreatDoorKIrLOperSums
import Derived.Test.YtapikjmijmebpaaGreatDoorKAwakeE18
import Derived.Test.YtapikjmijmebpaaGreatDoorKIsD18
import Derived.Test.YtapikjmijmebpaaGreatDoorKRefOper
set_option linter.all false
set_option linter.unusedVariables false
set_option linter.unusedSimpArgs false
set_option maxHeartbeats 4000000
namespace Go.Proofs.YtapikjmijmebpaaGreatDoorK.LawT18
open Go.Proofs.YtapikjmijmebpaaGreatDoorK.AI Go.Proofs.YtapikjmijmebpaaGreatDoorK.NatIr Go.Proofs.YtapikjmijmebpaaGreatDoorK.Dig Go.Proofs.YtapikjmijmebpaaGreatDoorK.NatT Go.Proofs.YtapikjmijmebpaaGreatDoorK.NumT Go.Proofs.YtapikjmijmebpaaGreatDoorK.RatT Go.Proofs.YtapikjmijmebpaaGreatDoorK.RefT Go.Proofs.YtapikjmijmebpaaGreatDoorK.DecT Go.Proofs.YtapikjmijmebpaaGreatDoorK.OperT
set_option linter.unusedSimpArgs false
attribute [local irreducible] awp awpOps
attribute [local go_sem] getO putE_same putE_ne putE_none un0_at ini_zero ini_one ini_two ini_three ne_eq not_false_eq_true Nat.zero_ne_one Nat.one_ne_zero zero_ne_succ succ_ne_zero sym_nil sym_cons symG_call symG_op symG_skip IOp.isCall gd st_mv st_pick st_new st_box st_build st_lit st_load st_store st_faddr st_fld st_iaddrS st_iaddrA st_idxs st_bin st_beq st_neg st_not st_conv st_slcS st_slcL st_make st_app st_lenS st_lenL st_mx st_mn st_ext st_nilck st_bstr byD pureC loadC setH hv boundO D.cells D.one D.boxable fillD putD rowD binC intBinC decT decF dec_true dec_false bne_self_eq_false beq_self_eq_true beq_true_false beq_false_true bne_iff_ne List.length_nil List.length_cons List.getD_cons_zero List.getD_cons_succ List.set_cons_zero List.set_cons_succ List.all_cons List.all_nil Bool.and_true Bool.true_and Nat.lt_irrefl Nat.sub_self Nat.zero_add Nat.add_zero Nat.mul_one Nat.lt_add_one if_true if_false List.replicate_zero List.nil_append List.cons_append List.append_nil List.map_cons List.map_nil Bool.false_eq_true or_self or_true true_or or_false false_or true_and and_true and_self Int.ofNat_zero wrap_i64 wrap_u32 wrap_u64 wrap_u8 wrap_u32_mod wrap_u64_mod Nat.zero_lt_one Int.toNat_natCast Int.sub_zero toNat_pred List.take_succ_cons List.take_zero List.drop_succ_cons List.drop_zero List.take_nil List.drop_nil Nat.le_refl List.length_singleton rvDs rvD ldD one? Option.bind_some Option.map_some resD_int resD_bool resD_str resD_sl resD_rp resD_nils resD_null resD_agg resD_tup resD_own rdOwn resD_ptr rdPtr rd_ite resL_eq go_nil go_cons D.imm resArgs shr32 shl32 Nat.zero_mul Bool.and_self Bool.and_false Bool.false_and strBin_eql strBin_neq Bool.not_true Bool.not_false i64max List.length_reverse List.length_set SS_length SS_getD SS_set SS_take SS_drop SS_imm SS_one SS_app1 W_get1 W_len1 W_getD W_set W_take W_drop W_app W_length W_imm W_one W_repl N mx_nat toNat_succ toNat_add toNat_pred2 tdiv_nn tmod_nn List.take_of_length_le cast_succ and_one or_shl32 min64 shr32b shl32b IntKind.bits
attribute [local go_sem] V_getD V_set V_take V_drop V_imm V_one V_app V_app1 V_repl V_get1 V_length M List.length_append
attribute [local go_sem] nl ZD MZ
attribute [local go_sem] QD MQ
attribute [local go_sem] MD DD OD not_true_eq_false not_false_eq_true beq_self_eq_true List.size_toArray ba_size Int.reduceAdd
theorem kb_nlO (k X : Nat) : kb k (nl X) := by simp [nl, kb, kbs_W]
theorem kb_MO (k X : Nat) : kb k (M X) := by simp [M, kb, kbs_V]
attribute [local simp] kb_nlO kb_MO
variable {G : World → Prop}
theorem sh_last : ∀ (s X : Nat), (sh X s).2 = 0 ∨ (sh X s).1 % 10 ≠ 0
  | 0, X => .inl rfl
  | s + 1, X => by
    rw [sh]; split
    · exact sh_last s (X / 10)
    · rename_i h; exact .inr h
theorem sh_idem (X s : Nat) : sh (sh X s).1 (sh X s).2 = sh X s := by
  rcases sh_last s X with h | h
  · rw [h]; exact Prod.ext rfl h.symm
  · cases hs : (sh X s).2 with
    | zero => exact Prod.ext rfl hs.symm
    | succ j => rw [sh, if_neg h]; exact Prod.ext rfl hs.symm
theorem tenth_k (s : Nat) : (((10 : Int) : Rat)⁻¹) ^ s = (((10 ^ s : Nat) : Rat))⁻¹ := by
  have h : ∀ s : Nat, ((((10 : Int) : Rat)⁻¹) ^ s) * ((10 ^ s : Nat) : Rat) = 1 := by
    intro s
    induction s with
    | zero => rw [Rat.pow_zero, Rat.one_mul]; rfl
    | succ s ih =>
      have h10 : ((10 : Int) : Rat)⁻¹ * (10 : Rat) = 1 := Rat.inv_mul_cancel _ (by decide)
      have e : ((10 ^ (s + 1) : Nat) : Rat) = ((10 ^ s : Nat) : Rat) * (10 : Rat) := by rw [Nat.pow_succ, Rat.natCast_mul]; rfl
      rw [Rat.pow_succ, e]
      grind
  have h0 : ((10 ^ s : Nat) : Rat) ≠ 0 := fun e => ten_ne s (by exact_mod_cast e)
  have h1 := Rat.mul_inv_cancel _ h0
  have h2 := h s
  generalize (((10 ^ s : Nat) : Rat))⁻¹ = y at *
  generalize ((10 ^ s : Nat) : Rat) = t at *
  generalize (((10 : Int) : Rat)⁻¹) ^ s = z at *
  grind
theorem sums (X s : Nat) : (((X / 10 ^ s : Nat) : Int) : Rat) + (((X % 10 ^ s : Nat) : Int) : Rat) * (((10 ^ s : Nat) : Rat))⁻¹ = dq false X s := by
  have h0 : ((10 ^ s : Nat) : Rat) ≠ 0 := fun e => ten_ne s (by exact_mod_cast e)
  have h1 := Rat.mul_inv_cancel _ h0
  have h2 : ((X : Nat) : Rat) = ((10 ^ s : Nat) : Rat) * ((X / 10 ^ s : Nat) : Rat) + ((X % 10 ^ s : Nat) : Rat) := by
    rw [← Rat.natCast_mul, ← Rat.natCast_add, Nat.div_add_mod]
  have h3 : dq false X s = ((X : Nat) : Rat) * (((10 ^ s : Nat) : Rat))⁻¹ := by rw [dq, Rat.mkRat_eq_div, Rat.div_def]; rfl
  rw [h3, h2, show (((X / 10 ^ s : Nat) : Int) : Rat) = ((X / 10 ^ s : Nat) : Rat) from rfl, show (((X % 10 ^ s : Nat) : Int) : Rat) = ((X % 10 ^ s : Nat) : Rat) from rfl]
  generalize (((10 ^ s : Nat) : Rat))⁻¹ = y at *
  generalize ((10 ^ s : Nat) : Rat) = t at *
  generalize ((X / 10 ^ s : Nat) : Rat) = u at *
  grind
theorem qm_10 : Qm 1 ((10 : Int) : Rat) (QD ((10 : Int) : Rat)) := qm_QD (by omega) (by decide) (by decide)
theorem pcr_tenth (hG : Stable G) (s : Nat) (hs : s ≤ 60) : PCr Tryz.prog G 64 [QD ((10 : Int) : Rat), .int .i64 (0 - (s : Int))] (.tup [QD (((10 ^ s : Nat) : Rat))⁻¹, .bool true]) := by
  rw [← tenth_k]
  cases s with
  | zero =>
    have h := RatT.pcr_pow hG qm_10 0 (by omega) (by omega)
    rw [Rat.pow_zero] at h ⊢
    exact h
  | succ K => exact RatT.pcr_powneg hG qm_10 K (by omega) (by omega) (by decide) _ (by omega)
set_option maxHeartbeats 16000000 in
theorem pcr_sums_law (hG : Stable G) (hT : ∀ w, G w → Lib.TabIs Tryz.prog w "internal/strconv.uint64pow10" .u64 Lib.pow10Tab) (hM : ∀ w, G w → LibT.gMax w)
    (b0 : Bool) (a : List Int) (n : Nat) (hn : n = a.length) (ha : ok 4294967296 a) (hla : a.length ≤ 9223372036854775807) (k : Int) (hk : -9223372036854775808 ≤ k ∧ k ≤ 9223372036854775807) :
    PCr Tryz.prog G 10 [.agg [.bool b0, .sl n (W a), .int .i64 k]] (.bool true) := by
  have haw := pcr_awake hG hT hM
  by_cases hl : 16 < n
  · refine pcr_by hG (fn := Tryz.f10) (n := 112) (rv := [.tmp 2]) (by kernel_rfl) ok10 (by kernel_rfl) (by decide) (by kernel_rfl) (by simp) (by kernel_rfl) (fun r hr => ?_); unfold c10 st0
    (exact xwalkd)
  have hg := pcr_dgood hG b0 a n k hn ha (by omega)
  cases hgd : gdB b0 a k
  · rw [hgd] at hg
    refine pcr_by hG (fn := Tryz.f10) (n := 112) (rv := [.tmp 2]) (by kernel_rfl) ok10 (by kernel_rfl) (by decide) (by kernel_rfl) (by simp) (by kernel_rfl) (fun r hr => ?_); unfold c10 st0
    (exact xwalkd)
  rw [hgd] at hg
  obtain ⟨b, X, s, hdm⟩ := dm_in (L := 16) (b0 := b0) (k := k) hn ha (by omega)
  obtain ⟨hok, hX⟩ := hdm.ok
  have hs := hok.2
  have hof := pcr_oof hG hT hdm (by omega)
  have hsh := pcr_dshort hG hdm (by omega)
  have hsx : (sh X s).1 < 4294967296 ^ 16 := Nat.lt_of_le_of_lt (sh_fst_le s X) hX
  have hos := pcr_oof hG hT (Dm.self hok.short hsx) (by omega)
  rw [OD, sh_idem, show dq false (sh X s).1 (sh X s).2 = dq false X s from sh_rat false X s] at hos
  have hi := RatT.pcr_int hG 10 (by omega) (by omega)
  have hpw := pcr_tenth hG s hs
  have hno := NatT.pcr_of hG 1 (by omega)
  have hF : X % 10 ^ s < 4294967296 ^ 16 := Nat.lt_of_le_of_lt (Nat.mod_le _ _) hX
  have hI : X / 10 ^ s < 4294967296 ^ 16 := Nat.lt_of_le_of_lt (Nat.div_le_self _ _) hX
  have hT' : (sh X s).1 % 10 ^ (sh X s).2 < 4294967296 ^ 16 := Nat.lt_of_le_of_lt (Nat.mod_le _ _) hsx
  have ho1 := RatT.pcr_of hG (b := false) (nm_N hF) nm1 (by omega) (by omega) (by omega)
  have ho2 := RatT.pcr_of hG (b := false) (nm_N hI) nm1 (by omega) (by omega) (by omega)
  rw [mk_one, show sg false (X % 10 ^ s) = ((X % 10 ^ s : Nat) : Int) from rfl] at ho1
  rw [mk_one, show sg false (X / 10 ^ s) = ((X / 10 ^ s : Nat) : Int) from rfl] at ho2
  have hq1 := qm_natq (M := 16) (by omega) hF
  have hq2 := qm_natq (M := 16) (by omega) hI
  have hq3 : Qm 7 (((10 ^ s : Nat) : Rat))⁻¹ (QD (((10 ^ s : Nat) : Rat))⁻¹) := qm_inv (qm_tenN hs)
  have hm := RatT.pcr_mul hG hq1 hq3 (by omega) (by omega)
  have had := RatT.pcr_add hG hq2 (qm_mul hq1 hq3) (by omega) (by omega)
  rw [sums, QD_dq] at had
  have hqd := dq_qmf (b := false) hs hX
  have hcm := RatT.pcr_cmp hG hqd hqd (by omega) (by omega)
  rw [RatT.cmp_eq rfl, QD_dq] at hcm
  have hcn := pcr_cmpE hG (nm_N hT') (nm_N hT') (by omega) (by omega) rfl
  have hsl := sh_le s X
  refine pcr_by hG (fn := Tryz.f10) (n := 112) (rv := [.tmp 2]) (by kernel_rfl) ok10 (by kernel_rfl) (by decide) (by kernel_rfl) (by simp) (by kernel_rfl) (fun r hr => ?_); unfold c10 st0
  (exact xwalkd)
end Go.Proofs.YtapikjmijmebpaaGreatDoorK.LawT18
