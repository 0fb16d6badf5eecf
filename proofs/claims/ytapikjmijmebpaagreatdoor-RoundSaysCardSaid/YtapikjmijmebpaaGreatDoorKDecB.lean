/-
  Package dec: Parse: what it computes.
-/
import Derived.Test.YtapikjmijmebpaaGreatDoorKIrDec
import Derived.Test.YtapikjmijmebpaaGreatDoorKDecA
set_option linter.all false
set_option linter.unusedVariables false
set_option linter.unusedSimpArgs false
set_option maxHeartbeats 4000000
namespace Go.Proofs.YtapikjmijmebpaaGreatDoorK.DecT
open Go.Proofs.YtapikjmijmebpaaGreatDoorK.AI Go.Proofs.YtapikjmijmebpaaGreatDoorK.NatIr Go.Proofs.YtapikjmijmebpaaGreatDoorK.Dig Go.Proofs.YtapikjmijmebpaaGreatDoorK.NatT Go.Proofs.YtapikjmijmebpaaGreatDoorK.NumT Go.Proofs.YtapikjmijmebpaaGreatDoorK.RatT Go.Proofs.YtapikjmijmebpaaGreatDoorK.LibT
set_option linter.unusedSimpArgs false
attribute [local irreducible] awp awpOps
attribute [local go_sem] getO putE_same putE_ne putE_none un0_at ini_zero ini_one ini_two ini_three ne_eq not_false_eq_true Nat.zero_ne_one Nat.one_ne_zero zero_ne_succ succ_ne_zero sym_nil sym_cons symG_call symG_op symG_skip IOp.isCall gd st_mv st_pick st_new st_box st_build st_lit st_load st_store st_faddr st_fld st_iaddrS st_iaddrA st_idxs st_bin st_beq st_neg st_not st_conv st_slcS st_slcL st_make st_app st_lenS st_lenL st_mx st_mn st_ext st_nilck st_bstr byD pureC loadC setH hv boundO D.cells D.one D.boxable fillD putD rowD binC intBinC decT decF dec_true dec_false bne_self_eq_false beq_self_eq_true beq_true_false beq_false_true bne_iff_ne List.length_nil List.length_cons List.getD_cons_zero List.getD_cons_succ List.set_cons_zero List.set_cons_succ List.all_cons List.all_nil Bool.and_true Bool.true_and Nat.lt_irrefl Nat.sub_self Nat.zero_add Nat.add_zero Nat.mul_one Nat.lt_add_one if_true if_false List.replicate_zero List.nil_append List.cons_append List.append_nil List.map_cons List.map_nil Bool.false_eq_true or_self or_true true_or or_false false_or true_and and_true and_self Int.ofNat_zero wrap_i64 wrap_u32 wrap_u64 wrap_u8 wrap_u32_mod wrap_u64_mod Nat.zero_lt_one Int.toNat_natCast Int.sub_zero toNat_pred List.take_succ_cons List.take_zero List.drop_succ_cons List.drop_zero List.take_nil List.drop_nil Nat.le_refl List.length_singleton rvDs rvD ldD one? Option.bind_some Option.map_some resD_int resD_bool resD_str resD_sl resD_rp resD_nils resD_null resD_agg resD_tup resD_own rdOwn resD_ptr rdPtr rd_ite resL_eq go_nil go_cons D.imm resArgs shr32 shl32 Nat.zero_mul Bool.and_self Bool.and_false Bool.false_and strBin_eql strBin_neq Bool.not_true Bool.not_false i64max List.length_reverse List.length_set SS_length SS_getD SS_set SS_take SS_drop SS_imm SS_one SS_app1 W_get1 W_len1 W_getD W_set W_take W_drop W_app W_length W_imm W_one W_repl N mx_nat toNat_succ toNat_add toNat_pred2 tdiv_nn tmod_nn List.take_of_length_le cast_succ and_one or_shl32 min64 shr32b shl32b IntKind.bits
attribute [local go_sem] nl ZD
attribute [local go_sem] QD
attribute [local go_sem] DD List.size_toArray ba_size RatT.ba_app List.length_append List.length_replicate
variable {G : World → Prop} {L M X Y s : Nat} {b : Bool} {d e : D}
def pgd (l : List UInt8) : Bool := decide (l ≠ []) && l.all isD
theorem pgd_iff {l : List UInt8} : pgd l = true ↔ l ≠ [] ∧ l.all isD = true := by simp [pgd]
theorem pcr_np (hG : Stable G) (l : List UInt8) (hs : l.length < 1000000) : PCr Tryz.prog G 108 [.str ⟨l.toArray⟩] (.tup [N (if pgd l = true then decV l else 0), .bool (pgd l)]) := by
  by_cases h : pgd l = true
  · rw [if_pos h, h]
    have h1 := pgd_iff.1 h
    exact NatT.pcr_parse hG ⟨l.toArray⟩ (by rw [ba_size]; exact hs) (by rw [ba_size]; exact fun e => h1.1 (List.eq_nil_of_length_eq_zero e)) h1.2
  · rw [if_neg h, Bool.eq_false_iff.2 h]
    refine NatT.pcr_parse_not hG ⟨l.toArray⟩ (by rw [ba_size]; exact hs) ?_
    by_cases h0 : l = []
    · left; rw [h0]; rfl
    · right
      refine Bool.eq_false_iff.2 fun h2 => h (pgd_iff.2 ⟨h0, h2⟩)
theorem pgd_app {w p : List UInt8} {pt : Bool} (hw : pgd w = true) (h1 : pt = true → pgd p = true) (h0 : pt = false → p = []) : pgd (w ++ p) = true := by
  rw [pgd_iff] at hw ⊢
  refine ⟨by simp [hw.1], ?_⟩
  rw [List.all_append, hw.2]
  cases pt
  · rw [h0 rfl]; rfl
  · rw [(pgd_iff.1 (h1 rfl)).2]; rfl
theorem cut1_pt (c : UInt8) : ∀ l, (cut1 c l).2.2 = false → (cut1 c l).2.1 = [] := by
  intro l h
  by_cases hc : c ∈ l
  · obtain ⟨a, b, rfl, ha⟩ := List.eq_append_cons_of_mem hc
    rw [cut1_at c a b ha] at h; cases h
  · rw [cut1_none c l hc]
theorem dP_eq (l : List UInt8) : dP l = if (pgd (cut1 46 (Lib.trimPrefix l [45])).1 && (!(cut1 46 (Lib.trimPrefix l [45])).2.2 || pgd (cut1 46 (Lib.trimPrefix l [45])).2.1) && decide ((cut1 46 (Lib.trimPrefix l [45])).2.1.length ≤ 60)) = true then
    some (Lib.hasPrefix l [45] && decide (decV ((cut1 46 (Lib.trimPrefix l [45])).1 ++ (cut1 46 (Lib.trimPrefix l [45])).2.1) ≠ 0), decV ((cut1 46 (Lib.trimPrefix l [45])).1 ++ (cut1 46 (Lib.trimPrefix l [45])).2.1), (cut1 46 (Lib.trimPrefix l [45])).2.1.length)
    else none := by
  unfold dP
  congr 1
  rw [Bool.and_eq_true, Bool.and_eq_true, Bool.or_eq_true, Bool.not_eq_true', pgd_iff, pgd_iff, decide_eq_true_iff]
  generalize (cut1 46 (Lib.trimPrefix l [45])).2.2 = pt
  cases pt <;> simp [and_assoc]
def dRes : Option (Bool × Nat × Nat) → D
  | some (b, X, k) => .tup [DD b X k, .int .i64 0]
  | none => .tup [DD false 0 0, .int .i64 2]
def dPE (s : ByteArray) : D := if 256 < s.size then .tup [DD false 0 0, .int .i64 11] else dRes (dP s.data.toList)
set_option maxHeartbeats 8000000 in
theorem pcr_dparse (hG : Stable G) (hM : ∀ w, G w → gMax w) (s : ByteArray) (hs : s.size ≤ 9223372036854775807) : PCr Tryz.prog G 29 [.str s] (dPE s) := by
  unfold dPE
  by_cases h0 : 256 < s.size
  · rw [if_pos h0, DD_zero]
    refine pcr_byq ok29 hG (n := 76) (rv := [.cell 2 true 3, .tmp 3]) fun r hr => ?_; unfold c29 st0
    (exact xwalkd)
  rw [if_neg h0]
  have hl : s.data.toList.length = s.size := ba_len s
  have h1 := lib_cutprefix (G := G) s ⟨#[45]⟩
  rw [show (⟨#[45]⟩ : ByteArray).data.toList = [45] from rfl] at h1
  rw [dP_eq]
  have htl := NumT.trim_le s.data.toList [45]
  generalize Lib.trimPrefix s.data.toList [45] = t at *
  generalize Lib.hasPrefix s.data.toList [45] = neg at *
  have h2 := lib_cut hM ⟨t.toArray⟩ ⟨#[46]⟩ (by rw [ba_size]; omega)
  rw [show (⟨#[46]⟩ : ByteArray).data.toList = [46] from rfl, show (⟨t.toArray⟩ : ByteArray).data.toList = t from rfl, cut_cut1] at h2
  have hcl := cut1_len 46 t
  have hcp := cut1_pt 46 t
  obtain ⟨w, p, pt, hc⟩ : ∃ w p pt, cut1 46 t = (w, p, pt) := ⟨_, _, _, rfl⟩
  rw [hc] at h2 hcl hcp ⊢
  dsimp only at h2 hcl hcp ⊢
  have n1 := pcr_np hG w (by omega)
  have n2 := pcr_np hG p (by omega)
  have n3 := pcr_np hG (w ++ p) (by rw [List.length_append]; omega)
  have hpg := pgd_app (w := w) (p := p) (pt := pt)
  cases ha : pgd w
  · rw [ha] at n1
    rw [if_neg (by simp), dRes, DD_zero]
    rw [if_neg (by simp)] at n1
    cases ho : pgd (w ++ p)
    · rw [ho] at n3
      refine pcr_byq ok29 hG (n := 76) (rv := [.cell 2 true 3, .tmp 3]) fun r hr => ?_; unfold c29 st0
      (exact xwalkd)
    · rw [ho] at n3
      refine pcr_byq ok29 hG (n := 76) (rv := [.cell 2 true 3, .tmp 3]) fun r hr => ?_; unfold c29 st0
      (exact xwalkd)
  · rw [ha] at n1 hpg
    rw [if_pos rfl] at n1
    cases hpt : pt
    · have hp := hcp hpt
      subst hpt hp
      have ho := hpg rfl (fun h => by cases h) (fun _ => rfl)
      rw [ho, if_pos rfl] at n3
      rw [if_pos (by simp), dRes]
      have hX := dV_lt (pgd_iff.1 ho).2
      have hXl : (w ++ []).length ≤ 256 := by rw [List.append_nil]; omega
      rw [List.append_nil] at n3 ho hX hXl ⊢
      generalize decV w = X at *
      have hz := pcr_dzero hG (nm_N (Nat.lt_of_lt_of_le hX (Nat.pow_le_pow_right (by omega) hXl))) (by omega)
      cases neg
      · refine pcr_byq ok29 hG (n := 76) (rv := [.cell 2 true 3, .tmp 3]) fun r hr => ?_; unfold c29 st0
        (exact xwalkd)
      · refine pcr_byq ok29 hG (n := 76) (rv := [.cell 2 true 3, .tmp 3]) fun r hr => ?_; unfold c29 st0
        (refine xwalk ?_)
        refine xrt ?_
        rw [hr, Bool.true_and, decide_not]; rfl
    · subst hpt
      cases hb : pgd p
      · rw [hb] at n2
        rw [if_neg (by simp), dRes, DD_zero]
        cases ho : pgd (w ++ p)
        · rw [ho] at n3
          refine pcr_byq ok29 hG (n := 76) (rv := [.cell 2 true 3, .tmp 3]) fun r hr => ?_; unfold c29 st0
          (exact xwalkd)
        · rw [ho] at n3
          refine pcr_byq ok29 hG (n := 76) (rv := [.cell 2 true 3, .tmp 3]) fun r hr => ?_; unfold c29 st0
          (exact xwalkd)
      · have ho := hpg rfl (fun _ => hb) (fun h => by cases h)
        rw [hb, if_pos rfl] at n2
        rw [ho, if_pos rfl] at n3
        by_cases h6 : p.length ≤ 60
        · rw [if_pos (by simp [h6]), dRes]
          have hX := dV_lt (pgd_iff.1 ho).2
          have hXl : (w ++ p).length ≤ 512 := by rw [List.length_append]; omega
          generalize decV (w ++ p) = X at *
          have hz := pcr_dzero hG (nm_N (Nat.lt_of_lt_of_le hX (Nat.pow_le_pow_right (by omega) hXl))) (by omega)
          cases neg
          · refine pcr_byq ok29 hG (n := 76) (rv := [.cell 2 true 3, .tmp 3]) fun r hr => ?_; unfold c29 st0
            (exact xwalkd)
          · refine pcr_byq ok29 hG (n := 76) (rv := [.cell 2 true 3, .tmp 3]) fun r hr => ?_; unfold c29 st0
            (refine xwalk ?_)
            refine xrt ?_
            rw [hr, Bool.true_and, decide_not]; rfl
        · rw [if_neg (by simp [h6]), dRes, DD_zero]
          refine pcr_byq ok29 hG (n := 76) (rv := [.cell 2 true 3, .tmp 3]) fun r hr => ?_; unfold c29 st0
          (exact xwalkd)
end Go.Proofs.YtapikjmijmebpaaGreatDoorK.DecT
