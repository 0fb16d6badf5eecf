/-
  Package dec: Of, Short: what they compute.
-/
import Derived.Test.YtapikjmijmebpaaGreatDoorKIrDec
import Derived.Test.YtapikjmijmebpaaGreatDoorKDecA
set_option linter.all false
set_option linter.unusedVariables false
set_option linter.unusedSimpArgs false
set_option maxHeartbeats 4000000
namespace Go.Proofs.YtapikjmijmebpaaGreatDoorK.DecT
open Go.Proofs.YtapikjmijmebpaaGreatDoorK.AI Go.Proofs.YtapikjmijmebpaaGreatDoorK.NatIr Go.Proofs.YtapikjmijmebpaaGreatDoorK.Dig Go.Proofs.YtapikjmijmebpaaGreatDoorK.NatT Go.Proofs.YtapikjmijmebpaaGreatDoorK.NumT Go.Proofs.YtapikjmijmebpaaGreatDoorK.RatT Go.Proofs.YtapikjmijmebpaaGreatDoorK.LibT
set_option linter.unusedSimpArgs false
attribute [local irreducible] awp awpOps
attribute [local go_sem] getO putE_same putE_ne putE_none un0_at ini_zero ini_one ini_two ini_three ne_eq not_false_eq_true Nat.zero_ne_one Nat.one_ne_zero zero_ne_succ succ_ne_zero sym_nil sym_cons symG_call symG_op symG_skip IOp.isCall gd st_mv st_pick st_new st_box st_build st_lit st_load st_store st_faddr st_fld st_iaddrS st_iaddrA st_idxs st_bin st_beq st_neg st_not st_conv st_slcS st_slcL st_make st_app st_lenS st_lenL st_mx st_mn st_ext st_nilck st_bstr byD pureC loadC setH hv boundO D.cells D.one D.boxable fillD putD rowD binC intBinC decT decF dec_true dec_false bne_self_eq_false beq_self_eq_true beq_true_false beq_false_true bne_iff_ne List.length_nil List.length_cons List.getD_cons_zero List.getD_cons_succ List.set_cons_zero List.set_cons_succ List.all_cons List.all_nil Bool.and_true Bool.true_and Nat.lt_irrefl Nat.sub_self Nat.zero_add Nat.add_zero Nat.mul_one Nat.lt_add_one if_true if_false List.replicate_zero List.nil_append List.cons_append List.append_nil List.map_cons List.map_nil Bool.false_eq_true or_self or_true true_or or_false false_or true_and and_true and_self Int.ofNat_zero wrap_i64 wrap_u32 wrap_u64 wrap_u8 wrap_u32_mod wrap_u64_mod Nat.zero_lt_one Int.toNat_natCast Int.sub_zero toNat_pred List.take_succ_cons List.take_zero List.drop_succ_cons List.drop_zero List.take_nil List.drop_nil Nat.le_refl List.length_singleton rvDs rvD ldD one? Option.bind_some Option.map_some resD_int resD_bool resD_str resD_sl resD_rp resD_nils resD_null resD_agg resD_tup resD_own rdOwn resD_ptr rdPtr rd_ite resL_eq go_nil go_cons D.imm resArgs shr32 shl32 Nat.zero_mul Bool.and_self Bool.and_false Bool.false_and strBin_eql strBin_neq Bool.not_true Bool.not_false i64max List.length_reverse List.length_set SS_length SS_getD SS_set SS_take SS_drop SS_imm SS_one SS_app1 W_get1 W_len1 W_getD W_set W_take W_drop W_app W_length W_imm W_one W_repl N mx_nat toNat_succ toNat_add toNat_pred2 tdiv_nn tmod_nn List.take_of_length_le cast_succ and_one or_shl32 min64 shr32b shl32b IntKind.bits
attribute [local go_sem] nl ZD
attribute [local go_sem] QD
attribute [local go_sem] DD Int.add_sub_cancel
@[local simp] theorem kb_nl (k X : Nat) : kb k (nl X) := by simp [nl, kb, kbs_W]
variable {G : World → Prop} {L M X Y s : Nat} {b : Bool} {x : Rat} {d e : D}
theorem sh_fst_le (s X : Nat) : (sh X s).1 ≤ X := by
  have h := sh_val s X
  have hp := Nat.pow_pos (n := s - (sh X s).2) (show 0 < 10 by omega)
  have := Nat.le_mul_of_pos_right (sh X s).1 hp
  omega
theorem sh_ne (s X : Nat) (h : X ≠ 0) : (sh X s).1 ≠ 0 := by
  intro h0
  have h1 := sh_val s X
  rw [h0, Nat.zero_mul] at h1
  exact h h1.symm
theorem Dok.short (h : Dok b X s) : Dok b (sh X s).1 (sh X s).2 := ⟨fun hb => sh_ne s X (h.1 hb), Nat.le_trans (sh_le s X) h.2⟩
set_option maxHeartbeats 4000000 in
theorem pcr_dshort (hG : Stable G) (h : Dm L b X s d) (hL : L < 150000) : PCr Tryz.prog G 39 [d] (DD b (sh X s).1 (sh X s).2) := by
  have hp := pcr_dplain hG h (by omega)
  have h10 := NatT.pcr_of hG 10 (by omega)
  have hok := h.ok
  obtain ⟨b0, a, n, k, hn, ha, hl, rfl, he⟩ := h
  refine pcr_byq ok39 hG (n := 29) (rv := [.cell 2 true 3]) fun r hr => ?_; unfold c39 st0
  (refine xwalk ?_)
  refine awp_loop (fun k σ => ∃ (X1 s1 : Nat), k = s1 ∧ s1 ≤ 60 ∧ X1 < 4294967296 ^ L ∧ sh X s = sh X1 s1 ∧
      σ = ⟨(putE (putE un0 (some 1) (.ptr 0 0 0)) (some 2) (.ptr 1 0 0)), [some (0, 30, 3, [.bool b, nl X1, .int .i64 (s1 : Int)]), some (0, 30, 3, [.bool false, .nils, .int .i64 0])]⟩) s
      (Ent.env (less_put (less_put (less_un0 _) ?_) ?_)) ⟨X, s, rfl, hok.1.2, hok.2, rfl, rfl⟩ ?_
  iterate 2 (· exact xlq)
  rintro k σ1 ⟨X1, s1, rfl, hs1, hX1, hsh, rfl⟩
  have hdv := pcr_divN hG (nm_N hX1) (nm_N (X := 10) (L := 1) (by omega)) (by omega) (by omega) (by omega)
  have hz := pcr_dzero hG (nm_N (X := X1 % 10) (L := 1) (by omega)) (by omega)
  cases k with
  | zero =>
    rw [hsh] at hr
    (exact xwalkd)
  | succ j =>
    have hX2 : X1 / 10 < 4294967296 ^ L := by omega
    by_cases h0 : X1 % 10 = 0
    · rw [decide_eq_true h0] at hz
      (refine xwalk ?_)
      refine ⟨j, _, by omega, (Ent.cutk 2 (less_put (less_put (less_un0 _) ?_) ?_) (by exact ⟨.inr rfl, .inr rfl, trivial⟩) (kb_put (kb_put (kb_un0 _) (by simp [kb])) (by simp [kb])) (by simp [kbH, kb.kbs, kb, kbs_W, kbs_SS])), X1 / 10, j, rfl, by omega, hX2, ?_, rfl⟩
      iterate 2 (· exact xlq)
      rw [hsh, sh, if_pos h0]
    · rw [decide_eq_false h0] at hz
      rw [hsh, sh, if_neg h0] at hr
      (exact xwalkd)
def dOf (b : Bool) : Option (Nat × Nat) → D
  | some (q, k) => .tup [DD b q k, .bool true]
  | none => .tup [DD false 0 0, .bool false]
def far (most : Int) : Nat := min (max most 0).toNat 60
def loM (n d M k : Nat) : Option (Nat × Nat) := if k ≤ M then lo n d (M - k) k else none
theorem loM_hit {n d M k : Nat} (hk : k ≤ M) (h : n * 10 ^ k % d = 0) : loM n d M k = some (n * 10 ^ k / d, k) := by
  rw [loM, if_pos hk]
  cases M - k <;> rw [lo, if_pos h]
theorem loM_next {n d M k : Nat} (hk : k ≤ M) (h : n * 10 ^ k % d ≠ 0) : loM n d M k = loM n d M (k + 1) := by
  rw [loM, if_pos hk, loM]
  by_cases h1 : k + 1 ≤ M
  · rw [if_pos h1, show M - k = (M - (k + 1)) + 1 by omega, lo, if_neg h]
  · rw [if_neg h1, show M - k = 0 by omega, lo, if_neg h]
set_option maxHeartbeats 8000000 in
theorem pcr_dof (hG : Stable G) (hx : Qm L x d) (hL : L < 20000) (most : Int) : PCr Tryz.prog G 36 [d, .int .i64 most] (dOf (ng x.num) (loM x.num.natAbs x.den (far most) 0)) := by
  have hi := RatT.pcr_int hG 0 (by omega) (by omega)
  have had := RatT.pcr_add hG hx (qm_int 0 (by decide)) (by omega) (by omega)
  rw [show x + ((0 : Int) : Rat) = x from Rat.add_zero x] at had
  have h10 := NatT.pcr_of hG 10 (by omega)
  have hlt := hx.lt
  have hden := x.den_nz
  have e1 : (if (0 : Int) > most then (0 : Int) else most) = max most 0 := by split <;> omega
  have e2 : (if (60 : Int) < max most 0 then (60 : Int) else max most 0) = ((far most : Nat) : Int) := by unfold far; split <;> omega
  have hM : far most ≤ 60 := by unfold far; omega
  generalize far most = m at *
  obtain ⟨b0, X, Y, n, k, cs, ds, _, _, _, rfl⟩ := hx.row
  refine pcr_byq ok36 hG (n := 46) (rv := [.cell 4 true 3, .tmp 5]) fun r hr => ?_; unfold c36 st0
  (refine xwalk ?_)
  refine awp_loop (fun k σ => ∃ (i n : Nat), i ≤ m + 1 ∧ k = m + 1 - i ∧ n = x.num.natAbs * 10 ^ i ∧ loM x.num.natAbs x.den m 0 = loM x.num.natAbs x.den m i ∧
      σ = ⟨(putE (putE (putE (putE (putE (putE un0 (some 1) (.int .i64 most)) (some 2) (.ptr 0 0 0)) (some 4) (.ptr 1 0 0)) (some 5) (.bool false)) (some 6) (.ptr 2 0 0)) (some 7) (.int .i64 (i : Int))), [some (0, 28, 3, [.bool (ng x.num), nl x.num.natAbs, nl x.den]), some (0, 30, 3, [.bool false, .nils, .int .i64 0]), some (0, 24, 1, [nl n])]⟩) (m + 1)
      (Ent.env (less_put (less_put (less_put (less_put (less_put (less_put (less_un0 _) ?_) ?_) ?_) ?_) ?_) ?_)) ⟨0, _, by omega, rfl, by rw [Nat.pow_zero, Nat.mul_one], rfl, rfl⟩ ?_
  iterate 5 (· exact xlq)
  · show _ = D.int .i64 ((0 : Nat) : Int)
    exact xlq
  rintro k σ1 ⟨i, n, hi1, rfl, hn, hlo, rfl⟩
  by_cases him : i ≤ m
  · have hnb : n < 4294967296 ^ (L + 7) := by
      rw [hn, Nat.pow_add]
      exact mul_lt2 hlt.1 (ten_lt (by omega))
    have hdv := pcr_divN hG (nm_N hnb) (nm_N hlt.2) (by omega) (by omega) hden
    have hz := pcr_dzero hG (nm_mod (nm_N hlt.2) hden (X := n)) (by omega)
    by_cases h0 : n % x.den = 0
    · rw [decide_eq_true h0] at hz
      rw [hlo, loM_hit him (by rw [← hn]; exact h0), ← hn, dOf] at hr
      (have we1 := e1; have we2 := e2; exact xwalkd2)
    · rw [decide_eq_false h0] at hz
      have hm := pcr_mulN hG (nm_N hnb) (nm_N (X := 10) (L := 1) (by omega)) (by omega) (by omega)
      (have we1 := e1; have we2 := e2; refine xwalk2 ?_)
      refine ⟨m + 1 - (i + 1), _, by omega, (Ent.cutk 3 (less_put (less_put (less_put (less_put (less_put (less_put (less_un0 _) ?_) ?_) ?_) ?_) ?_) ?_) (by exact ⟨.inr rfl, .inr rfl, .inr rfl, trivial⟩) (kb_put (kb_put (kb_put (kb_put (kb_put (kb_put (kb_un0 _) (by simp [kb])) (by simp [kb])) (by simp [kb])) (by simp [kb])) (by simp [kb])) (by simp [kb])) (by simp [kbH, kb.kbs, kb, kbs_W, kbs_SS])), i + 1, n * 10, by omega, rfl, by rw [hn, Nat.pow_succ, Nat.mul_assoc], ?_, rfl⟩
      iterate 6 (· exact xlq)
      rw [hlo, loM_next him (by rw [← hn]; exact h0)]
  · rw [hlo, loM, if_neg him, dOf, DD_zero] at hr
    (have we1 := e1; have we2 := e2; exact xwalkd2)
end Go.Proofs.YtapikjmijmebpaaGreatDoorK.DecT
