/-
  The document's Parse: what it computes.
-/
import Derived.Test.YtapikjmijmebpaaDoorKRa
import Derived.Test.YtapikjmijmebpaaDoorKParseN
set_option linter.all false
set_option linter.unusedVariables false
set_option linter.unusedSimpArgs false
set_option maxHeartbeats 4000000
namespace Go.Proofs.YtapikjmijmebpaaDoorK.RefT
open Go.Proofs.YtapikjmijmebpaaDoorK.AI Go.Proofs.YtapikjmijmebpaaDoorK.NatIr Go.Proofs.YtapikjmijmebpaaDoorK.Dig Go.Proofs.YtapikjmijmebpaaDoorK.NatT
set_option linter.unusedSimpArgs false
attribute [local irreducible] awp awpOps
attribute [local go_sem] getO putE_same putE_ne putE_none un0_at ini_zero ini_one ini_two ini_three ne_eq not_false_eq_true Nat.zero_ne_one Nat.one_ne_zero zero_ne_succ succ_ne_zero sym_nil sym_cons symG_call symG_op symG_skip IOp.isCall gd st_mv st_pick st_new st_box st_build st_lit st_load st_store st_faddr st_fld st_iaddrS st_iaddrA st_idxs st_bin st_beq st_neg st_not st_conv st_slcS st_slcL st_make st_app st_lenS st_lenL st_mx st_mn st_ext st_nilck st_bstr byD pureC loadC setH hv boundO D.cells D.one D.boxable fillD putD rowD binC intBinC decT decF dec_true dec_false bne_self_eq_false beq_self_eq_true beq_true_false beq_false_true bne_iff_ne List.length_nil List.length_cons List.getD_cons_zero List.getD_cons_succ List.set_cons_zero List.set_cons_succ List.all_cons List.all_nil Bool.and_true Bool.true_and Nat.lt_irrefl Nat.sub_self Nat.zero_add Nat.add_zero Nat.mul_one Nat.lt_add_one if_true if_false List.replicate_zero List.nil_append List.cons_append List.append_nil List.map_cons List.map_nil Bool.false_eq_true or_self or_true true_or or_false false_or true_and and_true and_self Int.ofNat_zero wrap_i64 wrap_u32 wrap_u64 wrap_u8 wrap_u32_mod wrap_u64_mod Nat.zero_lt_one Int.toNat_natCast Int.sub_zero toNat_pred List.take_succ_cons List.take_zero List.drop_succ_cons List.drop_zero List.take_nil List.drop_nil Nat.le_refl List.length_singleton rvDs rvD ldD one? Option.bind_some Option.map_some resD_int resD_bool resD_str resD_sl resD_rp resD_nils resD_null resD_agg resD_tup resD_own rdOwn resD_ptr rdPtr rd_ite resL_eq go_nil go_cons D.imm resArgs shr32 shl32 Nat.zero_mul Bool.and_self Bool.and_false Bool.false_and strBin_eql strBin_neq Bool.not_true Bool.not_false i64max List.length_reverse List.length_set SS_length SS_getD SS_set SS_take SS_drop SS_imm SS_one SS_app1 W_get1 W_len1 W_getD W_set W_take W_drop W_app W_length W_imm W_one W_repl N mx_nat toNat_succ toNat_add toNat_pred2 tdiv_nn tmod_nn List.take_of_length_le cast_succ and_one or_shl32 min64 shr32b shl32b IntKind.bits
attribute [local go_sem] V_getD V_set V_take V_drop V_imm V_one V_app V_app1 V_repl V_get1 V_length M List.length_append
variable {G : World → Prop}
theorem bt_get (s : ByteArray) (i : Nat) : bt s i = ((s.data.toList.getD i 0).toNat : Int) := by
  simp [bt]
theorem bt_lt (s : ByteArray) (i : Nat) : 0 ≤ bt s i ∧ bt s i ≤ 255 := by
  rw [bt_get]
  have := (s.data.toList.getD i 0).toNat_lt
  omega
theorem allD_at {s : ByteArray} (h : allD s = true) {i : Nat} (hi : i < s.size) : 48 ≤ bt s i ∧ bt s i ≤ 57 := by
  have h1 : s.data.toList.getD i 0 ∈ s.data.toList := by
    rw [List.getD_eq_getElem?_getD, List.getElem?_eq_getElem (by rw [ba_len]; exact hi)]
    exact List.getElem_mem _
  have h2 := of_decide_eq_true (allD_iff.1 h _ h1)
  rw [bt_get]
  omega
theorem allD_of {s : ByteArray} (h : ∀ i, i < s.size → 48 ≤ bt s i ∧ bt s i ≤ 57) : allD s = true := by
  refine allD_iff.2 fun c hc => ?_
  obtain ⟨i, hi, rfl⟩ := List.getElem_of_mem hc
  have h1 := h i (by rw [ba_len] at hi; exact hi)
  rw [bt_get, List.getD_eq_getElem?_getD, List.getElem?_eq_getElem hi] at h1
  refine decide_eq_true ?_
  simp only [Option.getD_some] at h1
  omega
/-- The digits from a to b, told. -/
def chunk (l : List UInt8) (a b : Nat) : Nat := decV ((l.take b).drop a)
theorem chunk_self (l : List UInt8) (a : Nat) : chunk l a a = 0 := by
  rw [chunk, List.drop_eq_nil_of_le (by simp; omega)]; rfl
theorem chunk_next {l : List UInt8} {a b : Nat} (hab : a ≤ b) (hb : b < l.length) : chunk l a (b + 1) = 10 * chunk l a b + ((l.getD b 0).toNat - 48) := by
  have h1 : l.take (b + 1) = l.take b ++ [l.getD b 0] := by
    rw [List.take_succ, List.getElem?_eq_getElem hb, List.getD_eq_getElem?_getD, List.getElem?_eq_getElem hb]; rfl
  rw [chunk, h1, List.drop_append_of_le_length (by simp; omega), decV_app, List.length_singleton, Nat.pow_one, Nat.mul_comm, ← chunk]
  congr 1
  simp [decV]
theorem chunk_lt {l : List UInt8} (h : ∀ c ∈ l, isD c = true) (a b : Nat) : chunk l a b < 10 ^ (b - a) := by
  have h1 := decV_lt ((l.take b).drop a) (fun c hc => h c (List.mem_of_mem_take (List.mem_of_mem_drop hc)))
  refine Nat.lt_of_lt_of_le h1 (Nat.pow_le_pow_right (by omega) ?_)
  simp only [List.length_drop, List.length_take]
  omega
theorem chunk_drop {l : List UInt8} {a b : Nat} (hab : a ≤ b) (hb : b ≤ l.length) : decV (l.drop a) = chunk l a b * 10 ^ (l.length - b) + decV (l.drop b) := by
  have h1 : l.drop a = (l.take b).drop a ++ l.drop b := by
    rw [← List.drop_append_of_le_length (by simp; omega), List.take_append_drop]
  rw [h1, decV_app, List.length_drop]; rfl
theorem pow4 (c : Nat) : 10 ^ (4 * c) = 10000 ^ c := by rw [Nat.pow_mul]
end Go.Proofs.YtapikjmijmebpaaDoorK.RefT
