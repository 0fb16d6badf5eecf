/-
  The document's exponents: GoodV, AddV: what they compute.
-/
import Derived.Test.YtapgmfahdpopnaaDoorKDimsB
set_option linter.all false
set_option linter.unusedVariables false
set_option linter.unusedSimpArgs false
set_option maxHeartbeats 4000000
namespace Go.Proofs.YtapgmfahdpopnaaDoorK.DimsT
open Go.Proofs.YtapgmfahdpopnaaDoorK.AI Go.Proofs.YtapgmfahdpopnaaDoorK.NatIr
set_option linter.unusedSimpArgs false
attribute [local irreducible] awp awpOps
attribute [local go_sem] getO putE_same putE_ne putE_none un0_at ini_zero ini_one ini_two ini_three ne_eq not_false_eq_true Nat.zero_ne_one Nat.one_ne_zero zero_ne_succ succ_ne_zero sym_nil sym_cons symG_call symG_op symG_skip IOp.isCall gd st_mv st_pick st_new st_box st_build st_lit st_load st_store st_faddr st_fld st_iaddrS st_iaddrA st_idxs st_bin st_beq st_neg st_not st_conv st_slcS st_slcL st_make st_app st_lenS st_lenL st_capL st_appZ st_seq eqAt eq1 st_mx st_mn st_ext st_nilck st_bstr st_idxA st_slcA st_aeq st_isnil nilD st_mkmap st_look st_mput st_mkfn foundD byD pureC loadC setH hv boundO D.cells D.one D.boxable fillD putD rowD binC intBinC decT decF dec_true dec_false bne_self_eq_false beq_self_eq_true beq_true_false beq_false_true bne_iff_ne List.length_nil List.length_cons List.getD_cons_zero List.getD_cons_succ List.set_cons_zero List.set_cons_succ List.all_cons List.all_nil Bool.and_true Bool.true_and Nat.lt_irrefl Nat.sub_self Nat.zero_add Nat.add_zero Nat.mul_one Nat.lt_add_one if_true if_false List.replicate_zero List.nil_append List.cons_append List.append_nil List.map_cons List.map_nil Bool.false_eq_true or_self or_true true_or or_false false_or true_and and_true and_self Int.ofNat_zero wrap_i64 wrap_u32 wrap_u64 wrap_u8 wrap_u32_mod wrap_u64_mod Nat.zero_lt_one Int.toNat_natCast Int.sub_zero toNat_pred List.take_succ_cons List.take_zero List.drop_succ_cons List.drop_zero List.take_nil List.drop_nil Nat.le_refl List.length_singleton rvDs rvD ldD one? Option.bind_some Option.map_some resD_int resD_bool resD_str resD_sl resD_rp resD_nils resD_null resD_agg resD_tup resD_own rdOwn resD_nilm resD_mf resD_fn resD_mo rdMo resD_ptr rdPtr rd_ite resL_eq go_nil go_cons D.imm resArgs shr32 shl32 Nat.zero_mul Bool.and_self Bool.and_false Bool.false_and strBin_eql strBin_neq Bool.not_true Bool.not_false i64max List.length_reverse List.length_set SS_length SS_getD SS_set SS_take SS_drop SS_imm SS_one SS_app1 W_get1 W_len1 W_getD W_set W_take W_drop W_app W_length W_imm W_one W_repl N mx_nat toNat_succ toNat_add toNat_pred2 tdiv_nn tmod_nn List.take_of_length_le cast_succ and_one or_shl32 min64 shr32b shl32b IntKind.bits
attribute [local go_sem] not_true_eq_false not_false_eq_true
variable {G : World → Prop} {l : List Int} {n : Int}
def upTo (f : Nat → Int) (i : Nat) : List Int := (List.range 8).map fun j => if j < i then f j else 0
theorem upTo_len {f : Nat → Int} {i : Nat} : (upTo f i).length = 8 := by simp [upTo]
theorem upTo_set {f : Nat → Int} {i : Nat} (h : i < 8) : (upTo f i).set i (f i) = upTo f (i + 1) := by
  unfold upTo
  refine List.ext_getElem? fun j => ?_
  rw [List.getElem?_set]
  by_cases hj : j < 8
  · by_cases hij : i = j
    · subst hij
      simp [h]
    · rw [if_neg hij]
      simp only [List.getElem?_map, List.getElem?_range hj, Option.map_some]
      by_cases h1 : j < i
      · rw [if_pos h1, if_pos (by omega)]
      · rw [if_neg h1, if_neg (by omega)]
  · rw [List.getElem?_eq_none (l := (List.range 8).map _) (by simp; omega), List.getElem?_eq_none (by simp; omega)]
    simp
    omega
theorem upTo_add {a b : List Int} (ha : a.length = 8) : upTo (fun j => a.getD j 0 + b.getD j 0) 8 = addD a b := by
  unfold upTo addD
  rw [ha]
  refine List.map_congr_left fun j hj => ?_
  rw [if_pos (List.mem_range.1 hj)]
theorem upTo_skip {f : Nat → Int} {i : Nat} (h0 : f i = 0) : upTo f i = upTo f (i + 1) := by
  unfold upTo
  refine List.map_congr_left fun j _ => ?_
  by_cases h1 : j < i
  · rw [if_pos h1, if_pos (by omega)]
  · rw [if_neg h1]
    by_cases h2 : j < i + 1
    · rw [if_pos h2, show j = i by omega, h0]
    · rw [if_neg h2]
theorem upTo_mul {a : List Int} {k : Int} (ha : a.length = 8) : upTo (fun j => a.getD j 0 * k) 8 = mulD a k := by
  unfold upTo mulD
  rw [ha]
  refine List.map_congr_left fun j hj => ?_
  rw [if_pos (List.mem_range.1 hj)]
theorem okn_mul {a : List Int} {k : Int} (ha : a.length = 8) (h : ∀ j, j < 8 → a.getD j 0 = 0 ∨ inD k = true) : a.all (okn k) = goodD (mulD a k) := by
  rw [Bool.eq_iff_iff]
  constructor
  · intro h1
    refine all_yes fun j hj => ?_
    have hj8 : j < a.length := by simpa [mulD] using hj
    have h2 : okn k (a.getD j 0) = true := by
      have := List.all_eq_true.1 h1 _ (List.getElem_mem hj8)
      rw [List.getD_eq_getElem?_getD, List.getElem?_eq_getElem hj8]
      exact this
    have h3 : (mulD a k).getD j 0 = a.getD j 0 * k := by simp [mulD, List.getD_eq_getElem?_getD, hj8]
    rw [h3]
    unfold okn at h2
    by_cases h0 : a.getD j 0 = 0
    · rw [h0, Int.zero_mul]; rfl
    · rw [decide_eq_false h0, Bool.false_or, Bool.and_eq_true] at h2
      exact h2.2
  · intro h1
    refine all_yes fun j hj => ?_
    have h3 : (mulD a k).getD j 0 = a.getD j 0 * k := by simp [mulD, List.getD_eq_getElem?_getD, hj]
    have hl : j < (mulD a k).length := by simpa [mulD] using hj
    have h2 : inD (a.getD j 0 * k) = true := by
      have := List.all_eq_true.1 h1 _ (List.getElem_mem hl)
      rw [← h3, List.getD_eq_getElem?_getD, List.getElem?_eq_getElem hl]
      exact this
    unfold okn
    rcases h j (by omega) with h4 | h4
    · rw [h4]; rfl
    · rw [h4, h2, Bool.and_self, Bool.or_true]
end Go.Proofs.YtapgmfahdpopnaaDoorK.DimsT
