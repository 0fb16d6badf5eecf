/-
  cubitlaw8.DimsLaws answers true.
-/
import Derived.Test.YticocfhgopppjaaDoorKIrLDimsLaws
import Derived.Test.YticocfhgopppjaaDoorKAwakeM8
import Derived.Test.YticocfhgopppjaaDoorKDimsV
set_option linter.all false
set_option linter.unusedVariables false
set_option linter.unusedSimpArgs false
set_option maxHeartbeats 4000000
namespace Go.Proofs.YticocfhgopppjaaDoorK.LawT8
open Go.Proofs.YticocfhgopppjaaDoorK.AI Go.Proofs.YticocfhgopppjaaDoorK.NatIr Go.Proofs.YticocfhgopppjaaDoorK.DimsT
set_option linter.unusedSimpArgs false
attribute [local irreducible] awp awpOps
attribute [local go_sem] getO putE_same putE_ne putE_none un0_at ini_zero ini_one ini_two ini_three ne_eq not_false_eq_true Nat.zero_ne_one Nat.one_ne_zero zero_ne_succ succ_ne_zero sym_nil sym_cons symG_call symG_op symG_skip IOp.isCall gd st_mv st_pick st_new st_box st_build st_lit st_load st_store st_faddr st_fld st_iaddrS st_iaddrA st_idxs st_bin st_beq st_neg st_not st_conv st_slcS st_slcL st_make st_app st_lenS st_lenL st_capL st_seq eqAt eq1 st_mx st_mn st_ext st_nilck st_bstr st_idxA st_slcA st_aeq st_isnil nilD st_mkmap st_look st_mput st_mkfn foundD byD pureC loadC setH hv boundO D.cells D.one D.boxable fillD putD rowD binC intBinC decT decF dec_true dec_false bne_self_eq_false beq_self_eq_true beq_true_false beq_false_true bne_iff_ne List.length_nil List.length_cons List.getD_cons_zero List.getD_cons_succ List.set_cons_zero List.set_cons_succ List.all_cons List.all_nil Bool.and_true Bool.true_and Nat.lt_irrefl Nat.sub_self Nat.zero_add Nat.add_zero Nat.mul_one Nat.lt_add_one if_true if_false List.replicate_zero List.nil_append List.cons_append List.append_nil List.map_cons List.map_nil Bool.false_eq_true or_self or_true true_or or_false false_or true_and and_true and_self Int.ofNat_zero wrap_i64 wrap_u32 wrap_u64 wrap_u8 wrap_u32_mod wrap_u64_mod Nat.zero_lt_one Int.toNat_natCast Int.sub_zero toNat_pred List.take_succ_cons List.take_zero List.drop_succ_cons List.drop_zero List.take_nil List.drop_nil Nat.le_refl List.length_singleton rvDs rvD ldD one? Option.bind_some Option.map_some resD_int resD_bool resD_str resD_sl resD_rp resD_nils resD_null resD_agg resD_tup resD_own rdOwn resD_nilm resD_mf resD_fn resD_mo rdMo resD_ptr rdPtr rd_ite resL_eq go_nil go_cons D.imm resArgs shr32 shl32 Nat.zero_mul Bool.and_self Bool.and_false Bool.false_and strBin_eql strBin_neq Bool.not_true Bool.not_false i64max List.length_reverse List.length_set SS_length SS_getD SS_set SS_take SS_drop SS_imm SS_one SS_app1 W_get1 W_len1 W_getD W_set W_take W_drop W_app W_length W_imm W_one W_repl N mx_nat toNat_succ toNat_add toNat_pred2 tdiv_nn tmod_nn List.take_of_length_le cast_succ and_one or_shl32 min64 shr32b shl32b IntKind.bits
attribute [local go_sem] not_true_eq_false not_false_eq_true beq_self_eq_true bne_self_eq_false eq_self decide_true
variable {G : World → Prop}
set_option maxHeartbeats 16000000 in
theorem pcr_laws_law (hG : Stable G) (hT : ∀ w, G w → Lib.TabIs Tryd.prog w "internal/strconv.uint64pow10" .u64 Lib.pow10Tab) (hM : ∀ w, G w → LibT.gMax w)
    (a : List Int) (ha : a.length = 8) (b : List Int) (hb : b.length = 8) :
    PCr Tryd.prog G 5 [.agg (I a), .agg (I b)] (.bool true) := by
  have haw := pcr_awake hG hT hM
  have h1 := pcr_add hG ha hb
  have h2 := pcr_add hG hb ha
  rw [addD_comm (a := b) (b := a) (by omega), show (goodD b && goodD a) = (goodD a && goodD b) from Bool.and_comm _ _] at h2
  have h3 := pcr_times hG 2 ha
  rw [two_ok, mulD_two] at h3
  have h4 := pcr_add hG ha ha
  simp only [mV] at h1 h2 h3 h4
  have hs8 : (addD a b).length = 8 := by rw [addD_len, ha]
  obtain ⟨y, hy, hy8⟩ : ∃ y, (if (goodD a && goodD a && goodD (addD a a)) = true then addD a a else z8) = y ∧ y.length = 8 := ite_len (by rw [addD_len, ha])
  rw [hy] at h3 h4
  generalize (goodD a && goodD a && goodD (addD a a)) = q at *
  cases hp : (goodD a && goodD b && goodD (addD a b)) with
  | false =>
    rw [hp] at h1 h2
    simp only [Bool.false_eq_true, if_false] at h1 h2
    obtain ⟨z, hz, hz8⟩ : ∃ z, z8 = z ∧ z.length = 8 := ⟨_, rfl, rfl⟩
    have e0 : eqInts (I z) [.int .i64 0, .int .i64 0, .int .i64 0, .int .i64 0, .int .i64 0, .int .i64 0, .int .i64 0, .int .i64 0] = some true := by rw [← hz]; rfl
    rw [hz] at h1 h2
    refine pcr_byq ok5 hG (n := 83) (rv := [.tmp 4]) fun r hr => ?_; unfold c5 st0
    (have we1 := @I_len; have we2 := @I_take8; have we3 := @I_put8; have we4 := @I_one; have we5 := @I_imm; have we6 := e0; have we7 := @IEq; exact xwalkd7)
  | true =>
    rw [hp] at h1 h2
    simp only [if_true] at h1 h2
    simp only [Bool.and_eq_true] at hp
    obtain ⟨⟨ga, gb⟩, gs⟩ := hp
    have h5 := pcr_neg hG hb
    rw [neg_ok gb, if_pos rfl] at h5
    have h6 := pcr_neg hG ha
    rw [neg_ok ga, if_pos rfl] at h6
    have hn8 : (mulD b (-1)).length = 8 := by rw [mulD_len, hb]
    have hm8 : (mulD a (-1)).length = 8 := by rw [mulD_len, ha]
    have h7 := pcr_neg hG hm8
    rw [neg_ok (neg_good ga), if_pos rfl, neg_neg] at h7
    have h8 := pcr_add hG hs8 hn8
    rw [add_back (by omega), gs, neg_good gb, ga] at h8
    simp only [mV, Bool.and_self, if_true] at h8
    have h9 := pcr_same hG ha ha
    rw [decide_eq_true rfl] at h9
    generalize addD a b = s at *
    generalize mulD b (-1) = nb at *
    generalize mulD a (-1) = na at *
    refine pcr_byq ok5 hG (n := 83) (rv := [.tmp 4]) fun r hr => ?_; unfold c5 st0
    (have we1 := @I_len; have we2 := @I_take8; have we3 := @I_put8; have we4 := @I_one; have we5 := @I_imm; have we6 := @IEq; exact xwalkd6)
end Go.Proofs.YticocfhgopppjaaDoorK.LawT8
