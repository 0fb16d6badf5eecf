/-
  cubitlaw18.OperSays answers true.
-/
import Derived.Test.YtapikjmijmebpaaGreatDoorKIrLOperSays
import Derived.Test.YtapikjmijmebpaaGreatDoorKAwakeE18
import Derived.Test.YtapikjmijmebpaaGreatDoorKIsD18
import Derived.Test.YtapikjmijmebpaaGreatDoorKRefOper
set_option linter.all false
set_option linter.unusedVariables false
set_option linter.unusedSimpArgs false
set_option maxHeartbeats 4000000
namespace Go.Proofs.YtapikjmijmebpaaGreatDoorK.LawT18
open Go.Proofs.YtapikjmijmebpaaGreatDoorK.AI Go.Proofs.YtapikjmijmebpaaGreatDoorK.NatIr Go.Proofs.YtapikjmijmebpaaGreatDoorK.Dig Go.Proofs.YtapikjmijmebpaaGreatDoorK.NatT Go.Proofs.YtapikjmijmebpaaGreatDoorK.NumT Go.Proofs.YtapikjmijmebpaaGreatDoorK.RatT Go.Proofs.YtapikjmijmebpaaGreatDoorK.RefT Go.Proofs.YtapikjmijmebpaaGreatDoorK.DecT Go.Proofs.YtapikjmijmebpaaGreatDoorK.OperT
set_option linter.unusedSimpArgs false
attribute [local irreducible] awp awpOps
attribute [local go_sem] getO putE_same putE_ne putE_none un0_at ini_zero ini_one ini_two ini_three ne_eq not_false_eq_true Nat.zero_ne_one Nat.one_ne_zero zero_ne_succ succ_ne_zero sym_nil sym_cons symG_call symG_op symG_skip IOp.isCall gd st_mv st_pick st_new st_box st_build st_lit st_load st_store st_faddr st_fld st_iaddrS st_iaddrA st_idxs st_bin st_beq st_neg st_not st_conv st_slcS st_slcL st_make st_app st_lenS st_lenL st_mx st_mn st_ext st_nilck st_bstr byD pureC loadC setH hv boundO D.cells D.one D.boxable fillD putD rowD binC intBinC decT decF dec_true dec_false bne_self_eq_false beq_self_eq_true beq_true_false beq_false_true bne_iff_ne List.length_nil List.length_cons List.getD_cons_zero List.getD_cons_succ List.set_cons_zero List.set_cons_succ List.all_cons List.all_nil Bool.and_true Bool.true_and Nat.lt_irrefl Nat.sub_self Nat.zero_add Nat.add_zero Nat.mul_one Nat.lt_add_one if_true if_false List.replicate_zero List.nil_append List.cons_append List.append_nil List.map_cons List.map_nil Bool.false_eq_true or_self or_true true_or or_false false_or true_and and_true and_self Int.ofNat_zero wrap_i64 wrap_u32 wrap_u64 wrap_u8 wrap_u32_mod wrap_u64_mod Nat.zero_lt_one Int.toNat_natCast Int.sub_zero toNat_pred List.take_succ_cons List.take_zero List.drop_succ_cons List.drop_zero List.take_nil List.drop_nil Nat.le_refl List.length_singleton rvDs rvD ldD one? Option.bind_some Option.map_some resD_int resD_bool resD_str resD_sl resD_rp resD_nils resD_null resD_agg resD_tup resD_own rdOwn resD_ptr rdPtr rd_ite resL_eq go_nil go_cons D.imm resArgs shr32 shl32 Nat.zero_mul Bool.and_self Bool.and_false Bool.false_and strBin_eql strBin_neq Bool.not_true Bool.not_false i64max List.length_reverse List.length_set SS_length SS_getD SS_set SS_take SS_drop SS_imm SS_one SS_app1 W_get1 W_len1 W_getD W_set W_take W_drop W_app W_length W_imm W_one W_repl N mx_nat toNat_succ toNat_add toNat_pred2 tdiv_nn tmod_nn List.take_of_length_le cast_succ and_one or_shl32 min64 shr32b shl32b IntKind.bits
attribute [local go_sem] V_getD V_set V_take V_drop V_imm V_one V_app V_app1 V_repl V_get1 V_length M List.length_append
attribute [local go_sem] nl ZD MZ
attribute [local go_sem] QD MQ
attribute [local go_sem] MD DD OD not_true_eq_false not_false_eq_true beq_self_eq_true List.size_toArray ba_size Int.reduceAdd
theorem kb_nlO (k X : Nat) : kb k (nl X) := by simp [nl, kb, kbs_W]
theorem kb_MO (k X : Nat) : kb k (M X) := by simp [M, kb, kbs_V]
attribute [local simp] kb_nlO kb_MO
variable {G : World → Prop}
set_option maxHeartbeats 16000000 in
theorem pcr_says_law (hG : Stable G) (hT : ∀ w, G w → Lib.TabIs Tryz.prog w "internal/strconv.uint64pow10" .u64 Lib.pow10Tab) (hM : ∀ w, G w → LibT.gMax w)
    (b0 : Bool) (a : List Int) (n : Nat) (hn : n = a.length) (ha : ok 4294967296 a) (hla : a.length ≤ 9223372036854775807) (k : Int) (hk : -9223372036854775808 ≤ k ∧ k ≤ 9223372036854775807)
    (c : Int) (hc : 0 ≤ c ∧ c ≤ 255) :
    PCr Tryz.prog G 8 [.agg [.bool b0, .sl n (W a), .int .i64 k], .int .u8 c] (.bool true) := by
  have haw := pcr_awake hG hT hM
  by_cases hl : 20 < n
  · refine pcr_by hG (fn := Tryz.f8) (n := 87) (rv := [.tmp 4]) (by kernel_rfl) ok8 (by kernel_rfl) (by decide) (by kernel_rfl) (by simp) (by kernel_rfl) (fun r hr => ?_); unfold c8 st0
    (exact xwalkd)
  obtain ⟨b, X, s, hdm⟩ := dm_in (L := 20) (b0 := b0) (k := k) hn ha (by omega)
  obtain ⟨hok, hX⟩ := hdm.ok
  have hs := hok.2
  have hrw := raw_of hG hdm (by omega)
  have hof := pcr_oof hG hT hdm (by omega)
  have hv := fun c => pcr_value (X := X) hG hs c
  have hr0 := fun c => pcr_valueR hG hok hX (by omega) c
  have hq := fun c => pcr_qis hG (oval_qm hs hX c) (by omega)
  have hwr := pcr_dwholeR (b := b) hG hX (by omega) hs
  have hwi := pcr_is hG (X := X / 10 ^ s) (L := 20) (Nat.lt_of_le_of_lt (Nat.div_le_self _ _) hX) (by omega)
  have hvc := hv c
  have hrc := hr0 c
  refine pcr_by hG (fn := Tryz.f8) (n := 87) (rv := [.tmp 4]) (by kernel_rfl) ok8 (by kernel_rfl) (by decide) (by kernel_rfl) (by simp) (by kernel_rfl) (fun r hr => ?_); unfold c8 st0
  (refine xwalk ?_)
  refine awp_loop (fun j σ => ∃ i : Nat, i ≤ 7 ∧ j = 7 - i ∧ σ = ⟨(putE (putE (putE (putE (putE (putE un0 (some 1) (.int .u8 c)) (some 4) (.bool false)) (some 5) (.ptr 1 0 0)) (some 6) (.ptr 2 0 0)) (some 7) (.str (⟨#[110, 105, 118, 119, 102, 116, 101]⟩ : ByteArray))) (some 8) (.int .i64 (i : Int))), [some (0, 30, 3, [.bool b0, .sl n (W a), .int .i64 k]), some (0, 84, 8, [.bool false, nl (dq false X s).num.natAbs, nl (dq false X s).den, nl (X / 10 ^ s), .int .i64 (s : Int), .int .i64 ((sh X s).2 : Int), nl (X % 10 ^ s), nl ((sh X s).1 % 10 ^ (sh X s).2)]), some (0, 50, 3, [.bool b, M X, .int .i64 (s : Int)])]⟩) 7
    (Ent.env (less_put (less_put (less_put (less_put (less_put (less_put (less_un0 _) ?_) ?_) ?_) ?_) ?_) ?_)) ⟨0, by omega, rfl, rfl⟩ ?_
  iterate 5 (· exact xlq)
  · show _ = D.int .i64 0
    exact xlq
  rintro j σ1 ⟨i, hi, rfl, rfl⟩
  have hi7 : i = 0 ∨ i = 1 ∨ i = 2 ∨ i = 3 ∨ i = 4 ∨ i = 5 ∨ i = 6 ∨ i = 7 := by omega
  rcases hi7 with rfl | rfl | rfl | rfl | rfl | rfl | rfl | rfl
  · have h1 := hv 110
    have h2 := hr0 110
    have h3 := hq 110
    rw [show ois 110 = true by decide] at h1 h2
    have e1 : bt (⟨#[110, 105, 118, 119, 102, 116, 101]⟩ : ByteArray) 0 = 110 := rfl
    (have we1 := e1; refine xwalk1 ?_)
    refine ⟨7 - 1, _, by omega, (Ent.cutk 3 (less_put (less_put (less_put (less_put (less_put (less_put (less_un0 _) ?_) ?_) ?_) ?_) ?_) ?_) (by exact ⟨.inr rfl, .inr rfl, .inr rfl, trivial⟩) (kb_put (kb_put (kb_put (kb_put (kb_put (kb_put (kb_un0 _) (by simp [kb])) (by simp [kb])) (by simp [kb])) (by simp [kb])) (by simp [kb])) (by simp [kb])) (by simp [kbH, kb.kbs, kb, kbs_W, kbs_SS])), 1, by omega, rfl, rfl⟩
    iterate 5 (· exact xlq)
    · show _ = D.int .i64 1
      exact xlq
  · have h1 := hv 105
    have h2 := hr0 105
    have h3 := hq 105
    rw [show ois 105 = true by decide] at h1 h2
    have e1 : bt (⟨#[110, 105, 118, 119, 102, 116, 101]⟩ : ByteArray) 1 = 105 := rfl
    (have we1 := e1; refine xwalk1 ?_)
    refine ⟨7 - 2, _, by omega, (Ent.cutk 3 (less_put (less_put (less_put (less_put (less_put (less_put (less_un0 _) ?_) ?_) ?_) ?_) ?_) ?_) (by exact ⟨.inr rfl, .inr rfl, .inr rfl, trivial⟩) (kb_put (kb_put (kb_put (kb_put (kb_put (kb_put (kb_un0 _) (by simp [kb])) (by simp [kb])) (by simp [kb])) (by simp [kb])) (by simp [kb])) (by simp [kb])) (by simp [kbH, kb.kbs, kb, kbs_W, kbs_SS])), 2, by omega, rfl, rfl⟩
    iterate 5 (· exact xlq)
    · show _ = D.int .i64 2
      exact xlq
  · have h1 := hv 118
    have h2 := hr0 118
    have h3 := hq 118
    rw [show ois 118 = true by decide] at h1 h2
    have e1 : bt (⟨#[110, 105, 118, 119, 102, 116, 101]⟩ : ByteArray) 2 = 118 := rfl
    (have we1 := e1; refine xwalk1 ?_)
    refine ⟨7 - 3, _, by omega, (Ent.cutk 3 (less_put (less_put (less_put (less_put (less_put (less_put (less_un0 _) ?_) ?_) ?_) ?_) ?_) ?_) (by exact ⟨.inr rfl, .inr rfl, .inr rfl, trivial⟩) (kb_put (kb_put (kb_put (kb_put (kb_put (kb_put (kb_un0 _) (by simp [kb])) (by simp [kb])) (by simp [kb])) (by simp [kb])) (by simp [kb])) (by simp [kb])) (by simp [kbH, kb.kbs, kb, kbs_W, kbs_SS])), 3, by omega, rfl, rfl⟩
    iterate 5 (· exact xlq)
    · show _ = D.int .i64 3
      exact xlq
  · have h1 := hv 119
    have h2 := hr0 119
    have h3 := hq 119
    rw [show ois 119 = true by decide] at h1 h2
    have e1 : bt (⟨#[110, 105, 118, 119, 102, 116, 101]⟩ : ByteArray) 3 = 119 := rfl
    (have we1 := e1; refine xwalk1 ?_)
    refine ⟨7 - 4, _, by omega, (Ent.cutk 3 (less_put (less_put (less_put (less_put (less_put (less_put (less_un0 _) ?_) ?_) ?_) ?_) ?_) ?_) (by exact ⟨.inr rfl, .inr rfl, .inr rfl, trivial⟩) (kb_put (kb_put (kb_put (kb_put (kb_put (kb_put (kb_un0 _) (by simp [kb])) (by simp [kb])) (by simp [kb])) (by simp [kb])) (by simp [kb])) (by simp [kb])) (by simp [kbH, kb.kbs, kb, kbs_W, kbs_SS])), 4, by omega, rfl, rfl⟩
    iterate 5 (· exact xlq)
    · show _ = D.int .i64 4
      exact xlq
  · have h1 := hv 102
    have h2 := hr0 102
    have h3 := hq 102
    rw [show ois 102 = true by decide] at h1 h2
    have e1 : bt (⟨#[110, 105, 118, 119, 102, 116, 101]⟩ : ByteArray) 4 = 102 := rfl
    (have we1 := e1; refine xwalk1 ?_)
    refine ⟨7 - 5, _, by omega, (Ent.cutk 3 (less_put (less_put (less_put (less_put (less_put (less_put (less_un0 _) ?_) ?_) ?_) ?_) ?_) ?_) (by exact ⟨.inr rfl, .inr rfl, .inr rfl, trivial⟩) (kb_put (kb_put (kb_put (kb_put (kb_put (kb_put (kb_un0 _) (by simp [kb])) (by simp [kb])) (by simp [kb])) (by simp [kb])) (by simp [kb])) (by simp [kb])) (by simp [kbH, kb.kbs, kb, kbs_W, kbs_SS])), 5, by omega, rfl, rfl⟩
    iterate 5 (· exact xlq)
    · show _ = D.int .i64 5
      exact xlq
  · have h1 := hv 116
    have h2 := hr0 116
    have h3 := hq 116
    rw [show ois 116 = true by decide] at h1 h2
    have e1 : bt (⟨#[110, 105, 118, 119, 102, 116, 101]⟩ : ByteArray) 5 = 116 := rfl
    (have we1 := e1; refine xwalk1 ?_)
    refine ⟨7 - 6, _, by omega, (Ent.cutk 3 (less_put (less_put (less_put (less_put (less_put (less_put (less_un0 _) ?_) ?_) ?_) ?_) ?_) ?_) (by exact ⟨.inr rfl, .inr rfl, .inr rfl, trivial⟩) (kb_put (kb_put (kb_put (kb_put (kb_put (kb_put (kb_un0 _) (by simp [kb])) (by simp [kb])) (by simp [kb])) (by simp [kb])) (by simp [kb])) (by simp [kb])) (by simp [kbH, kb.kbs, kb, kbs_W, kbs_SS])), 6, by omega, rfl, rfl⟩
    iterate 5 (· exact xlq)
    · show _ = D.int .i64 6
      exact xlq
  · have h1 := hv 101
    have h2 := hr0 101
    have h3 := hq 101
    rw [show ois 101 = true by decide] at h1 h2
    have e1 : bt (⟨#[110, 105, 118, 119, 102, 116, 101]⟩ : ByteArray) 6 = 101 := rfl
    (have we1 := e1; refine xwalk1 ?_)
    refine ⟨7 - 7, _, by omega, (Ent.cutk 3 (less_put (less_put (less_put (less_put (less_put (less_put (less_un0 _) ?_) ?_) ?_) ?_) ?_) ?_) (by exact ⟨.inr rfl, .inr rfl, .inr rfl, trivial⟩) (kb_put (kb_put (kb_put (kb_put (kb_put (kb_put (kb_un0 _) (by simp [kb])) (by simp [kb])) (by simp [kb])) (by simp [kb])) (by simp [kb])) (by simp [kb])) (by simp [kbH, kb.kbs, kb, kbs_W, kbs_SS])), 7, by omega, rfl, rfl⟩
    iterate 5 (· exact xlq)
    · show _ = D.int .i64 7
      exact xlq
  generalize ois c = oc at *
  (exact xwalkd)
end Go.Proofs.YtapikjmijmebpaaGreatDoorK.LawT18
