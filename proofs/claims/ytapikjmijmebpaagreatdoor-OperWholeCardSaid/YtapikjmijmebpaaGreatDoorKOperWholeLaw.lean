/-
  cubitlaw18.OperWhole answers true.
-/
import Derived.Test.YtapikjmijmebpaaGreatDoorKIrLOperWhole
import Derived.Test.YtapikjmijmebpaaGreatDoorKAwakeE18
import Derived.Test.YtapikjmijmebpaaGreatDoorKIsD18
import Derived.Test.YtapikjmijmebpaaGreatDoorKRefOper
set_option linter.all false
set_option linter.unusedVariables false
set_option linter.unusedSimpArgs false
set_option maxHeartbeats 4000000
namespace Go.Proofs.YtapikjmijmebpaaGreatDoorK.LawT18
open Go.Proofs.YtapikjmijmebpaaGreatDoorK.AI Go.Proofs.YtapikjmijmebpaaGreatDoorK.NatIr Go.Proofs.YtapikjmijmebpaaGreatDoorK.Dig Go.Proofs.YtapikjmijmebpaaGreatDoorK.NatT Go.Proofs.YtapikjmijmebpaaGreatDoorK.NumT Go.Proofs.YtapikjmijmebpaaGreatDoorK.RatT Go.Proofs.YtapikjmijmebpaaGreatDoorK.RefT Go.Proofs.YtapikjmijmebpaaGreatDoorK.DecT Go.Proofs.YtapikjmijmebpaaGreatDoorK.OperT
set_option linter.unusedSimpArgs false
attribute [local irreducible] awp awpOps
attribute [local go_sem] getO putE_same putE_ne putE_none un0_at ini_zero ini_one ini_two ini_three ne_eq not_false_eq_true Nat.zero_ne_one Nat.one_ne_zero zero_ne_succ succ_ne_zero sym_nil sym_cons symG_call symG_op symG_skip IOp.isCall gd st_mv st_pick st_new st_box st_build st_lit st_load st_store st_faddr st_fld st_iaddrS st_iaddrA st_idxs st_bin st_beq st_neg st_not st_conv st_slcS st_slcL st_make st_app st_lenS st_lenL st_mx st_mn st_ext st_nilck st_bstr byD pureC loadC setH hv boundO D.cells D.one D.boxable fillD putD rowD binC intBinC decT decF dec_true dec_false bne_self_eq_false beq_self_eq_true beq_true_false beq_false_true bne_iff_ne List.length_nil List.length_cons List.getD_cons_zero List.getD_cons_succ List.set_cons_zero List.set_cons_succ List.all_cons List.all_nil Bool.and_true Bool.true_and Nat.lt_irrefl Nat.sub_self Nat.zero_add Nat.add_zero Nat.mul_one Nat.lt_add_one if_true if_false List.replicate_zero List.nil_append List.cons_append List.append_nil List.map_cons List.map_nil Bool.false_eq_true or_self or_true true_or or_false false_or true_and and_true and_self Int.ofNat_zero wrap_i64 wrap_u32 wrap_u64 wrap_u8 wrap_u32_mod wrap_u64_mod Nat.zero_lt_one Int.toNat_natCast Int.sub_zero toNat_pred List.take_succ_cons List.take_zero List.drop_succ_cons List.drop_zero List.take_nil List.drop_nil Nat.le_refl List.length_singleton rvDs rvD ldD one? Option.bind_some Option.map_some resD_int resD_bool resD_str resD_sl resD_rp resD_nils resD_null resD_agg resD_tup resD_own rdOwn resD_ptr rdPtr rd_ite resL_eq go_nil go_cons D.imm resArgs shr32 shl32 Nat.zero_mul Bool.and_self Bool.and_false Bool.false_and strBin_eql strBin_neq Bool.not_true Bool.not_false i64max List.length_reverse List.length_set SS_length SS_getD SS_set SS_take SS_drop SS_imm SS_one SS_app1 W_get1 W_len1 W_getD W_set W_take W_drop W_app W_length W_imm W_one W_repl N mx_nat toNat_succ toNat_add toNat_pred2 tdiv_nn tmod_nn List.take_of_length_le cast_succ and_one or_shl32 min64 shr32b shl32b IntKind.bits
attribute [local go_sem] V_getD V_set V_take V_drop V_imm V_one V_app V_app1 V_repl V_get1 V_length M List.length_append
attribute [local go_sem] nl ZD MZ
attribute [local go_sem] QD MQ
attribute [local go_sem] MD DD OD not_true_eq_false not_false_eq_true beq_self_eq_true List.size_toArray ba_size Int.reduceAdd
theorem kb_nlO (k X : Nat) : kb k (nl X) := by simp [nl, kb, kbs_W]
theorem kb_MO (k X : Nat) : kb k (M X) := by simp [M, kb, kbs_V]
attribute [local simp] kb_nlO kb_MO
variable {G : World → Prop}
theorem dq_nat (X : Nat) : dq false X 0 = (((X : Nat) : Int) : Rat) := by
  rw [dq, show (10 : Nat) ^ 0 = 1 from rfl, mk_one]; rfl
set_option maxHeartbeats 16000000 in
theorem pcr_whole_law (hG : Stable G) (hT : ∀ w, G w → Lib.TabIs Tryz.prog w "internal/strconv.uint64pow10" .u64 Lib.pow10Tab) (hM : ∀ w, G w → LibT.gMax w)
    (c : Int) (hc : 0 ≤ c ∧ c ≤ 18446744073709551615) (g : Bool) :
    PCr Tryz.prog G 11 [.int .u64 c, .bool g] (.bool true) := by
  have haw := pcr_awake hG hT hM
  obtain ⟨X, rfl⟩ : ∃ X : Nat, c = X := ⟨c.toNat, by omega⟩
  have hX : X < 4294967296 ^ 2 := by omega
  have hno := NatT.pcr_of hG X (by omega)
  have hoT := fun (b : Bool) (hb : b = true → X ≠ 0) => pcr_oof hG hT (Dm.self (b := b) (X := X) (s := 0) ⟨hb, by omega⟩ hX) (by omega)
  have hv := fun c => pcr_value (X := X) (s := 0) hG (by omega) c
  have hv1 := hv 110
  have hv2 := hv 105
  rw [show oval X 0 110 = (((X : Nat) : Int) : Rat) from dq_nat X, show ois 110 = true by decide] at hv1
  rw [show oval X 0 105 = (((X : Nat) : Int) : Rat) by rw [oval, if_neg (by decide), if_pos rfl, Nat.pow_zero, Nat.div_one], show ois 105 = true by decide] at hv2
  have hqm := qm_natq (M := 2) (by omega) hX
  have hcm := RatT.pcr_cmp hG hqm hqm (by omega) (by omega)
  rw [RatT.cmp_eq rfl] at hcm
  have hcn := pcr_cmpE hG (nm_N (X := X / 10 ^ 0) (L := 2) (by rw [Nat.pow_zero, Nat.div_one]; exact hX)) (nm_N hX) (by omega) (by omega) (by rw [Nat.pow_zero, Nat.div_one])
  have hz0 : oval X 0 118 = ((0 : Int) : Rat) := by rw [oval, if_neg (by decide), if_neg (by decide), if_pos rfl]; rfl
  have hz1 : oval X 0 119 = ((0 : Int) : Rat) := by rw [oval, if_neg (by decide), if_neg (by decide), if_neg (by decide), if_pos rfl]; rfl
  have hz2 : oval X 0 102 = ((0 : Int) : Rat) := by rw [oval, if_neg (by decide), if_neg (by decide), if_neg (by decide), if_neg (by decide), if_pos rfl, Nat.pow_zero, Nat.mod_one]; rfl
  have hz3 : oval X 0 116 = ((0 : Int) : Rat) := by rw [oval, if_neg (by decide), if_neg (by decide), if_neg (by decide), if_neg (by decide), if_neg (by decide), if_pos rfl, show (sh X 0).2 = 0 from rfl, Nat.pow_zero, Nat.mod_one]; rfl
  have hz4 : oval X 0 101 = ((0 : Int) : Rat) := by rw [oval, if_neg (by decide), if_neg (by decide), if_neg (by decide), if_neg (by decide), if_neg (by decide), if_neg (by decide)]
  have hsg := RatT.pcr_sign hG (qm_int 0 (by decide)) (by omega)
  rw [show ((0 : Int) : Rat).num.sign = 0 from rfl] at hsg
  obtain ⟨b, hb, hgb⟩ : ∃ b : Bool, (b = true → X ≠ 0) ∧ ((g = false ∧ b = false) ∨ (g = true ∧ 0 < X ∧ b = true) ∨ (g = true ∧ X = 0 ∧ b = false)) := by
    cases g
    · exact ⟨false, fun h => Bool.noConfusion h, .inl ⟨rfl, rfl⟩⟩
    · by_cases h : X = 0
      · exact ⟨false, fun h => Bool.noConfusion h, .inr (.inr ⟨rfl, h, rfl⟩)⟩
      · exact ⟨true, fun _ => h, .inr (.inl ⟨rfl, by omega, rfl⟩)⟩
  have hof := hoT b hb
  refine pcr_by hG (fn := Tryz.f11) (n := 70) (rv := [.tmp 4]) (by kernel_rfl) ok11 (by kernel_rfl) (by decide) (by kernel_rfl) (by simp) (by kernel_rfl) (fun r hr => ?_); unfold c11 st0
  refine xctl ?_
  refine xrg ?_
  refine xctl ?_
  refine xrg ?_; (refine xcf1 ?_; refine xcf (haw) rfl ?_)
  refine xrg ?_
  refine xctl ?_
  refine xcF ?_
  refine xctl1 ?_
  refine awp_seq_mid (fun σ => σ = ⟨(putE (putE (putE un0 (some 0) (.int .u64 (X : Int))) (some 4) (.bool false)) (some 5) (.ptr 0 0 0)), [some (0, 30, 3, [.bool b, nl X, .int .i64 0])]⟩) ?_ ?_
  rotate_left
  · rcases hgb with ⟨rfl, rfl⟩ | ⟨rfl, h, rfl⟩ | ⟨rfl, h, rfl⟩
    · (refine xwalk ?_)
      refine ⟨_, Nat.zero_le _, Ent.env (less_put (less_put (less_put (less_un0 _) ?_) ?_) ?_), rfl⟩
      iterate 3 (· exact xlq)
    · (refine xwalk ?_)
      refine ⟨_, Nat.zero_le _, Ent.env (less_put (less_put (less_put (less_un0 _) ?_) ?_) ?_), rfl⟩
      iterate 3 (· exact xlq)
    · (refine xwalk ?_)
      refine ⟨_, Nat.zero_le _, Ent.env (less_put (less_put (less_put (less_un0 _) ?_) ?_) ?_), rfl⟩
      iterate 3 (· exact xlq)
  rintro σ rfl
  (refine xwalk ?_)
  refine awp_loop (fun j σ => ∃ i : Nat, i ≤ 5 ∧ j = 5 - i ∧ σ = ⟨(putE (putE (putE (putE un0 (some 4) (.bool false)) (some 6) (.ptr 1 0 0)) (some 11) (.str (⟨#[118, 119, 102, 116, 101]⟩ : ByteArray))) (some 12) (.int .i64 (i : Int))), [some (0, 30, 3, [.bool b, nl X, .int .i64 0]), some (0, 84, 8, [.bool false, nl (dq false X 0).num.natAbs, nl (dq false X 0).den, nl (X / 10 ^ 0), .int .i64 ((0 : Nat) : Int), .int .i64 ((sh X 0).2 : Int), nl (X % 10 ^ 0), nl ((sh X 0).1 % 10 ^ (sh X 0).2)])]⟩) 5
    ((Ent.cutk 2 (less_put (less_put (less_put (less_put (less_un0 _) ?_) ?_) ?_) ?_) (by exact ⟨.inr rfl, .inr rfl, trivial⟩) (kb_put (kb_put (kb_put (kb_put (kb_un0 _) (by simp [kb])) (by simp [kb])) (by simp [kb])) (by simp [kb])) (by simp [kbH, kb.kbs, kb, kbs_W, kbs_SS]))) ⟨0, by omega, rfl, rfl⟩ ?_
  iterate 3 (· exact xlq)
  · show _ = D.int .i64 0
    exact xlq
  rintro j σ1 ⟨i, hi, rfl, rfl⟩
  have hi5 : i = 0 ∨ i = 1 ∨ i = 2 ∨ i = 3 ∨ i = 4 ∨ i = 5 := by omega
  rcases hi5 with rfl | rfl | rfl | rfl | rfl | rfl
  · have h1 := hv 118
    rw [show ois 118 = true by decide, hz0] at h1
    have e1 : bt (⟨#[118, 119, 102, 116, 101]⟩ : ByteArray) 0 = 118 := rfl
    (have we1 := e1; refine xwalk1 ?_)
    refine ⟨5 - 1, _, by omega, (Ent.cutk 2 (less_put (less_put (less_put (less_put (less_un0 _) ?_) ?_) ?_) ?_) (by exact ⟨.inr rfl, .inr rfl, trivial⟩) (kb_put (kb_put (kb_put (kb_put (kb_un0 _) (by simp [kb])) (by simp [kb])) (by simp [kb])) (by simp [kb])) (by simp [kbH, kb.kbs, kb, kbs_W, kbs_SS])), 1, by omega, rfl, rfl⟩
    iterate 3 (· exact xlq)
    · show _ = D.int .i64 1
      exact xlq
  · have h1 := hv 119
    rw [show ois 119 = true by decide, hz1] at h1
    have e1 : bt (⟨#[118, 119, 102, 116, 101]⟩ : ByteArray) 1 = 119 := rfl
    (have we1 := e1; refine xwalk1 ?_)
    refine ⟨5 - 2, _, by omega, (Ent.cutk 2 (less_put (less_put (less_put (less_put (less_un0 _) ?_) ?_) ?_) ?_) (by exact ⟨.inr rfl, .inr rfl, trivial⟩) (kb_put (kb_put (kb_put (kb_put (kb_un0 _) (by simp [kb])) (by simp [kb])) (by simp [kb])) (by simp [kb])) (by simp [kbH, kb.kbs, kb, kbs_W, kbs_SS])), 2, by omega, rfl, rfl⟩
    iterate 3 (· exact xlq)
    · show _ = D.int .i64 2
      exact xlq
  · have h1 := hv 102
    rw [show ois 102 = true by decide, hz2] at h1
    have e1 : bt (⟨#[118, 119, 102, 116, 101]⟩ : ByteArray) 2 = 102 := rfl
    (have we1 := e1; refine xwalk1 ?_)
    refine ⟨5 - 3, _, by omega, (Ent.cutk 2 (less_put (less_put (less_put (less_put (less_un0 _) ?_) ?_) ?_) ?_) (by exact ⟨.inr rfl, .inr rfl, trivial⟩) (kb_put (kb_put (kb_put (kb_put (kb_un0 _) (by simp [kb])) (by simp [kb])) (by simp [kb])) (by simp [kb])) (by simp [kbH, kb.kbs, kb, kbs_W, kbs_SS])), 3, by omega, rfl, rfl⟩
    iterate 3 (· exact xlq)
    · show _ = D.int .i64 3
      exact xlq
  · have h1 := hv 116
    rw [show ois 116 = true by decide, hz3] at h1
    have e1 : bt (⟨#[118, 119, 102, 116, 101]⟩ : ByteArray) 3 = 116 := rfl
    (have we1 := e1; refine xwalk1 ?_)
    refine ⟨5 - 4, _, by omega, (Ent.cutk 2 (less_put (less_put (less_put (less_put (less_un0 _) ?_) ?_) ?_) ?_) (by exact ⟨.inr rfl, .inr rfl, trivial⟩) (kb_put (kb_put (kb_put (kb_put (kb_un0 _) (by simp [kb])) (by simp [kb])) (by simp [kb])) (by simp [kb])) (by simp [kbH, kb.kbs, kb, kbs_W, kbs_SS])), 4, by omega, rfl, rfl⟩
    iterate 3 (· exact xlq)
    · show _ = D.int .i64 4
      exact xlq
  · have h1 := hv 101
    rw [show ois 101 = true by decide, hz4] at h1
    have e1 : bt (⟨#[118, 119, 102, 116, 101]⟩ : ByteArray) 4 = 101 := rfl
    (have we1 := e1; refine xwalk1 ?_)
    refine ⟨5 - 5, _, by omega, (Ent.cutk 2 (less_put (less_put (less_put (less_put (less_un0 _) ?_) ?_) ?_) ?_) (by exact ⟨.inr rfl, .inr rfl, trivial⟩) (kb_put (kb_put (kb_put (kb_put (kb_un0 _) (by simp [kb])) (by simp [kb])) (by simp [kb])) (by simp [kb])) (by simp [kbH, kb.kbs, kb, kbs_W, kbs_SS])), 5, by omega, rfl, rfl⟩
    iterate 3 (· exact xlq)
    · show _ = D.int .i64 5
      exact xlq
  (exact xwalkd)
end Go.Proofs.YtapikjmijmebpaaGreatDoorK.LawT18
