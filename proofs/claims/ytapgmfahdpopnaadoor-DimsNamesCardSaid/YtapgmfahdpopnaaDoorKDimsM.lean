/-
  Names of rows: All; what is found behind a new name.
-/
import Derived.Test.YtapgmfahdpopnaaDoorKIrDims
import Derived.Test.YtapgmfahdpopnaaDoorKDimsN
set_option linter.all false
set_option linter.unusedVariables false
set_option linter.unusedSimpArgs false
set_option maxHeartbeats 4000000
namespace Go.Proofs.YtapgmfahdpopnaaDoorK.DimsT
open Go.Proofs.YtapgmfahdpopnaaDoorK.AI Go.Proofs.YtapgmfahdpopnaaDoorK.NatIr Go.Proofs.YtapgmfahdpopnaaDoorK.EvT
set_option linter.unusedSimpArgs false
attribute [local irreducible] awp awpOps
attribute [local go_sem] getO putE_same putE_ne putE_none un0_at ini_zero ini_one ini_two ini_three ne_eq not_false_eq_true Nat.zero_ne_one Nat.one_ne_zero zero_ne_succ succ_ne_zero sym_nil sym_cons symG_call symG_op symG_skip IOp.isCall gd st_mv st_pick st_new st_box st_build st_lit st_load st_store st_faddr st_fld st_iaddrS st_iaddrA st_idxs st_bin st_beq st_neg st_not st_conv st_slcS st_slcL st_make st_app st_lenS st_lenL st_capL st_appZ st_seq eqAt eq1 st_mx st_mn st_ext st_nilck st_bstr st_idxA st_slcA st_aeq st_isnil nilD st_mkmap st_look st_mput st_mkfn foundD byD pureC loadC setH hv boundO D.cells D.one D.boxable fillD putD rowD binC intBinC decT decF dec_true dec_false bne_self_eq_false beq_self_eq_true beq_true_false beq_false_true bne_iff_ne List.length_nil List.length_cons List.getD_cons_zero List.getD_cons_succ List.set_cons_zero List.set_cons_succ List.all_cons List.all_nil Bool.and_true Bool.true_and Nat.lt_irrefl Nat.sub_self Nat.zero_add Nat.add_zero Nat.mul_one Nat.lt_add_one if_true if_false List.replicate_zero List.nil_append List.cons_append List.append_nil List.map_cons List.map_nil Bool.false_eq_true or_self or_true true_or or_false false_or true_and and_true and_self Int.ofNat_zero wrap_i64 wrap_u32 wrap_u64 wrap_u8 wrap_u32_mod wrap_u64_mod Nat.zero_lt_one Int.toNat_natCast Int.sub_zero toNat_pred List.take_succ_cons List.take_zero List.drop_succ_cons List.drop_zero List.take_nil List.drop_nil Nat.le_refl List.length_singleton rvDs rvD ldD one? Option.bind_some Option.map_some resD_int resD_bool resD_str resD_sl resD_rp resD_nils resD_null resD_agg resD_tup resD_own rdOwn resD_nilm resD_mf resD_fn resD_mo rdMo resD_ptr rdPtr rd_ite resL_eq go_nil go_cons D.imm resArgs shr32 shl32 Nat.zero_mul Bool.and_self Bool.and_false Bool.false_and strBin_eql strBin_neq Bool.not_true Bool.not_false i64max List.length_reverse List.length_set SS_length SS_getD SS_set SS_take SS_drop SS_imm SS_one SS_app1 W_get1 W_len1 W_getD W_set W_take W_drop W_app W_length W_imm W_one W_repl N mx_nat toNat_succ toNat_add toNat_pred2 tdiv_nn tmod_nn List.take_of_length_le cast_succ and_one or_shl32 min64 shr32b shl32b IntKind.bits
attribute [local go_sem] not_true_eq_false not_false_eq_true eq_self decide_true
variable {G : World → Prop}
theorem strs_eq (ps : PS) : strs ps = (ps.map (·.2)).map .str := by simp [strs]
theorem strs_imm {ps : PS} : (strs ps).all D.imm = true := by simp [strs, D.imm]
theorem pcg_all0 : PCg Tryd.prog G 7 [.ptr 1 0 0] [some (0, 38, 0, [.mp []]), some (0, 40, 2, [.mo 0 0, .nils])] (.sl 0 [])
    [some (0, 38, 0, [.mp []]), some (0, 40, 2, [.mo 0 0, .nils])] := by
  have h := lib_cloneS (G := G) 0 [] rfl (by simp)
  rw [List.map_nil] at h
  refine pcg_by (fn := Tryd.f7) (n := 8) (rv := [.tmp 2]) (by kernel_rfl) ok7 (by kernel_rfl) (by decide) (by kernel_rfl) (by simp) (by kernel_rfl) (by simp) (fun r hh hr hhe => ?_); unfold c7
  (refine xwalk ?_)
  subst hr hhe
  exact resg_ret (l := []) rfl rfl (by simp [kb]) (by simp [kbH, kb.kbs, kb])
theorem pcg_all1 {ps : PS} {ver : Nat} (hl : ps.length < 1000) : PCg Tryd.prog G 7 [.ptr 1 0 0]
    [some (0, 38, 0, [.mp (kv ps)]), some (0, 40, 2, [.mo 0 0, .own 2 ver 0 ps.length]), some (ver, 9, 1, strs ps)] (.sl ps.length (strs ps))
    [some (0, 38, 0, [.mp (kv ps)]), some (0, 40, 2, [.mo 0 0, .own 2 ver 0 ps.length]), none] := by
  have h := lib_cloneS (G := G) ps.length (ps.map (·.2)) (by simp) (by simp; omega)
  rw [← strs_eq] at h
  have h5 := strs_len (ps := ps)
  have h6 : (strs ps).take ps.length = strs ps := List.take_of_length_le (by omega)
  have h7 := strs_imm (ps := ps)
  refine pcg_by (fn := Tryd.f7) (n := 8) (rv := [.tmp 2]) (by kernel_rfl) ok7 (by kernel_rfl) (by decide) (by kernel_rfl) (by simp) (by kernel_rfl) (by simp) (fun r hh hr hhe => ?_); unfold c7
  (have we1 := h5; have we2 := h7; have we3 := h6; refine xwalk3 ?_)
  subst hr hhe
  exact resg_ret (l := []) rfl rfl (by simp [kb, kbs_strs]) (by simp [kbH, kb.kbs, kb, kbs_kv])
theorem nm_app (v : List Int) : ∀ ps qs : PS, nm v (ps ++ qs) = match nm v ps with | some s => some s | none => nm v qs
  | [], qs => rfl
  | p :: l, qs => by
    rw [List.cons_append, nm, nm]
    by_cases e : v = p.1
    · rw [if_pos e, if_pos e]
    · rw [if_neg e, if_neg e, nm_app v l qs]
theorem nm_mem {v : List Int} {s : ByteArray} : ∀ {ps : PS}, nm v ps = some s → (v, s) ∈ ps
  | p :: l, h => by
    rw [nm] at h
    by_cases e : v = p.1
    · rw [if_pos e] at h; cases h; subst e; exact List.mem_cons_self
    · rw [if_neg e] at h; exact List.mem_cons_of_mem _ (nm_mem h)
theorem nm_none {v : List Int} : ∀ {ps : PS}, nm v ps = none ↔ ∀ p ∈ ps, p.1 ≠ v
  | [] => by simp [nm]
  | p :: l => by
    rw [nm]
    by_cases e : v = p.1
    · rw [if_pos e]
      exact ⟨fun h => (by cases h), fun h => absurd e.symm (h p List.mem_cons_self)⟩
    · rw [if_neg e, nm_none]
      exact ⟨fun h q hq => by
        rcases List.mem_cons.1 hq with rfl | hq
        · exact fun h => e h.symm
        · exact h q hq, fun h q hq => h q (List.mem_cons_of_mem _ hq)⟩
theorem ren_I {κ : List Nat} (l : List Int) : (I l).map (D.ren κ) = I l := map_imm I_imm
theorem ren_kv {κ : List Nat} : ∀ ps : PS, (kv ps).map (D.ren κ) = kv ps
  | [] => rfl
  | p :: l => by
    rw [kv, List.map_cons, List.map_cons, ren_kv l]
    congr 1
    simp only [D.ren, rens_map, ren_I]
theorem ren_mp {κ : List Nat} (ps : PS) : (D.mp (kv ps)).ren κ = .mp (kv ps) := by simp only [D.ren, rens_map, ren_kv]
theorem ren_strs {κ : List Nat} (ps : PS) : (strs ps).map (D.ren κ) = strs ps := map_imm strs_imm
def LL (L : List (List Int)) : List D := L.flatMap I
theorem LL_len {L : List (List Int)} (h : ∀ x ∈ L, x.length = 8) : (LL L).length = L.length * 8 := by
  induction L with
  | nil => rfl
  | cons x l ih =>
    show (I x ++ LL l).length = _
    rw [List.length_append, I_len, h x List.mem_cons_self, ih (fun y hy => h y (List.mem_cons_of_mem _ hy)), List.length_cons]
    omega
theorem LL_get {L : List (List Int)} (h : ∀ x ∈ L, x.length = 8) : ∀ {i : Nat}, i < L.length → ((LL L).drop (i * 8)).take 8 = I (L.getD i []) := by
  induction L with
  | nil => intro i hi; exact absurd hi (Nat.not_lt_zero _)
  | cons x l ih =>
    intro i hi
    have hx : (I x).length = 8 := by rw [I_len]; exact h x List.mem_cons_self
    show ((I x ++ LL l).drop (i * 8)).take 8 = _
    cases i with
    | zero => rw [Nat.zero_mul, List.drop_zero, ← hx, List.take_left]; rfl
    | succ i =>
      rw [show (i + 1) * 8 = (I x).length + i * 8 by omega, List.drop_length_add_append, ih (fun y hy => h y (List.mem_cons_of_mem _ hy)) (by simpa using hi)]
      rfl
theorem LL_8 {L : List (List Int)} (h : ∀ x ∈ L, x.length = 8) {i : Nat} (hi : i < L.length) : (L.getD i []).length = 8 := by
  rw [List.getD_eq_getElem?_getD, List.getElem?_eq_getElem hi]
  exact h _ (List.getElem_mem hi)
end Go.Proofs.YtapgmfahdpopnaaDoorK.DimsT
