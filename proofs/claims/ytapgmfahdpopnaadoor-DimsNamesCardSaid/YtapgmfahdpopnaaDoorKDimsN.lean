/-
  Names of rows: what NewNames, Put, Get, All do to their blocks.
-/
import Derived.Test.YtapgmfahdpopnaaDoorKIrDims
import Derived.Test.YtapgmfahdpopnaaDoorKDimsV
import Derived.Test.YtapgmfahdpopnaaDoorKEvM
set_option linter.all false
set_option linter.unusedVariables false
set_option linter.unusedSimpArgs false
set_option maxHeartbeats 4000000
namespace Go.Proofs.YtapgmfahdpopnaaDoorK.DimsT
open Go.Proofs.YtapgmfahdpopnaaDoorK.AI Go.Proofs.YtapgmfahdpopnaaDoorK.NatIr Go.Proofs.YtapgmfahdpopnaaDoorK.EvT
set_option linter.unusedSimpArgs false
attribute [local irreducible] awp awpOps
attribute [local go_sem] getO putE_same putE_ne putE_none un0_at ini_zero ini_one ini_two ini_three ne_eq not_false_eq_true Nat.zero_ne_one Nat.one_ne_zero zero_ne_succ succ_ne_zero sym_nil sym_cons symG_call symG_op symG_skip IOp.isCall gd st_mv st_pick st_new st_box st_build st_lit st_load st_store st_faddr st_fld st_iaddrS st_iaddrA st_idxs st_bin st_beq st_neg st_not st_conv st_slcS st_slcL st_make st_app st_lenS st_lenL st_capL st_appZ st_seq eqAt eq1 st_mx st_mn st_ext st_nilck st_bstr st_idxA st_slcA st_aeq st_isnil nilD st_mkmap st_look st_mput st_mkfn foundD byD pureC loadC setH hv boundO D.cells D.one D.boxable fillD putD rowD binC intBinC decT decF dec_true dec_false bne_self_eq_false beq_self_eq_true beq_true_false beq_false_true bne_iff_ne List.length_nil List.length_cons List.getD_cons_zero List.getD_cons_succ List.set_cons_zero List.set_cons_succ List.all_cons List.all_nil Bool.and_true Bool.true_and Nat.lt_irrefl Nat.sub_self Nat.zero_add Nat.add_zero Nat.mul_one Nat.lt_add_one if_true if_false List.replicate_zero List.nil_append List.cons_append List.append_nil List.map_cons List.map_nil Bool.false_eq_true or_self or_true true_or or_false false_or true_and and_true and_self Int.ofNat_zero wrap_i64 wrap_u32 wrap_u64 wrap_u8 wrap_u32_mod wrap_u64_mod Nat.zero_lt_one Int.toNat_natCast Int.sub_zero toNat_pred List.take_succ_cons List.take_zero List.drop_succ_cons List.drop_zero List.take_nil List.drop_nil Nat.le_refl List.length_singleton rvDs rvD ldD one? Option.bind_some Option.map_some resD_int resD_bool resD_str resD_sl resD_rp resD_nils resD_null resD_agg resD_tup resD_own rdOwn resD_nilm resD_mf resD_fn resD_mo rdMo resD_ptr rdPtr rd_ite resL_eq go_nil go_cons D.imm resArgs shr32 shl32 Nat.zero_mul Bool.and_self Bool.and_false Bool.false_and strBin_eql strBin_neq Bool.not_true Bool.not_false i64max List.length_reverse List.length_set SS_length SS_getD SS_set SS_take SS_drop SS_imm SS_one SS_app1 W_get1 W_len1 W_getD W_set W_take W_drop W_app W_length W_imm W_one W_repl N mx_nat toNat_succ toNat_add toNat_pred2 tdiv_nn tmod_nn List.take_of_length_le cast_succ and_one or_shl32 min64 shr32b shl32b IntKind.bits
attribute [local go_sem] not_true_eq_false not_false_eq_true eq_self decide_true
variable {G : World → Prop}
abbrev PS := List (List Int × ByteArray)
def kv : PS → List D
  | [] => []
  | p :: l => .agg (I p.1) :: .str p.2 :: kv l
def all8 (ps : PS) : Prop := ∀ p ∈ ps, p.1.length = 8
theorem all8_tail {p : List Int × ByteArray} {ps : PS} (h : all8 (p :: ps)) : all8 ps := fun q hq => h q (List.mem_cons_of_mem _ hq)
def nm (v : List Int) : PS → Option ByteArray
  | [] => none
  | p :: l => if v = p.1 then some p.2 else nm v l
theorem kv_app : ∀ (ps qs : PS), kv (ps ++ qs) = kv ps ++ kv qs
  | [], _ => rfl
  | p :: l, qs => by rw [List.cons_append, kv, kv, kv_app l qs]; rfl
theorem look_kv {v : List Int} (hv : v.length = 8) : ∀ ps : PS, all8 ps → lookD (.agg (I v)) (kv ps) = some ((nm v ps).map .str)
  | [], _ => rfl
  | p :: l, h => by
    have ih := look_kv hv l (all8_tail h)
    have hp := h p List.mem_cons_self
    rw [kv, nm]
    unfold lookD at ih ⊢
    rw [findD, eqK, IEq (by omega)]
    by_cases e : v = p.1
    · rw [decide_eq_true e, if_pos e]
      rfl
    · rw [decide_eq_false e, if_neg e, ← ih]
      cases findD (.agg (I v)) (kv l) with
      | none => rfl
      | some r =>
        cases r with
        | none => rfl
        | some i =>
          simp only [Option.map_some, Option.bind_some]
          rw [show 2 * (i + 1) + 1 = 2 * i + 1 + 1 + 1 by omega, List.getElem?_cons_succ, List.getElem?_cons_succ]
theorem put_kv {v : List Int} {s : ByteArray} (hv : v.length = 8) (ps : PS) (h : all8 ps) (hn : nm v ps = none) : putM (.agg (I v)) (.str s) (kv ps) = some (kv (ps ++ [(v, s)])) := by
  have hf : ∀ ps : PS, all8 ps → nm v ps = none → findD (.agg (I v)) (kv ps) = some none := by
    intro ps
    induction ps with
    | nil => intro _ _; rfl
    | cons p l ih =>
      intro h hn
      have hp := h p List.mem_cons_self
      rw [nm] at hn
      by_cases e : v = p.1
      · rw [if_pos e] at hn; cases hn
      · rw [if_neg e] at hn
        rw [kv, findD, eqK, IEq (by omega), decide_eq_false e, ih (all8_tail h) hn]
        rfl
  rw [putM, hf ps h hn, kv_app]
  rfl
def strs (ps : PS) : List D := ps.map fun p => .str p.2
def hN (ps : PS) : List Blk := match ps with
  | [] => [some (0, 38, 0, [.mp []]), some (0, 40, 2, [.mo 0 0, .nils])]
  | _ => [some (0, 38, 0, [.mp (kv ps)]), some (0, 40, 2, [.mo 0 0, .own 2 (ps.length - 1) 0 ps.length]), some (ps.length - 1, 9, 1, strs ps)]
theorem kbs_I {k : Nat} : ∀ l : List Int, kb.kbs k (I l)
  | [] => by simp [kb.kbs]
  | x :: l => by simp only [I, List.map_cons, kb.kbs]; exact ⟨by simp [kb], kbs_I l⟩
theorem kbs_strs {k : Nat} : ∀ ps : PS, kb.kbs k (strs ps)
  | [] => by simp [strs, kb.kbs]
  | p :: l => by simp only [strs, List.map_cons, kb.kbs]; exact ⟨by simp [kb], kbs_strs l⟩
theorem kbs_kv {k : Nat} : ∀ ps : PS, kb.kbs k (kv ps)
  | [] => by simp [kv, kb.kbs]
  | p :: l => by simp only [kv, kb.kbs]; exact ⟨by simp [kb, kbs_I], by simp [kb], kbs_kv l⟩
theorem pcg_new : PCg Tryd.prog G 5 [] [] (.ptr 1 0 0) (hN []) := by
  refine pcg_by (fn := Tryd.f5) (n := 4) (rv := [.tmp 0]) (by kernel_rfl) ok5 (by kernel_rfl) (by decide) (by kernel_rfl) (by simp) (by kernel_rfl) (by simp) (fun r hh hr hhe => ?_); unfold c5
  (refine xwalk ?_)
  subst hr hhe
  exact resg_ret (l := []) rfl rfl (by simp [kb, hN]) (by simp [kbH, kb.kbs, kb, hN])
theorem look0 {v : List Int} (hv : v.length = 8) : lookD (.agg (I v)) [] = some none := look_kv hv [] (fun _ h => by simp at h)
theorem put0 {v : List Int} {s : ByteArray} (hv : v.length = 8) : putM (.agg (I v)) (.str s) [] = some [.agg (I v), .str s] := put_kv hv [] (fun _ h => by simp at h) rfl
theorem IEq1 {a : List Int} : eqInts (I a) (I a) = some true := by rw [eqInts_I rfl, decide_eq_true rfl]
theorem key8 {v : List Int} (hv : v.length = 8) : (D.agg (I v)).key (some 8) = true := by simp [D.key, IEq1, hv]
theorem pcg_put0 {v : List Int} {s : ByteArray} (hv : v.length = 8) (hs : s ≠ ⟨#[]⟩) : PCg Tryd.prog G 6 [.ptr 1 0 0, .agg (I v), .str s] [some (0, 38, 0, [.mp []]), some (0, 40, 2, [.mo 0 0, .nils])] (.bool true)
    [some (0, 38, 0, [.mp [.agg (I v), .str s]]), some (0, 40, 2, [.mo 0 0, .own 4 0 0 1]), some (0, 34, 8, I v), some (0, 9, 1, [.str s]), some (0, 9, 1, [.str s])] := by
  have h1 : decide (s = ⟨#[]⟩) = false := decide_eq_false hs
  have h2 := look0 hv
  have h3 := put0 (s := s) hv
  have h4 := key8 hv
  refine pcg_by (fn := Tryd.f6) (n := 34) (rv := [.tmp 6]) (by kernel_rfl) ok6 (by kernel_rfl) (by decide) (by kernel_rfl) (by simp) (by kernel_rfl) (by simp) (fun r hh hr hhe => ?_); unfold c6
  (have we1 := @I_len; have we2 := @I_take8; have we3 := @I_imm; have we4 := h1; have we5 := h2; have we6 := h3; have we7 := h4; refine xwalk7 ?_)
  subst hr hhe
  exact resg_ret (l := []) rfl rfl (by simp [kb]) (by simp [kbH, kb.kbs, kb, kbs_I])
theorem strs_len {ps : PS} : (strs ps).length = ps.length := by simp [strs]
theorem strs_one {ps : PS} : (strs ps).all D.one = true := by simp [strs, D.one]
theorem strs_app {ps : PS} {v : List Int} {s : ByteArray} : strs ps ++ [.str s] = strs (ps ++ [(v, s)]) := by simp [strs]
theorem pcg_put1 {ps : PS} {ver : Nat} {v : List Int} {s : ByteArray} (hp : all8 ps) (hl : ps.length < 1000) (hv : v.length = 8) (hs : s ≠ ⟨#[]⟩) (hn : nm v ps = none) :
    PCg Tryd.prog G 6 [.ptr 1 0 0, .agg (I v), .str s] [some (0, 38, 0, [.mp (kv ps)]), some (0, 40, 2, [.mo 0 0, .own 2 ver 0 ps.length]), some (ver, 9, 1, strs ps)] (.bool true)
    [some (0, 38, 0, [.mp (kv (ps ++ [(v, s)]))]), some (0, 40, 2, [.mo 0 0, .own 2 (ver + 1) 0 (ps.length + 1)]), some (ver + 1, 9, 1, strs (ps ++ [(v, s)]))] := by
  have h1 : decide (s = ⟨#[]⟩) = false := decide_eq_false hs
  have h2 := look_kv hv ps hp
  rw [hn, Option.map_none] at h2
  have h3 := put_kv (s := s) hv ps hp hn
  have h4 := key8 hv
  have h5 := strs_len (ps := ps)
  have h6 := strs_app (ps := ps) (v := v) (s := s)
  refine pcg_by (fn := Tryd.f6) (n := 34) (rv := [.tmp 6]) (by kernel_rfl) ok6 (by kernel_rfl) (by decide) (by kernel_rfl) (by simp) (by kernel_rfl) (by simp) (fun r hh hr hhe => ?_); unfold c6
  (have we1 := @I_len; have we2 := @I_take8; have we3 := @I_imm; have we4 := h1; have we5 := h2; have we6 := h3; have we7 := h4; have we8 := h5; have we9 := h6; refine xwalk9 ?_)
  subst hr hhe
  exact resg_ret (l := [_, _]) rfl rfl (by simp [kb]) (by simp [kbH, kb.kbs, kb, kbs_kv, kbs_strs])
theorem pcg_put2 {ps : PS} {ver : Nat} {v : List Int} {s x : ByteArray} (hp : all8 ps) (hl : ps.length < 1000) (hv : v.length = 8) (h0 : s = ⟨#[]⟩ ∨ (nm v ps = some x ∧ x ≠ ⟨#[]⟩)) :
    PCg Tryd.prog G 6 [.ptr 1 0 0, .agg (I v), .str s] [some (0, 38, 0, [.mp (kv ps)]), some (0, 40, 2, [.mo 0 0, .own 2 ver 0 ps.length]), some (ver, 9, 1, strs ps)] (.bool false)
    [some (0, 38, 0, [.mp (kv ps)]), some (0, 40, 2, [.mo 0 0, .own 2 ver 0 ps.length]), some (ver, 9, 1, strs ps)] := by
  by_cases hs : s = ⟨#[]⟩
  · have h1 : decide (s = ⟨#[]⟩) = true := decide_eq_true hs
    refine pcg_by (fn := Tryd.f6) (n := 34) (rv := [.tmp 6]) (by kernel_rfl) ok6 (by kernel_rfl) (by decide) (by kernel_rfl) (by simp) (by kernel_rfl) (by simp) (fun r hh hr hhe => ?_); unfold c6
    (have we1 := @I_len; have we2 := @I_take8; have we3 := @I_imm; have we4 := h1; refine xwalk4 ?_)
    subst hr hhe
    exact resg_ret (l := [_]) rfl rfl (by simp [kb]) (by simp [kbH, kb.kbs, kb, kbs_kv, kbs_strs])
  · obtain ⟨hn, hx⟩ := h0.resolve_left hs
    have h1 : decide (s = ⟨#[]⟩) = false := decide_eq_false hs
    have h2 := look_kv hv ps hp
    rw [hn, Option.map_some] at h2
    have h3 : decide (x = ⟨#[]⟩) = false := decide_eq_false hx
    have h4 := key8 hv
    refine pcg_by (fn := Tryd.f6) (n := 34) (rv := [.tmp 6]) (by kernel_rfl) ok6 (by kernel_rfl) (by decide) (by kernel_rfl) (by simp) (by kernel_rfl) (by simp) (fun r hh hr hhe => ?_); unfold c6
    (have we1 := @I_len; have we2 := @I_take8; have we3 := @I_imm; have we4 := h1; have we5 := h2; have we6 := h3; have we7 := h4; refine xwalk7 ?_)
    subst hr hhe
    exact resg_ret (l := [_]) rfl rfl (by simp [kb]) (by simp [kbH, kb.kbs, kb, kbs_kv, kbs_strs])
theorem pcg_put3 {v : List Int} (hv : v.length = 8) : PCg Tryd.prog G 6 [.ptr 1 0 0, .agg (I v), .str ⟨#[]⟩] [some (0, 38, 0, [.mp []]), some (0, 40, 2, [.mo 0 0, .nils])] (.bool false)
    [some (0, 38, 0, [.mp []]), some (0, 40, 2, [.mo 0 0, .nils])] := by
  refine pcg_by (fn := Tryd.f6) (n := 34) (rv := [.tmp 6]) (by kernel_rfl) ok6 (by kernel_rfl) (by decide) (by kernel_rfl) (by simp) (by kernel_rfl) (by simp) (fun r hh hr hhe => ?_); unfold c6
  (have we1 := @I_len; have we2 := @I_take8; have we3 := @I_imm; refine xwalk3 ?_)
  subst hr hhe
  exact resg_ret (l := [_]) rfl rfl (by simp [kb]) (by simp [kbH, kb.kbs, kb])
theorem pcg_get {ps : PS} {b : Blk} {d : D} {v : List Int} {s : ByteArray} (hp : all8 ps) (hv : v.length = 8) (hn : nm v ps = some s) (hd : kb 3 d) (hb : kbH 3 [b]) :
    PCg Tryd.prog G 8 [.ptr 1 0 0, .agg (I v)] [some (0, 38, 0, [.mp (kv ps)]), some (0, 40, 2, [.mo 0 0, d]), b] (.tup [.str s, .bool true])
    [some (0, 38, 0, [.mp (kv ps)]), some (0, 40, 2, [.mo 0 0, d]), b] := by
  have h2 := look_kv hv ps hp
  rw [hn, Option.map_some] at h2
  have h4 := key8 hv
  refine pcg_by (fn := Tryd.f8) (n := 19) (rv := [.tmp 4, .tmp 5]) (by kernel_rfl) ok8 (by kernel_rfl) (by decide) (by kernel_rfl) (by simp) (by kernel_rfl) (by simp) (fun r hh hr hhe => ?_); unfold c8
  (have we1 := @I_len; have we2 := @I_take8; have we3 := @I_imm; have we4 := h2; have we5 := h4; refine xwalk5 ?_)
  subst hr hhe
  exact resg_ret (l := [_]) rfl rfl (by simp [kb, kb.kbs]) (by
    have hb' : ∀ b : Blk, kbH 3 [b] → kbH 3 (b :: []) := fun _ h => h
    refine ⟨⟨by simp [kb, kbs_kv], trivial⟩, ⟨by simp [kb], hd, trivial⟩, hb⟩)
end Go.Proofs.YtapgmfahdpopnaaDoorK.DimsT
