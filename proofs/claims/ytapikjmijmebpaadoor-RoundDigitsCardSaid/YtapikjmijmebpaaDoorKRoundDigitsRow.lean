/-
  cubit/cubitlaw5.RoundDigits: the row and the tied card: it answers true for every input, and its arguments read as they did
-/
import Derived.Test.YtapikjmijmebpaaDoorKRoundDigitsLaw
import Derived.Test.YtapikjmijmebpaaDoorKRowS
set_option linter.all false
set_option linter.unusedVariables false
set_option linter.unusedSimpArgs false
set_option maxHeartbeats 4000000
namespace Go.Proofs.YtapikjmijmebpaaDoor.RoundDigitsRow
open Go.ChangeShapes Go.WideShapes Go.ChangeAt Go.RowKit Go.Proofs.YtapikjmijmebpaaDoorK.AI Go.Proofs.YtapikjmijmebpaaDoorK.RowT Go.Proofs.YtapikjmijmebpaaDoorK.LawT5 Go.Proofs.YtapikjmijmebpaaDoor
theorem own : ownKnob Tryd.prog.godebug = none := by kernel_rfl
theorem lay : laidOutB Tryd.prog = true := by kernel_rfl
theorem gTab : Tryd.prog.globalNamed "internal/strconv.uint64pow10" = some 0 := by kernel_rfl
theorem tabC (H : Type) : Rows.laid_internal_strconv_uint64pow10 (H := H) = Lib.tabData .u64 Lib.pow10Tab := by kernel_rfl
theorem table {W : World} (h : laidMetH Tryd.prog Rows.roundDigitsRow.laid W) : gPow Tryd.prog W :=
  gPow_of (t := 135) (e := 45) (n := 20) gTab (by kernel_rfl) (by kernel_rfl) (by kernel_rfl) (by kernel_rfl) (by kernel_rfl) (by kernel_rfl) (x := ("math/bits.deBruijn32tab", Rows.laid_math_bits_deBruijn32tab)) (y := ("math/bits.deBruijn64tab", Rows.laid_math_bits_deBruijn64tab)) (rest := [])
    (by rw [← tabC]; exact h)
set_option maxRecDepth 100000 in
theorem rep_rat_Q {H : Type} {enc : TypeId × Value → H} {W : World} {base : Nat} {v : Value} {d : DataW H} {p : List MemPlace} (hval : Value.okWide Tryd.prog W .any base 28 v) (h : DataW.Trod enc Tryd.prog W 0 (fun _ => true) true 28 v d p) :
    ∃ (b0 : Bool) (a1 : List Int) (a2 : List Int), RepI (fun _ => False) W v (.agg [.bool b0, .sl a1.length (a1.map (.int .u32 ·)), .sl a2.length (a2.map (.int .u32 ·))]) ∧ (∀ z ∈ a1, (Lit.int .u32 z).wf = true) ∧ a1.length ≤ 9223372036854775807 ∧ (∀ z ∈ a2, (Lit.int .u32 z).wf = true) ∧ a2.length ≤ 9223372036854775807 := by
  obtain ⟨cs, rfl, hl, hc⟩ := cells_ok (ts := [4, 22, 22]) (n := 3) Tryd.underlying28 (by kernel_rfl) (by kernel_rfl) rfl hval
  obtain ⟨v0, v1, v2, rfl⟩ : ∃ v0 v1 v2, cs = [v0, v1, v2] := by
    match cs, hl with
    | [v0, v1, v2], _ => exact ⟨v0, v1, v2, rfl⟩
  have hT : Tr enc Tryd.prog W 28 [v0, v1, v2] := tr_of h
  have c0 := val_of_cell (by kernel_rfl) (hc 0 4 rfl)
  rw [show List.getD [v0, v1, v2] 0 undef = v0 from rfl] at c0
  have t0_0 : Tr enc Tryd.prog W 26 [v0, v1] := tr_fld2 (n := 2) 0 Tryd.underlying28 rfl rfl (by kernel_rfl) rfl hT
  have t0_1 : Tr enc Tryd.prog W 4 [v0] := tr_fld2 (n := 1) 0 Tryd.underlying26 rfl rfl (by kernel_rfl) rfl t0_0
  obtain ⟨b0, hb0⟩ := okWide_bool Tryd.underlying4 c0
  have c1 := val_of_cell (by kernel_rfl) (hc 1 22 rfl)
  rw [show List.getD [v0, v1, v2] 1 undef = v1 from rfl] at c1
  have t1_0 : Tr enc Tryd.prog W 26 [v0, v1] := tr_fld2 (n := 2) 0 Tryd.underlying28 rfl rfl (by kernel_rfl) rfl hT
  have t1_1 : Tr enc Tryd.prog W 24 [v1] := tr_fld2 (n := 1) 1 Tryd.underlying26 rfl rfl (by kernel_rfl) rfl t1_0
  have t1_2 : Tr enc Tryd.prog W 22 [v1] := tr_fld2 (n := 1) 0 Tryd.underlying24 rfl rfl (by kernel_rfl) rfl t1_1
  obtain ⟨d1, p1, h1⟩ := tr_to (cells_one (hc 1 22 rfl)) t1_2
  obtain ⟨a1, r1, w1, l1⟩ := rep_slice (k := .u32) (t := 22) (e := 78) Tryd.underlying22 Tryd.underlying78 (by kernel_rfl) c1 h1
  have c2 := val_of_cell (by kernel_rfl) (hc 2 22 rfl)
  rw [show List.getD [v0, v1, v2] 2 undef = v2 from rfl] at c2
  have t2_0 : Tr enc Tryd.prog W 24 [v2] := tr_fld2 (n := 1) 1 Tryd.underlying28 rfl rfl (by kernel_rfl) rfl hT
  have t2_1 : Tr enc Tryd.prog W 22 [v2] := tr_fld2 (n := 1) 0 Tryd.underlying24 rfl rfl (by kernel_rfl) rfl t2_0
  obtain ⟨d2, p2, h2⟩ := tr_to (cells_one (hc 2 22 rfl)) t2_1
  obtain ⟨a2, r2, w2, l2⟩ := rep_slice (k := .u32) (t := 22) (e := 78) Tryd.underlying22 Tryd.underlying78 (by kernel_rfl) c2 h2
  subst hb0
  refine ⟨b0, a1, a2, agg_rep rfl (fun i e hi => ?_), w1, l1, w2, l2⟩
  match i, hi with
  | 0, hi => cases hi; exact .bool _
  | 1, hi => cases hi; exact r1
  | 2, hi => cases hi; exact r2
theorem reads0 : (Tryd.f3.params.toList.all fun t => Tryd.prog.readableRec t && decide (t < Tryd.prog.types.size)) = true := by kernel_rfl
set_option maxRecDepth 100000 in
theorem contract (H : Type) (enc : TypeId × Value → H) (W : World) (base : Nat) (args : Array Value) (ds gs : List (DataW H)) (before : List MemPlace)
    (hval : ∀ (j : Nat) t v, Tryd.f3.params[j]? = some t → args[j]? = some v → Value.okWide Tryd.prog W .any base t v)
    (hW : DataW.Whole enc Tryd.prog Tryd.f3.params.toList Rows.roundDigitsSpec.vars false W args.toList ds gs before) (hL : laidMetH Tryd.prog Rows.roundDigitsRow.laid W) (hS : W.ShapedOpen Tryd.prog) :
    Calls Tryd.prog 3 args W fun e W' => ∃ v, e = .returned v ∧ Rows.roundDigitsSpec.post enc Tryd.prog Tryd.f3 false true false false W args v W' := by
  have hW' := hW
  obtain ⟨p, q, hA, hV, rfl, _, _⟩ := hW
  rw [Tryd.params3] at hA hval
  obtain ⟨v0, vs0, d0, ds0, p0, q0, hargs, rfl, rfl, h0, r0⟩ := trodAll_cons hA
  obtain ⟨v1, vs1, d1, ds1, p1, q1, rfl, rfl, rfl, h1, r1⟩ := trodAll_cons r0
  obtain ⟨v2, vs2, d2, ds2, p2, q2, rfl, rfl, rfl, h2, r2⟩ := trodAll_cons r1
  obtain ⟨rfl, rfl, rfl⟩ := trodAll_nil r2
  obtain rfl : args = #[v0, v1, v2] := by cases args; simp_all
  obtain ⟨rfl, rfl⟩ := trodVars_none hV
  obtain ⟨x0a, x0b, x0c, ra0, w0b, l0b, w0c, l0c⟩ := rep_rat_Q (hval 0 28 v0 rfl rfl) h0
  obtain ⟨x1, ra1, w1⟩ := rep_int (k := .i64) (t := 3) Tryd.underlying3 (hval 1 3 v1 rfl rfl) h1
  obtain ⟨x2, ra2, w2⟩ := rep_int (k := .i64) (t := 3) Tryd.underlying3 (hval 2 3 v2 rfl rfl) h2
  have hl := pcr_digits_law (G := gAll) (gAll_stable gTab) (fun _ h => h.1) (fun _ h => h.2) x0a x0b _ rfl (wf_ok w0b ⟨rfl, rfl⟩) l0b x0c _ rfl (wf_ok w0c ⟨rfl, rfl⟩) l0c x1 (bnd w1 ⟨rfl, rfl⟩) x2 (bnd w2 ⟨rfl, rfl⟩)
  refine (calls_true hl ⟨table hL, gMax_of hS⟩ rfl (cons_arg ra0 (cons_arg ra1 (cons_arg ra2 no_arg)))).mono fun e W' ⟨he, hB⟩ => ?_
  exact ⟨_, he, post_true (tb := 4) lay reads0 (by kernel_rfl) Tryd.underlying4 rfl ⟨rfl, rfl, rfl⟩ hW' hB⟩
/-- THE WITNESS: the listed variables laid, the arguments nought. -/
noncomputable def wit (os : Os) : World := World.laidAll Tryd.prog os Rows.roundDigitsRow.laid
def zs : Array Value := #[.agg #[.bool false, .slice none 0 0, .slice none 0 0], .int .i64 0, .int .i64 0]
theorem reads (os : Os) {H : Type} (enc : TypeId × Value → H) : ∃ places, DataW.whole enc Tryd.prog ((wit os).forCall (fun _ _ => 0) ⟨#[], zs, []⟩).memory Tryd.f3.params.toList Rows.roundDigitsSpec.vars false zs.toList 8 = some ([.agg [.agg [.lit (.bool false), .agg [.nil]], .agg [.nil]], .lit (.int .i64 0), .lit (.int .i64 0)], [], places) :=
  ⟨[], by kernel_rfl⟩
theorem laid_met (os : Os) : laidMetH Tryd.prog Rows.roundDigitsRow.laid ((wit os).forCall (fun _ _ => 0) ⟨#[], zs, []⟩).memory := by
  rw [MakeChecks.laidMetH_plain _ _ _ (by kernel_rfl)]
  exact laidMet_laidAll _ (by kernel_rfl) (by kernel_rfl)
set_option maxRecDepth 100000 in
theorem lifted (os : Os) (started : os.Started) (H : Type) (enc : TypeId × Value → H) (F : Stop.Interp) :
    ReturnsInHanded {} Tryd.checked os 3 .any ((OpenSpec.ofChange Rows.roundDigitsSpec).preRow enc Tryd.prog Tryd.f3 Rows.roundDigitsRow.domain false Rows.roundDigitsRow.laid) (((OpenSpec.ofChange Rows.roundDigitsSpec).at F).post enc Tryd.prog Tryd.f3 false true false false) := by
  obtain ⟨places, hx⟩ := reads os enc
  refine returnsInHanded_of_row (C := Tryd.checked) (s := OpenSpec.ofChange Rows.roundDigitsSpec) own started (by kernel_rfl) Tryd.func3
    ⟨wit os, fun _ _ => 0, ⟨#[], zs, []⟩, World.laidAll_os _ _ _, World.shaped_of_ZipB (by kernel_rfl) (by kernel_rfl), rfl, (Input.okWide_of_okWideB (by kernel_rfl)).2,
      OpenSpec.preRow_of_cond 8 hx (by kernel_rfl) (fun k hk => by cases hk) (by kernel_rfl) (laid_met os), by simp only [Assume.holds]; exact ⟨by simp, by simp, fun _ => Modest.zero, by simp, by simp⟩⟩ ?_
  intro W base args ds gs before hval hW _ _ _ hL hS _
  exact contract H enc W base args ds gs before hval hW hL hS
theorem said : Rows.RoundDigitsSaid :=
  OpenClaim.holds_of_cond 3 Tryd.f3 rfl rfl rfl rfl rfl rfl rfl ⟨rfl, rfl, rfl, rfl, rfl⟩ rfl rfl rfl rfl rfl (by kernel_rfl) Tryd.func3 (by kernel_rfl)
    (of_decide_eq_true (by kernel_rfl)) (by unfold Func.isWrapper; first | (rw [if_pos (by decide +kernel)]; kernel_rfl) | (rw [if_neg (by decide +kernel)]; exact ⟨rfl, rfl⟩))
    (fun os started H enc _ F => by rw [OpenClaim.pre_eq_preRow]; exact lifted os started H enc F)
theorem plain (f : FuncId) (fn : Func) (hf : Tryd.pinned.checked.prog.funcNamed "cubit/cubitlaw5.RoundDigits" = some f) (hfn : Tryd.pinned.checked.prog.funcs[f]? = some fn) :
    false = Tryd.pinned.checked.prog.looks [] ∧ ∀ (j : Nat) t, fn.params[j]? = some t → Tryd.pinned.checked.prog.wantsStandIn t = false := by
  obtain rfl : f = 3 := Option.some.inj ((show Tryd.prog.funcNamed "cubit/cubitlaw5.RoundDigits" = some 3 by kernel_rfl).symm.trans hf) |>.symm
  obtain rfl : fn = Tryd.f3 := (Option.some.inj (Tryd.func3.symm.trans hfn)).symm
  refine ⟨by kernel_rfl, fun j t ht => ?_⟩
  rw [Tryd.params3] at ht
  have hm : t ∈ ([28, 3, 3] : List TypeId) := by simpa using Array.mem_of_getElem? ht
  have hall : (([28, 3, 3] : List TypeId).all fun u => !Tryd.prog.wantsStandIn u) = true := by kernel_rfl
  exact (show Tryd.prog.wantsStandIn t = false by simpa using List.all_eq_true.1 hall t hm)
theorem card : Rows.RoundDigitsCardSaid :=
  Claim7.holds_tied_plain_at .later [] _ _ _ _ said (fun _ h => by cases h) (by kernel_rfl) (fun _ h => by cases h) roundDigits_row_tie rfl ⟨rfl, rfl⟩ (by kernel_rfl) rfl plain (by kernel_rfl)
end Go.Proofs.YtapikjmijmebpaaDoor.RoundDigitsRow
