/-
  cubit/cubitlaw5.RoundSays: the row and the tied card: it answers true for every input, and its arguments read as they did
-/
import Derived.Test.YtapikjmijmebpaaGreatDoorKRoundSaysLaw
import Derived.Test.YtapikjmijmebpaaGreatDoorKRowS
set_option linter.all false
set_option linter.unusedVariables false
set_option linter.unusedSimpArgs false
set_option maxHeartbeats 4000000
namespace Go.Proofs.YtapikjmijmebpaaGreatDoor.RoundSaysRow
open Go.ChangeShapes Go.WideShapes Go.ChangeAt Go.RowKit Go.Proofs.YtapikjmijmebpaaGreatDoorK.AI Go.Proofs.YtapikjmijmebpaaGreatDoorK.RowT Go.Proofs.YtapikjmijmebpaaGreatDoorK.LawT5 Go.Proofs.YtapikjmijmebpaaGreatDoor
theorem own : ownKnob Tryz.prog.godebug = none := by kernel_rfl
theorem lay : laidOutB Tryz.prog = true := by kernel_rfl
theorem gTab : Tryz.prog.globalNamed "internal/strconv.uint64pow10" = some 3 := by kernel_rfl
theorem tabC (H : Type) : Rows.laid_internal_strconv_uint64pow10 (H := H) = Lib.tabData .u64 Lib.pow10Tab := by kernel_rfl
theorem table {W : World} (h : laidMetH Tryz.prog Rows.roundSaysRow.laid W) : gPow Tryz.prog W :=
  gPow_of (t := 238) (e := 70) (n := 20) gTab (by kernel_rfl) (by kernel_rfl) (by kernel_rfl) (by kernel_rfl) (by kernel_rfl) (by kernel_rfl) (x := ("math/bits.deBruijn32tab", Rows.laid_math_bits_deBruijn32tab)) (y := ("math/bits.deBruijn64tab", Rows.laid_math_bits_deBruijn64tab)) (rest := [])
    (by rw [← tabC]; exact h)
set_option maxRecDepth 100000 in
theorem rep_dec_D {H : Type} {enc : TypeId × Value → H} {W : World} {base : Nat} {v : Value} {d : DataW H} {p : List MemPlace} (hval : Value.okWide Tryz.prog W .any base 30 v) (h : DataW.Trod enc Tryz.prog W 0 (fun _ => true) true 30 v d p) :
    ∃ (b0 : Bool) (a1 : List Int) (n2 : Int), RepI (fun _ => False) W v (.agg [.bool b0, .sl a1.length (a1.map (.int .u32 ·)), .int .i64 n2]) ∧ (∀ z ∈ a1, (Lit.int .u32 z).wf = true) ∧ a1.length ≤ 9223372036854775807 ∧ (Lit.int .i64 n2).wf = true := by
  obtain ⟨cs, rfl, hl, hc⟩ := cells_ok (ts := [4, 22, 3]) (n := 3) Tryz.underlying30 (by kernel_rfl) (by kernel_rfl) rfl hval
  obtain ⟨v0, v1, v2, rfl⟩ : ∃ v0 v1 v2, cs = [v0, v1, v2] := by
    match cs, hl with
    | [v0, v1, v2], _ => exact ⟨v0, v1, v2, rfl⟩
  have hT : Tr enc Tryz.prog W 30 [v0, v1, v2] := tr_of h
  have c0 := val_of_cell (by kernel_rfl) (hc 0 4 rfl)
  rw [show List.getD [v0, v1, v2] 0 undef = v0 from rfl] at c0
  have t0_0 : Tr enc Tryz.prog W 4 [v0] := tr_fld2 (n := 1) 0 Tryz.underlying30 rfl rfl (by kernel_rfl) rfl hT
  obtain ⟨b0, hb0⟩ := okWide_bool Tryz.underlying4 c0
  have c1 := val_of_cell (by kernel_rfl) (hc 1 22 rfl)
  rw [show List.getD [v0, v1, v2] 1 undef = v1 from rfl] at c1
  have t1_0 : Tr enc Tryz.prog W 24 [v1] := tr_fld2 (n := 1) 1 Tryz.underlying30 rfl rfl (by kernel_rfl) rfl hT
  have t1_1 : Tr enc Tryz.prog W 22 [v1] := tr_fld2 (n := 1) 0 Tryz.underlying24 rfl rfl (by kernel_rfl) rfl t1_0
  obtain ⟨d1, p1, h1⟩ := tr_to (cells_one (hc 1 22 rfl)) t1_1
  obtain ⟨a1, r1, w1, l1⟩ := rep_slice (k := .u32) (t := 22) (e := 130) Tryz.underlying22 Tryz.underlying130 (by kernel_rfl) c1 h1
  have c2 := val_of_cell (by kernel_rfl) (hc 2 3 rfl)
  rw [show List.getD [v0, v1, v2] 2 undef = v2 from rfl] at c2
  have t2_0 : Tr enc Tryz.prog W 3 [v2] := tr_fld2 (n := 1) 2 Tryz.underlying30 rfl rfl (by kernel_rfl) rfl hT
  obtain ⟨d2, p2, h2⟩ := tr_to (cells_one (hc 2 3 rfl)) t2_0
  obtain ⟨n2, r2, w2⟩ := rep_int (k := .i64) (t := 3) Tryz.underlying3 c2 h2
  subst hb0
  refine ⟨b0, a1, n2, agg_rep rfl (fun i e hi => ?_), w1, l1, w2⟩
  match i, hi with
  | 0, hi => cases hi; exact .bool _
  | 1, hi => cases hi; exact r1
  | 2, hi => cases hi; exact r2
set_option maxRecDepth 100000 in
theorem rep_rat_Q {H : Type} {enc : TypeId × Value → H} {W : World} {base : Nat} {v : Value} {d : DataW H} {p : List MemPlace} (hval : Value.okWide Tryz.prog W .any base 28 v) (h : DataW.Trod enc Tryz.prog W 0 (fun _ => true) true 28 v d p) :
    ∃ (b0 : Bool) (a1 : List Int) (a2 : List Int), RepI (fun _ => False) W v (.agg [.bool b0, .sl a1.length (a1.map (.int .u32 ·)), .sl a2.length (a2.map (.int .u32 ·))]) ∧ (∀ z ∈ a1, (Lit.int .u32 z).wf = true) ∧ a1.length ≤ 9223372036854775807 ∧ (∀ z ∈ a2, (Lit.int .u32 z).wf = true) ∧ a2.length ≤ 9223372036854775807 := by
  obtain ⟨cs, rfl, hl, hc⟩ := cells_ok (ts := [4, 22, 22]) (n := 3) Tryz.underlying28 (by kernel_rfl) (by kernel_rfl) rfl hval
  obtain ⟨v0, v1, v2, rfl⟩ : ∃ v0 v1 v2, cs = [v0, v1, v2] := by
    match cs, hl with
    | [v0, v1, v2], _ => exact ⟨v0, v1, v2, rfl⟩
  have hT : Tr enc Tryz.prog W 28 [v0, v1, v2] := tr_of h
  have c0 := val_of_cell (by kernel_rfl) (hc 0 4 rfl)
  rw [show List.getD [v0, v1, v2] 0 undef = v0 from rfl] at c0
  have t0_0 : Tr enc Tryz.prog W 26 [v0, v1] := tr_fld2 (n := 2) 0 Tryz.underlying28 rfl rfl (by kernel_rfl) rfl hT
  have t0_1 : Tr enc Tryz.prog W 4 [v0] := tr_fld2 (n := 1) 0 Tryz.underlying26 rfl rfl (by kernel_rfl) rfl t0_0
  obtain ⟨b0, hb0⟩ := okWide_bool Tryz.underlying4 c0
  have c1 := val_of_cell (by kernel_rfl) (hc 1 22 rfl)
  rw [show List.getD [v0, v1, v2] 1 undef = v1 from rfl] at c1
  have t1_0 : Tr enc Tryz.prog W 26 [v0, v1] := tr_fld2 (n := 2) 0 Tryz.underlying28 rfl rfl (by kernel_rfl) rfl hT
  have t1_1 : Tr enc Tryz.prog W 24 [v1] := tr_fld2 (n := 1) 1 Tryz.underlying26 rfl rfl (by kernel_rfl) rfl t1_0
  have t1_2 : Tr enc Tryz.prog W 22 [v1] := tr_fld2 (n := 1) 0 Tryz.underlying24 rfl rfl (by kernel_rfl) rfl t1_1
  obtain ⟨d1, p1, h1⟩ := tr_to (cells_one (hc 1 22 rfl)) t1_2
  obtain ⟨a1, r1, w1, l1⟩ := rep_slice (k := .u32) (t := 22) (e := 130) Tryz.underlying22 Tryz.underlying130 (by kernel_rfl) c1 h1
  have c2 := val_of_cell (by kernel_rfl) (hc 2 22 rfl)
  rw [show List.getD [v0, v1, v2] 2 undef = v2 from rfl] at c2
  have t2_0 : Tr enc Tryz.prog W 24 [v2] := tr_fld2 (n := 1) 1 Tryz.underlying28 rfl rfl (by kernel_rfl) rfl hT
  have t2_1 : Tr enc Tryz.prog W 22 [v2] := tr_fld2 (n := 1) 0 Tryz.underlying24 rfl rfl (by kernel_rfl) rfl t2_0
  obtain ⟨d2, p2, h2⟩ := tr_to (cells_one (hc 2 22 rfl)) t2_1
  obtain ⟨a2, r2, w2, l2⟩ := rep_slice (k := .u32) (t := 22) (e := 130) Tryz.underlying22 Tryz.underlying130 (by kernel_rfl) c2 h2
  subst hb0
  refine ⟨b0, a1, a2, agg_rep rfl (fun i e hi => ?_), w1, l1, w2, l2⟩
  match i, hi with
  | 0, hi => cases hi; exact .bool _
  | 1, hi => cases hi; exact r1
  | 2, hi => cases hi; exact r2
theorem reads0 : (Tryz.f3.params.toList.all fun t => Tryz.prog.readableRec t && decide (t < Tryz.prog.types.size)) = true := by kernel_rfl
set_option maxRecDepth 100000 in
theorem contract (H : Type) (enc : TypeId × Value → H) (W : World) (base : Nat) (args : Array Value) (ds gs : List (DataW H)) (before : List MemPlace)
    (hval : ∀ (j : Nat) t v, Tryz.f3.params[j]? = some t → args[j]? = some v → Value.okWide Tryz.prog W .any base t v)
    (hW : DataW.Whole enc Tryz.prog Tryz.f3.params.toList Rows.roundSaysSpec.vars false W args.toList ds gs before) (hL : laidMetH Tryz.prog Rows.roundSaysRow.laid W) (hS : W.ShapedOpen Tryz.prog) :
    Calls Tryz.prog 3 args W fun e W' => ∃ v, e = .returned v ∧ Rows.roundSaysSpec.post enc Tryz.prog Tryz.f3 false true false false W args v W' := by
  have hW' := hW
  obtain ⟨p, q, hA, hV, rfl, _, _⟩ := hW
  rw [Tryz.params3] at hA hval
  obtain ⟨v0, vs0, d0, ds0, p0, q0, hargs, rfl, rfl, h0, r0⟩ := trodAll_cons hA
  obtain ⟨v1, vs1, d1, ds1, p1, q1, rfl, rfl, rfl, h1, r1⟩ := trodAll_cons r0
  obtain ⟨v2, vs2, d2, ds2, p2, q2, rfl, rfl, rfl, h2, r2⟩ := trodAll_cons r1
  obtain ⟨v3, vs3, d3, ds3, p3, q3, rfl, rfl, rfl, h3, r3⟩ := trodAll_cons r2
  obtain ⟨v4, vs4, d4, ds4, p4, q4, rfl, rfl, rfl, h4, r4⟩ := trodAll_cons r3
  obtain ⟨rfl, rfl, rfl⟩ := trodAll_nil r4
  obtain rfl : args = #[v0, v1, v2, v3, v4] := by cases args; simp_all
  obtain ⟨rfl, rfl⟩ := trodVars_none hV
  obtain ⟨x0a, x0b, x0c, ra0, w0b, l0b, w0c, l0c⟩ := rep_rat_Q (hval 0 28 v0 rfl rfl) h0
  obtain ⟨x1, ra1, w1⟩ := rep_int (k := .i64) (t := 3) Tryz.underlying3 (hval 1 3 v1 rfl rfl) h1
  obtain ⟨x2, ra2, w2⟩ := rep_int (k := .i64) (t := 3) Tryz.underlying3 (hval 2 3 v2 rfl rfl) h2
  obtain ⟨x3, ra3, w3⟩ := rep_int (k := .i64) (t := 3) Tryz.underlying3 (hval 3 3 v3 rfl rfl) h3
  obtain ⟨x4a, x4b, x4c, ra4, w4b, l4b, w4c⟩ := rep_dec_D (hval 4 30 v4 rfl rfl) h4
  have hl := pcr_says_law (G := gAll) (gAll_stable gTab) (fun _ h => h.1) (fun _ h => h.2) x0a x0b _ rfl (wf_ok w0b ⟨rfl, rfl⟩) l0b x0c _ rfl (wf_ok w0c ⟨rfl, rfl⟩) l0c x1 (bnd w1 ⟨rfl, rfl⟩) x2 (bnd w2 ⟨rfl, rfl⟩) x3 (bnd w3 ⟨rfl, rfl⟩) x4a x4b _ rfl (wf_ok w4b ⟨rfl, rfl⟩) l4b x4c (bnd w4c ⟨rfl, rfl⟩)
  refine (calls_true hl ⟨table hL, gMax_of hS⟩ rfl (cons_arg ra0 (cons_arg ra1 (cons_arg ra2 (cons_arg ra3 (cons_arg ra4 no_arg)))))).mono fun e W' ⟨he, hB⟩ => ?_
  exact ⟨_, he, post_true (tb := 4) lay reads0 (by kernel_rfl) Tryz.underlying4 rfl ⟨rfl, rfl, rfl⟩ hW' hB⟩
noncomputable def wit (os : Os) : World := World.laidAll Tryz.prog os Rows.roundSaysRow.laid
def zs : Array Value := #[.agg #[.bool false, .slice none 0 0, .slice none 0 0], .int .i64 0, .int .i64 0, .int .i64 0, .agg #[.bool false, .slice none 0 0, .int .i64 0]]
theorem reads (os : Os) {H : Type} (enc : TypeId × Value → H) : ∃ places, DataW.whole enc Tryz.prog ((wit os).forCall (fun _ _ => 0) ⟨#[], zs, []⟩).memory Tryz.f3.params.toList Rows.roundSaysSpec.vars false zs.toList 8 = some ([.agg [.agg [.lit (.bool false), .agg [.nil]], .agg [.nil]], .lit (.int .i64 0), .lit (.int .i64 0), .lit (.int .i64 0), .agg [.lit (.bool false), .agg [.nil], .lit (.int .i64 0)]], [], places) :=
  ⟨[], by kernel_rfl⟩
theorem laid_met (os : Os) : laidMetH Tryz.prog Rows.roundSaysRow.laid ((wit os).forCall (fun _ _ => 0) ⟨#[], zs, []⟩).memory := by
  rw [MakeChecks.laidMetH_plain _ _ _ (by kernel_rfl)]
  exact laidMet_laidAll _ (by kernel_rfl) (by kernel_rfl)
set_option maxRecDepth 100000 in
theorem lifted (os : Os) (started : os.Started) (H : Type) (enc : TypeId × Value → H) (F : Stop.Interp) :
    ReturnsInHanded {} Tryz.checked os 3 .any ((OpenSpec.ofChange Rows.roundSaysSpec).preRow enc Tryz.prog Tryz.f3 Rows.roundSaysRow.domain false Rows.roundSaysRow.laid) (((OpenSpec.ofChange Rows.roundSaysSpec).at F).post enc Tryz.prog Tryz.f3 false true false false) := by
  obtain ⟨places, hx⟩ := reads os enc
  refine returnsInHanded_of_row (C := Tryz.checked) (s := OpenSpec.ofChange Rows.roundSaysSpec) own started (by kernel_rfl) Tryz.func3
    ⟨wit os, fun _ _ => 0, ⟨#[], zs, []⟩, World.laidAll_os _ _ _, World.shaped_of_ZipB (by kernel_rfl) (by kernel_rfl), rfl, (Input.okWide_of_okWideB (by kernel_rfl)).2,
      OpenSpec.preRow_of_cond 8 hx (by kernel_rfl) (fun k hk => by cases hk) (by kernel_rfl) (laid_met os), by simp only [Assume.holds]; exact ⟨by simp, by simp, fun _ => Modest.zero, by simp, by simp⟩⟩ ?_
  intro W base args ds gs before hval hW _ _ _ hL hS _
  exact contract H enc W base args ds gs before hval hW hL hS
theorem said : Rows.RoundSaysSaid :=
  OpenClaim.holds_of_cond 3 Tryz.f3 rfl rfl rfl rfl rfl rfl rfl ⟨rfl, rfl, rfl, rfl, rfl⟩ rfl rfl rfl rfl rfl (by kernel_rfl) Tryz.func3 (by kernel_rfl)
    (of_decide_eq_true (by kernel_rfl)) (by unfold Func.isWrapper; first | (rw [if_pos (by decide +kernel)]; kernel_rfl) | (rw [if_neg (by decide +kernel)]; exact ⟨rfl, rfl⟩))
    (fun os started H enc _ F => by rw [OpenClaim.pre_eq_preRow]; exact lifted os started H enc F)
theorem plain (f : FuncId) (fn : Func) (hf : Tryz.pinned.checked.prog.funcNamed "cubit/cubitlaw5.RoundSays" = some f) (hfn : Tryz.pinned.checked.prog.funcs[f]? = some fn) :
    true = Tryz.pinned.checked.prog.looks [] ∧ ∀ (j : Nat) t, fn.params[j]? = some t → Tryz.pinned.checked.prog.wantsStandIn t = false := by
  obtain rfl : f = 3 := Option.some.inj ((show Tryz.prog.funcNamed "cubit/cubitlaw5.RoundSays" = some 3 by kernel_rfl).symm.trans hf) |>.symm
  obtain rfl : fn = Tryz.f3 := (Option.some.inj (Tryz.func3.symm.trans hfn)).symm
  refine ⟨by kernel_rfl, fun j t ht => ?_⟩
  rw [Tryz.params3] at ht
  have hm : t ∈ ([28, 3, 3, 3, 30] : List TypeId) := by simpa using Array.mem_of_getElem? ht
  have hall : (([28, 3, 3, 3, 30] : List TypeId).all fun u => !Tryz.prog.wantsStandIn u) = true := by kernel_rfl
  exact (show Tryz.prog.wantsStandIn t = false by simpa using List.all_eq_true.1 hall t hm)
theorem card : Rows.RoundSaysCardSaid :=
  Claim7.holds_tied_plain_at .later [] _ _ _ _ said (fun _ h => by cases h) (by kernel_rfl) (fun _ h => by cases h) roundSays_row_tie rfl ⟨rfl, rfl⟩ (by kernel_rfl) rfl plain (by kernel_rfl)
end Go.Proofs.YtapikjmijmebpaaGreatDoor.RoundSaysRow
