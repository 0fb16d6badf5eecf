/-
 cubit/cubitlaw13.ConvWays: the row and the tied card: it answers true for every input, and its arguments read as they did
-/
import Derived.Test.YtmhhgkchednpjaaGreatDoorKConvWaysLaw
import Derived.Test.YtmhhgkchednpjaaGreatDoorKRw
set_option linter.all false
set_option maxHeartbeats 4000000
namespace Go.Proofs.YtmhhgkchednpjaaGreatDoor.ConvWaysRow
open Go.ChangeShapes Go.WideShapes Go.ChangeAt Go.RowKit Go.Proofs.YtmhhgkchednpjaaGreatDoorK.AI Go.Proofs.YtmhhgkchednpjaaGreatDoorK.RowT Go.Proofs.YtmhhgkchednpjaaGreatDoorK.LawT13 Go.Proofs.YtmhhgkchednpjaaGreatDoor
theorem own : ownKnob Tryz.prog.godebug = none := by kernel_rfl
theorem lay : laidOutB Tryz.prog = true := by kernel_rfl
theorem gTab : Tryz.prog.globalNamed "internal/strconv.uint64pow10" = some 1 := by kernel_rfl
theorem tabC (H : Type) : Rows.laid_internal_strconv_uint64pow10 (H := H) = Lib.tabData .u64 Lib.pow10Tab := by kernel_rfl
theorem table {W : World} (h : laidMetH Tryz.prog Rows.convWaysRow.laid W) : gPow Tryz.prog W :=
 gPow_of (t := 386) (e := 74) (n := 20) gTab (by kernel_rfl) (by kernel_rfl) (by kernel_rfl) (by kernel_rfl) (by kernel_rfl) (by kernel_rfl) (x := ("math/bits.deBruijn32tab", Rows.laid_math_bits_deBruijn32tab)) (y := ("math/bits.deBruijn64tab", Rows.laid_math_bits_deBruijn64tab)) (rest := [("unicode/utf8.acceptRanges", Rows.laid_unicode_utf8_acceptRanges), ("strconv.ErrRange", Rows.laid_strconv_ErrRange), ("strconv.ErrSyntax", Rows.laid_strconv_ErrSyntax), ("unicode/utf8.first", Rows.laid_unicode_utf8_first)])
  (by rw [← tabC]; exact h)
set_option maxRecDepth 100000 in
theorem rep_arg60 {H : Type} {enc : TypeId × Value → H} {W : World} {base : Nat} {v : Value} {d : DataW H} {q : List MemPlace} (hval : Value.okWide Tryz.prog W .any base 60 v) (h : DataW.Trod enc Tryz.prog W 0 (fun _ => true) true 60 v d q) :
  ∃ a : List Int, RepI (fun _ => False) W v (.agg (a.map (.int .i64))) ∧ a.length = 8 := by
 obtain ⟨n, ds, hr, hc⟩ := arg_agg lay (of_decide_eq_true (by kernel_rfl)) (by kernel_rfl) hval h
 obtain ⟨l, rfl, h1, h2⟩ := hc.ints Tryz.underlying60 Tryz.underlying3
 exact ⟨l, hr, h1⟩
theorem reads0 : (Tryz.f8.params.toList.all fun t => Tryz.prog.readableRec t && decide (t < Tryz.prog.types.size)) = true := by kernel_rfl
set_option maxRecDepth 100000 in
theorem contract (H : Type) (enc : TypeId × Value → H) (W : World) (base : Nat) (args : Array Value) (ds gs : List (DataW H)) (before : List MemPlace)
  (hval : ∀ (j : Nat) t v, Tryz.f8.params[j]? = some t → args[j]? = some v → Value.okWide Tryz.prog W .any base t v)
  (hW : DataW.Whole enc Tryz.prog Tryz.f8.params.toList Rows.convWaysSpec.vars false W args.toList ds gs before) (hL : laidMetH Tryz.prog Rows.convWaysRow.laid W) (hS : W.ShapedOpen Tryz.prog) :
  Calls Tryz.prog 8 args W fun e W' => ∃ v, e = .returned v ∧ Rows.convWaysSpec.post enc Tryz.prog Tryz.f8 false true false false W args v W' := by
 have hW' := hW
 obtain ⟨p, q, hA, hV, rfl, _, _⟩ := hW
 rw [Tryz.params8] at hA hval
 obtain ⟨v0, vs0, d0, ds0, p0, q0, hargs, rfl, rfl, h0, r0⟩ := trodAll_cons hA
 obtain ⟨v1, vs1, d1, ds1, p1, q1, rfl, rfl, rfl, h1, r1⟩ := trodAll_cons r0
 obtain ⟨rfl, rfl, rfl⟩ := trodAll_nil r1
 obtain rfl : args = #[v0, v1] := by cases args; simp_all
 obtain ⟨rfl, rfl⟩ := trodVars_none hV
 obtain ⟨x0, ra0, l0⟩ := rep_arg60 (hval 0 60 v0 rfl rfl) h0
 obtain ⟨x1, ra1, l1⟩ := rep_arg60 (hval 1 60 v1 rfl rfl) h1
 have hl := pcr_ways_law (G := gAll) (gAll_stable gTab) (fun _ h => h.1) (fun _ h => h.2) x0 l0 x1 l1
 refine (calls_true hl ⟨table hL, gMax_of hS⟩ rfl (cons_arg ra0 (cons_arg ra1 no_arg))).mono fun e W' ⟨he, hB⟩ => ?_
 exact ⟨_, he, post_true (tb := 4) lay reads0 (by kernel_rfl) Tryz.underlying4 rfl ⟨rfl, rfl, rfl⟩ hW' hB⟩
noncomputable def wit (os : Os) : World := World.laidAll Tryz.prog os Rows.convWaysRow.laid
def zs : Array Value := #[.agg #[.int .i64 0, .int .i64 0, .int .i64 0, .int .i64 0, .int .i64 0, .int .i64 0, .int .i64 0, .int .i64 0], .agg #[.int .i64 0, .int .i64 0, .int .i64 0, .int .i64 0, .int .i64 0, .int .i64 0, .int .i64 0, .int .i64 0]]
theorem reads (os : Os) {H : Type} (enc : TypeId × Value → H) : ∃ places, DataW.whole enc Tryz.prog ((wit os).forCall (fun _ _ => 0) ⟨#[], zs, []⟩).memory Tryz.f8.params.toList Rows.convWaysSpec.vars false zs.toList 8 = some ([.agg [.lit (.int .i64 0), .lit (.int .i64 0), .lit (.int .i64 0), .lit (.int .i64 0), .lit (.int .i64 0), .lit (.int .i64 0), .lit (.int .i64 0), .lit (.int .i64 0)], .agg [.lit (.int .i64 0), .lit (.int .i64 0), .lit (.int .i64 0), .lit (.int .i64 0), .lit (.int .i64 0), .lit (.int .i64 0), .lit (.int .i64 0), .lit (.int .i64 0)]], [], places) :=
 ⟨[], by kernel_rfl⟩
theorem laid_met (os : Os) : laidMetH Tryz.prog Rows.convWaysRow.laid ((wit os).forCall (fun _ _ => 0) ⟨#[], zs, []⟩).memory := by
 rw [MakeChecks.laidMetH_plain _ _ _ (by kernel_rfl)]
 exact laidMet_laidAll _ (by kernel_rfl) (by kernel_rfl)
set_option maxRecDepth 100000 in
theorem lifted (os : Os) (started : os.Started) (H : Type) (enc : TypeId × Value → H) (F : Stop.Interp) :
  ReturnsInHanded {} Tryz.checked os 8 .any ((OpenSpec.ofChange Rows.convWaysSpec).preRow enc Tryz.prog Tryz.f8 Rows.convWaysRow.domain false Rows.convWaysRow.laid) (((OpenSpec.ofChange Rows.convWaysSpec).at F).post enc Tryz.prog Tryz.f8 false true false false) := by
 obtain ⟨places, hx⟩ := reads os enc
 refine returnsInHanded_of_row (C := Tryz.checked) (s := OpenSpec.ofChange Rows.convWaysSpec) own started (by kernel_rfl) Tryz.func8
  ⟨wit os, fun _ _ => 0, ⟨#[], zs, []⟩, World.laidAll_os _ _ _, World.shaped_of_ZipB (by kernel_rfl) (by kernel_rfl), rfl, (Input.okWide_of_okWideB (by kernel_rfl)).2,
   OpenSpec.preRow_of_cond 8 hx (by kernel_rfl) (fun k hk => by cases hk) (by kernel_rfl) (laid_met os), by simp only [Assume.holds]; exact ⟨by simp, by simp, fun _ => Modest.zero, by simp, by simp⟩⟩ ?_
 intro W base args ds gs before hval hW _ _ _ hL hS _
 exact contract H enc W base args ds gs before hval hW hL hS
theorem hcl : Tryz.prog.closure 8 = [8, 41, 52, 51, 57, 117, 170, 215, 258, 259, 291, 216, 260, 217, 254, 281, 303, 282, 283, 284, 304, 118, 171, 218, 119, 172, 219, 120, 58, 121, 59, 122, 123, 173, 178, 221, 261, 212, 255, 191, 238, 237, 239, 241, 272, 240, 243, 274, 296, 273, 295, 309, 310, 242, 129, 174, 175, 61, 176, 220, 25, 76, 34, 87, 143, 197, 247, 164, 88, 148, 80, 177, 124, 167, 168, 213, 256, 285, 286, 257, 287, 305, 288, 289, 151, 205, 251, 277, 278, 299, 298, 300, 279, 280, 301, 302, 312, 313, 306, 290, 179, 91, 144, 92, 150, 152, 206, 252, 253, 132, 195, 245, 196, 246, 133, 207, 134, 153, 63, 32, 84, 67, 112, 85, 113, 136, 165, 199, 248, 200, 201, 249, 202, 38, 33, 86, 71, 72, 125, 180, 115, 166, 211, 77, 181, 62, 130, 131, 192, 193, 244, 275, 276, 297, 311, 194, 182, 89, 149, 183, 222, 184, 83, 146, 203, 250, 204, 147, 39, 90, 185, 126, 127, 60, 128, 186, 223, 226, 263, 264, 227, 224, 262, 225, 104, 96, 97, 156, 210, 208, 187, 228, 265, 236, 271, 229, 105, 162, 103, 107, 100, 158, 159, 95, 154, 155, 163, 209, 188, 230, 266, 267, 231, 268, 292, 293, 307, 314, 315, 316, 308, 232, 233, 234, 157, 94, 98, 269, 235, 270, 294, 189, 190, 54, 19, 114, 35, 30, 81, 82, 31, 46, 42, 93, 99, 68, 138, 137, 198, 69, 139, 37] := by kernel_rfl
theorem closed : joinedFacts Tryz.pinned.checked.prog 8 Tryz.f8 (OpenSpec.ofChange Rows.convWaysSpec).bare Rows.convWaysRow = true := by
 show joinedFacts Tryz.prog 8 Tryz.f8 (OpenSpec.ofChange Rows.convWaysSpec).bare Rows.convWaysRow = true
 unfold joinedFacts Program.inPlace Program.unfollowed Program.recurses Program.varsNamed Program.unfollowed
 rw [hcl]
 repeat' with_reducible refine Bool.and_eq_true_iff.2 ⟨?_, ?_⟩
 all_goals as_aux_lemma => kernel_rfl
theorem goes0 : Tryz.prog.goes 8 = false := by
 unfold Program.goes Program.unfollowed
 rw [hcl]
 kernel_rfl
theorem goesN : Tryz.prog.funcNamed "cubit/cubitlaw13.ConvWays" = some 8 := by kernel_rfl
theorem goesA : false = Rows.convWaysRow.goesBy Tryz.pinned.checked.prog := by
 show false = ((Tryz.prog.funcNamed "cubit/cubitlaw13.ConvWays").any Tryz.prog.goes || false)
 rw [goesN, Option.any_some, goes0]
 rfl
theorem said : Rows.ConvWaysSaid :=
 OpenClaim.holds_of_cond 8 Tryz.f8 rfl rfl rfl rfl rfl rfl rfl ⟨rfl, rfl, rfl, rfl, rfl⟩ rfl rfl rfl rfl rfl goesN Tryz.func8 closed
  (of_decide_eq_true (by kernel_rfl)) (by unfold Func.isWrapper; first | (rw [if_pos (by decide +kernel)]; kernel_rfl) | (rw [if_neg (by decide +kernel)]; exact ⟨rfl, rfl⟩))
  (fun os started H enc _ F => by rw [OpenClaim.pre_eq_preRow]; exact lifted os started H enc F)
theorem plain (f : FuncId) (fn : Func) (hf : Tryz.pinned.checked.prog.funcNamed "cubit/cubitlaw13.ConvWays" = some f) (hfn : Tryz.pinned.checked.prog.funcs[f]? = some fn) :
  true = Tryz.pinned.checked.prog.looks [] ∧ ∀ (j : Nat) t, fn.params[j]? = some t → Tryz.pinned.checked.prog.wantsStandIn t = false := by
 obtain rfl : f = 8 := Option.some.inj (goesN.symm.trans hf) |>.symm
 obtain rfl : fn = Tryz.f8 := (Option.some.inj (Tryz.func8.symm.trans hfn)).symm
 refine ⟨by kernel_rfl, fun j t ht => ?_⟩
 rw [Tryz.params8] at ht
 have hm : t ∈ ([60, 60] : List TypeId) := by simpa using Array.mem_of_getElem? ht
 have hall : (([60, 60] : List TypeId).all fun u => !Tryz.prog.wantsStandIn u) = true := by kernel_rfl
 exact (show Tryz.prog.wantsStandIn t = false by simpa using List.all_eq_true.1 hall t hm)
theorem card : Rows.ConvWaysCardSaid :=
 Claim7.holds_tied_plain_at .later [] _ _ _ _ said (fun _ h => by cases h) (by kernel_rfl) (fun _ h => by cases h) convWays_row_tie rfl ⟨rfl, rfl⟩ (by kernel_rfl) rfl plain goesA
end Go.Proofs.YtmhhgkchednpjaaGreatDoor.ConvWaysRow
