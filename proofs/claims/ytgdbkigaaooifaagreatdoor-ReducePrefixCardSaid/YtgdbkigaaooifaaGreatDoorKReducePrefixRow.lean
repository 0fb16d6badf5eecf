/-
 cubit/cubitlaw12.ReducePrefix: the row and the tied card: it answers true for every input, and its arguments read as they did
-/
import Derived.Test.YtgdbkigaaooifaaGreatDoorKReducePrefixLaw
import Derived.Test.YtgdbkigaaooifaaGreatDoorKRw
set_option linter.all false
set_option maxHeartbeats 4000000
namespace Go.Proofs.YtgdbkigaaooifaaGreatDoor.ReducePrefixRow
open Go.ChangeShapes Go.WideShapes Go.ChangeAt Go.RowKit Go.Proofs.YtgdbkigaaooifaaGreatDoorK.AI Go.Proofs.YtgdbkigaaooifaaGreatDoorK.RowT Go.Proofs.YtgdbkigaaooifaaGreatDoorK.LawT12 Go.Proofs.YtgdbkigaaooifaaGreatDoor
theorem own : ownKnob Tryz.prog.godebug = none := by kernel_rfl
theorem lay : laidOutB Tryz.prog = true := by kernel_rfl
theorem gTab : Tryz.prog.globalNamed "internal/strconv.uint64pow10" = some 1 := by kernel_rfl
theorem tabC (H : Type) : Rows.laid_internal_strconv_uint64pow10 (H := H) = Lib.tabData .u64 Lib.pow10Tab := by kernel_rfl
theorem table {W : World} (h : laidMetH Tryz.prog Rows.reducePrefixRow.laid W) : gPow Tryz.prog W :=
 gPow_of (t := 312) (e := 52) (n := 20) gTab (by kernel_rfl) (by kernel_rfl) (by kernel_rfl) (by kernel_rfl) (by kernel_rfl) (by kernel_rfl) (x := ("math/bits.deBruijn32tab", Rows.laid_math_bits_deBruijn32tab)) (y := ("math/bits.deBruijn64tab", Rows.laid_math_bits_deBruijn64tab)) (rest := [("unicode/utf8.acceptRanges", Rows.laid_unicode_utf8_acceptRanges), ("strconv.ErrRange", Rows.laid_strconv_ErrRange), ("strconv.ErrSyntax", Rows.laid_strconv_ErrSyntax), ("unicode/utf8.first", Rows.laid_unicode_utf8_first)])
  (by rw [← tabC]; exact h)
theorem reads0 : (Tryz.f3.params.toList.all fun t => Tryz.prog.readableRec t && decide (t < Tryz.prog.types.size)) = true := by kernel_rfl
set_option maxRecDepth 100000 in
theorem contract (H : Type) (enc : TypeId × Value → H) (W : World) (base : Nat) (args : Array Value) (ds gs : List (DataW H)) (before : List MemPlace)
  (hval : ∀ (j : Nat) t v, Tryz.f3.params[j]? = some t → args[j]? = some v → Value.okWide Tryz.prog W .any base t v)
  (hW : DataW.Whole enc Tryz.prog Tryz.f3.params.toList Rows.reducePrefixSpec.vars false W args.toList ds gs before) (hL : laidMetH Tryz.prog Rows.reducePrefixRow.laid W) (hS : W.ShapedOpen Tryz.prog) :
  Calls Tryz.prog 3 args W fun e W' => ∃ v, e = .returned v ∧ Rows.reducePrefixSpec.post enc Tryz.prog Tryz.f3 false true false false W args v W' := by
 have hW' := hW
 obtain ⟨p, q, hA, hV, rfl, _, _⟩ := hW
 rw [Tryz.params3] at hA hval
 obtain ⟨v0, vs0, d0, ds0, p0, q0, hargs, rfl, rfl, h0, r0⟩ := trodAll_cons hA
 obtain ⟨v1, vs1, d1, ds1, p1, q1, rfl, rfl, rfl, h1, r1⟩ := trodAll_cons r0
 obtain ⟨v2, vs2, d2, ds2, p2, q2, rfl, rfl, rfl, h2, r2⟩ := trodAll_cons r1
 obtain ⟨rfl, rfl, rfl⟩ := trodAll_nil r2
 obtain rfl : args = #[v0, v1, v2] := by cases args; simp_all
 obtain ⟨rfl, rfl⟩ := trodVars_none hV
 obtain ⟨x0, ra0, l0⟩ := rep_str (t := 9) Tryz.underlying9 (hval 0 9 v0 rfl rfl) h0
 obtain ⟨x1, ra1, l1⟩ := rep_str (t := 9) Tryz.underlying9 (hval 1 9 v1 rfl rfl) h1
 obtain ⟨x2, ra2, w2⟩ := rep_int (k := .i64) (t := 3) Tryz.underlying3 (hval 2 3 v2 rfl rfl) h2
 have hl := pcr_pre_law (G := gAll) (gAll_stable gTab) (fun _ h => h.1) (fun _ h => h.2) x0 l0 x1 l1 x2 (bnd w2 ⟨rfl, rfl⟩)
 refine (calls_true hl ⟨table hL, gMax_of hS⟩ rfl (cons_arg ra0 (cons_arg ra1 (cons_arg ra2 no_arg)))).mono fun e W' ⟨he, hB⟩ => ?_
 exact ⟨_, he, post_true (tb := 4) lay reads0 (by kernel_rfl) Tryz.underlying4 rfl ⟨rfl, rfl, rfl⟩ hW' hB⟩
noncomputable def wit (os : Os) : World := World.laidAll Tryz.prog os Rows.reducePrefixRow.laid
def zs : Array Value := #[.string ⟨#[]⟩, .string ⟨#[]⟩, .int .i64 0]
theorem reads (os : Os) {H : Type} (enc : TypeId × Value → H) : ∃ places, DataW.whole enc Tryz.prog ((wit os).forCall (fun _ _ => 0) ⟨#[], zs, []⟩).memory Tryz.f3.params.toList Rows.reducePrefixSpec.vars false zs.toList 8 = some ([.lit (.string []), .lit (.string []), .lit (.int .i64 0)], [], places) :=
 ⟨[], by kernel_rfl⟩
theorem laid_met (os : Os) : laidMetH Tryz.prog Rows.reducePrefixRow.laid ((wit os).forCall (fun _ _ => 0) ⟨#[], zs, []⟩).memory := by
 rw [MakeChecks.laidMetH_plain _ _ _ (by kernel_rfl)]
 exact laidMet_laidAll _ (by kernel_rfl) (by kernel_rfl)
set_option maxRecDepth 100000 in
theorem lifted (os : Os) (started : os.Started) (H : Type) (enc : TypeId × Value → H) (F : Stop.Interp) :
  ReturnsInHanded {} Tryz.checked os 3 .any ((OpenSpec.ofChange Rows.reducePrefixSpec).preRow enc Tryz.prog Tryz.f3 Rows.reducePrefixRow.domain false Rows.reducePrefixRow.laid) (((OpenSpec.ofChange Rows.reducePrefixSpec).at F).post enc Tryz.prog Tryz.f3 false true false false) := by
 obtain ⟨places, hx⟩ := reads os enc
 refine returnsInHanded_of_row (C := Tryz.checked) (s := OpenSpec.ofChange Rows.reducePrefixSpec) own started (by kernel_rfl) Tryz.func3
  ⟨wit os, fun _ _ => 0, ⟨#[], zs, []⟩, World.laidAll_os _ _ _, World.shaped_of_ZipB (by kernel_rfl) (by kernel_rfl), rfl, (Input.okWide_of_okWideB (by kernel_rfl)).2,
   OpenSpec.preRow_of_cond 8 hx (by kernel_rfl) (fun k hk => by cases hk) (by kernel_rfl) (laid_met os), by simp only [Assume.holds]; exact ⟨by simp, by simp, fun _ => Modest.zero, by simp, by simp⟩⟩ ?_
 intro W base args ds gs before hval hW _ _ _ hL hS _
 exact contract H enc W base args ds gs before hval hW hL hS
theorem hcl : Tryz.prog.closure 3 = [3, 7, 9, 8, 22, 47, 76, 114, 153, 154, 190, 115, 155, 116, 156, 191, 223, 192, 193, 194, 224, 48, 77, 117, 49, 78, 118, 50, 23, 51, 24, 52, 53, 79, 84, 121, 158, 122, 159, 160, 196, 195, 197, 199, 225, 198, 201, 227, 242, 226, 241, 248, 249, 200, 157, 80, 81, 119, 82, 120, 29, 43, 15, 38, 65, 101, 145, 100, 39, 66, 44, 83, 54, 85, 123, 161, 202, 228, 229, 203, 230, 243, 231, 232, 72, 108, 148, 184, 185, 219, 218, 220, 186, 187, 221, 222, 239, 240, 244, 233, 86, 45, 61, 46, 71, 73, 109, 149, 150, 110, 151, 188, 152, 189, 111, 112, 113, 74, 75, 12, 30, 42, 68, 31, 69, 70, 103, 104, 146, 105, 106, 147, 107, 19, 14, 36, 37, 32, 55, 87, 124, 162, 204, 33, 88, 125, 163, 164, 205, 206, 234, 245, 246, 250, 252, 207, 89, 40, 67, 90, 126, 91, 28, 59, 98, 144, 99, 60, 20, 41, 92, 56, 57, 25, 58, 93, 127, 131, 168, 169, 132, 128, 165, 129, 130, 166, 167, 208, 217, 210, 94, 133, 170, 143, 183, 134, 136, 175, 171, 209, 142, 181, 182, 174, 211, 212, 235, 236, 95, 135, 172, 173, 137, 176, 213, 214, 237, 247, 251, 253, 238, 138, 139, 140, 177, 215, 178, 179, 141, 180, 216, 96, 97, 10, 26, 27, 11, 18, 13, 35, 64, 34, 63, 62, 102] := by kernel_rfl
theorem closed : joinedFacts Tryz.pinned.checked.prog 3 Tryz.f3 (OpenSpec.ofChange Rows.reducePrefixSpec).bare Rows.reducePrefixRow = true := by
 show joinedFacts Tryz.prog 3 Tryz.f3 (OpenSpec.ofChange Rows.reducePrefixSpec).bare Rows.reducePrefixRow = true
 unfold joinedFacts Program.inPlace Program.unfollowed Program.recurses Program.varsNamed Program.unfollowed
 rw [hcl]
 repeat' with_reducible refine Bool.and_eq_true_iff.2 ⟨?_, ?_⟩
 all_goals as_aux_lemma => kernel_rfl
theorem goes0 : Tryz.prog.goes 3 = false := by
 unfold Program.goes Program.unfollowed
 rw [hcl]
 kernel_rfl
theorem goesN : Tryz.prog.funcNamed "cubit/cubitlaw12.ReducePrefix" = some 3 := by kernel_rfl
theorem goesA : false = Rows.reducePrefixRow.goesBy Tryz.pinned.checked.prog := by
 show false = ((Tryz.prog.funcNamed "cubit/cubitlaw12.ReducePrefix").any Tryz.prog.goes || false)
 rw [goesN, Option.any_some, goes0]
 rfl
theorem said : Rows.ReducePrefixSaid :=
 OpenClaim.holds_of_cond 3 Tryz.f3 rfl rfl rfl rfl rfl rfl rfl ⟨rfl, rfl, rfl, rfl, rfl⟩ rfl rfl rfl rfl rfl goesN Tryz.func3 closed
  (of_decide_eq_true (by kernel_rfl)) (by unfold Func.isWrapper; first | (rw [if_pos (by decide +kernel)]; kernel_rfl) | (rw [if_neg (by decide +kernel)]; exact ⟨rfl, rfl⟩))
  (fun os started H enc _ F => by rw [OpenClaim.pre_eq_preRow]; exact lifted os started H enc F)
theorem plain (f : FuncId) (fn : Func) (hf : Tryz.pinned.checked.prog.funcNamed "cubit/cubitlaw12.ReducePrefix" = some f) (hfn : Tryz.pinned.checked.prog.funcs[f]? = some fn) :
  true = Tryz.pinned.checked.prog.looks [] ∧ ∀ (j : Nat) t, fn.params[j]? = some t → Tryz.pinned.checked.prog.wantsStandIn t = false := by
 obtain rfl : f = 3 := Option.some.inj (goesN.symm.trans hf) |>.symm
 obtain rfl : fn = Tryz.f3 := (Option.some.inj (Tryz.func3.symm.trans hfn)).symm
 refine ⟨by kernel_rfl, fun j t ht => ?_⟩
 rw [Tryz.params3] at ht
 have hm : t ∈ ([9, 9, 3] : List TypeId) := by simpa using Array.mem_of_getElem? ht
 have hall : (([9, 9, 3] : List TypeId).all fun u => !Tryz.prog.wantsStandIn u) = true := by kernel_rfl
 exact (show Tryz.prog.wantsStandIn t = false by simpa using List.all_eq_true.1 hall t hm)
theorem card : Rows.ReducePrefixCardSaid :=
 Claim7.holds_tied_plain_at .later [] _ _ _ _ said (fun _ h => by cases h) (by kernel_rfl) (fun _ h => by cases h) reducePrefix_row_tie rfl ⟨rfl, rfl⟩ (by kernel_rfl) rfl plain goesA
end Go.Proofs.YtgdbkigaaooifaaGreatDoor.ReducePrefixRow
