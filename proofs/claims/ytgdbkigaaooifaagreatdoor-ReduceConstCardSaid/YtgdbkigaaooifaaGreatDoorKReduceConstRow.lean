/-
 cubit/cubitlaw12.ReduceConst: the row and the tied card: it answers true for every input, and its arguments read as they did
-/
import Derived.Test.YtgdbkigaaooifaaGreatDoorKReduceConstLaw
import Derived.Test.YtgdbkigaaooifaaGreatDoorKRw
set_option linter.all false
set_option maxHeartbeats 4000000
namespace Go.Proofs.YtgdbkigaaooifaaGreatDoor.ReduceConstRow
open Go.ChangeShapes Go.WideShapes Go.ChangeAt Go.RowKit Go.Proofs.YtgdbkigaaooifaaGreatDoorK.AI Go.Proofs.YtgdbkigaaooifaaGreatDoorK.RowT Go.Proofs.YtgdbkigaaooifaaGreatDoorK.LawT12 Go.Proofs.YtgdbkigaaooifaaGreatDoor
theorem own : ownKnob Tryz.prog.godebug = none := by kernel_rfl
theorem lay : laidOutB Tryz.prog = true := by kernel_rfl
theorem gTab : Tryz.prog.globalNamed "internal/strconv.uint64pow10" = some 1 := by kernel_rfl
theorem tabC (H : Type) : Rows.laid_internal_strconv_uint64pow10 (H := H) = Lib.tabData .u64 Lib.pow10Tab := by kernel_rfl
theorem table {W : World} (h : laidMetH Tryz.prog Rows.reduceConstRow.laid W) : gPow Tryz.prog W :=
 gPow_of (t := 312) (e := 52) (n := 20) gTab (by kernel_rfl) (by kernel_rfl) (by kernel_rfl) (by kernel_rfl) (by kernel_rfl) (by kernel_rfl) (x := ("math/bits.deBruijn32tab", Rows.laid_math_bits_deBruijn32tab)) (y := ("math/bits.deBruijn64tab", Rows.laid_math_bits_deBruijn64tab)) (rest := [("unicode/utf8.acceptRanges", Rows.laid_unicode_utf8_acceptRanges), ("strconv.ErrRange", Rows.laid_strconv_ErrRange), ("strconv.ErrSyntax", Rows.laid_strconv_ErrSyntax), ("unicode/utf8.first", Rows.laid_unicode_utf8_first)])
  (by rw [← tabC]; exact h)
set_option maxRecDepth 100000 in
theorem rep_arg50 {H : Type} {enc : TypeId × Value → H} {W : World} {base : Nat} {v : Value} {d : DataW H} {q : List MemPlace} (hval : Value.okWide Tryz.prog W .any base 50 v) (h : DataW.Trod enc Tryz.prog W 0 (fun _ => true) true 50 v d q) :
  ∃ l : List (ByteArray × ByteArray × Int), RepI (fun _ => False) W v (.sl l.length (l.flatMap fun a => [.str a.1, .str a.2.1, .int .i64 a.2.2])) ∧ (∀ x ∈ l, x.1.size ≤ 9223372036854775807 ∧ x.2.1.size ≤ 9223372036854775807 ∧ (Lit.int .i64 x.2.2).wf = true) ∧ l.length ≤ 9223372036854775807 := by
 obtain ⟨n, x, hr, hc⟩ := arg_sl lay (of_decide_eq_true (by kernel_rfl)) Tryz.underlying50 hval h
 obtain ⟨l, h1, h2, h3⟩ := hc.list (f := fun a : ByteArray × ByteArray × Int => [.str a.1, .str a.2.1, .int .i64 a.2.2]) (q := fun x => x.1.size ≤ 9223372036854775807 ∧ x.2.1.size ≤ 9223372036854775807 ∧ (Lit.int .i64 x.2.2).wf = true) Tryz.underlying50 (fun m r hm => by
  obtain ⟨k, parts, rfl, hp⟩ := hm.fields Tryz.underlying43 (show _ = [9, 9, 3] by kernel_rfl)
  obtain ⟨p0, p1, p2, rfl, h0, h1, h2⟩ := AllC.three hp
  obtain ⟨s0, rfl, z0⟩ := h0.str Tryz.underlying9
  obtain ⟨s1, rfl, z1⟩ := h1.str Tryz.underlying9
  obtain ⟨i2, rfl, z2⟩ := h2.int Tryz.underlying3
  exact ⟨(s0, s1, i2), rfl, z0, z1, z2⟩)
 cases h1
 exact ⟨l, hr, h3, h2⟩
theorem reads0 : (Tryz.f6.params.toList.all fun t => Tryz.prog.readableRec t && decide (t < Tryz.prog.types.size)) = true := by kernel_rfl
set_option maxRecDepth 100000 in
theorem contract (H : Type) (enc : TypeId × Value → H) (W : World) (base : Nat) (args : Array Value) (ds gs : List (DataW H)) (before : List MemPlace)
  (hval : ∀ (j : Nat) t v, Tryz.f6.params[j]? = some t → args[j]? = some v → Value.okWide Tryz.prog W .any base t v)
  (hW : DataW.Whole enc Tryz.prog Tryz.f6.params.toList Rows.reduceConstSpec.vars false W args.toList ds gs before) (hL : laidMetH Tryz.prog Rows.reduceConstRow.laid W) (hS : W.ShapedOpen Tryz.prog) :
  Calls Tryz.prog 6 args W fun e W' => ∃ v, e = .returned v ∧ Rows.reduceConstSpec.post enc Tryz.prog Tryz.f6 false true false false W args v W' := by
 have hW' := hW
 obtain ⟨p, q, hA, hV, rfl, _, _⟩ := hW
 rw [Tryz.params6] at hA hval
 obtain ⟨v0, vs0, d0, ds0, p0, q0, hargs, rfl, rfl, h0, r0⟩ := trodAll_cons hA
 obtain ⟨v1, vs1, d1, ds1, p1, q1, rfl, rfl, rfl, h1, r1⟩ := trodAll_cons r0
 obtain ⟨rfl, rfl, rfl⟩ := trodAll_nil r1
 obtain rfl : args = #[v0, v1] := by cases args; simp_all
 obtain ⟨rfl, rfl⟩ := trodVars_none hV
 obtain ⟨x0, ra0, c0, l0⟩ := rep_arg50 (hval 0 50 v0 rfl rfl) h0
 obtain ⟨x1, ra1, w1⟩ := rep_int (k := .u64) (t := 52) Tryz.underlying52 (hval 1 52 v1 rfl rfl) h1
 have hl := pcr_const_law (G := gAll) (gAll_stable gTab) (fun _ h => h.1) (fun _ h => h.2) x0 (fun a ha => ⟨(c0 a ha).1, (c0 a ha).2.1, bnd (c0 a ha).2.2 ⟨rfl, rfl⟩⟩) l0 x1 (bnd w1 ⟨rfl, rfl⟩)
 refine (calls_true hl ⟨table hL, gMax_of hS⟩ rfl (cons_arg ra0 (cons_arg ra1 no_arg))).mono fun e W' ⟨he, hB⟩ => ?_
 exact ⟨_, he, post_true (tb := 4) lay reads0 (by kernel_rfl) Tryz.underlying4 rfl ⟨rfl, rfl, rfl⟩ hW' hB⟩
noncomputable def wit (os : Os) : World := World.laidAll Tryz.prog os Rows.reduceConstRow.laid
def zs : Array Value := #[.slice none 0 0, .int .u64 0]
theorem reads (os : Os) {H : Type} (enc : TypeId × Value → H) : ∃ places, DataW.whole enc Tryz.prog ((wit os).forCall (fun _ _ => 0) ⟨#[], zs, []⟩).memory Tryz.f6.params.toList Rows.reduceConstSpec.vars false zs.toList 8 = some ([.nil, .lit (.int .u64 0)], [], places) :=
 ⟨[], by kernel_rfl⟩
theorem laid_met (os : Os) : laidMetH Tryz.prog Rows.reduceConstRow.laid ((wit os).forCall (fun _ _ => 0) ⟨#[], zs, []⟩).memory := by
 rw [MakeChecks.laidMetH_plain _ _ _ (by kernel_rfl)]
 exact laidMet_laidAll _ (by kernel_rfl) (by kernel_rfl)
set_option maxRecDepth 100000 in
theorem lifted (os : Os) (started : os.Started) (H : Type) (enc : TypeId × Value → H) (F : Stop.Interp) :
  ReturnsInHanded {} Tryz.checked os 6 .any ((OpenSpec.ofChange Rows.reduceConstSpec).preRow enc Tryz.prog Tryz.f6 Rows.reduceConstRow.domain false Rows.reduceConstRow.laid) (((OpenSpec.ofChange Rows.reduceConstSpec).at F).post enc Tryz.prog Tryz.f6 false true false false) := by
 obtain ⟨places, hx⟩ := reads os enc
 refine returnsInHanded_of_row (C := Tryz.checked) (s := OpenSpec.ofChange Rows.reduceConstSpec) own started (by kernel_rfl) Tryz.func6
  ⟨wit os, fun _ _ => 0, ⟨#[], zs, []⟩, World.laidAll_os _ _ _, World.shaped_of_ZipB (by kernel_rfl) (by kernel_rfl), rfl, (Input.okWide_of_okWideB (by kernel_rfl)).2,
   OpenSpec.preRow_of_cond 8 hx (by kernel_rfl) (fun k hk => by cases hk) (by kernel_rfl) (laid_met os), by simp only [Assume.holds]; exact ⟨by simp, by simp, fun _ => Modest.zero, by simp, by simp⟩⟩ ?_
 intro W base args ds gs before hval hW _ _ _ hL hS _
 exact contract H enc W base args ds gs before hval hW hL hS
theorem hcl : Tryz.prog.closure 6 = [6, 7, 9, 8, 22, 47, 76, 114, 153, 154, 190, 115, 155, 116, 156, 191, 223, 192, 193, 194, 224, 48, 77, 117, 49, 78, 118, 50, 23, 51, 24, 52, 53, 79, 84, 121, 158, 122, 159, 160, 196, 195, 197, 199, 225, 198, 201, 227, 242, 226, 241, 248, 249, 200, 157, 80, 81, 119, 82, 120, 29, 43, 15, 38, 65, 101, 145, 100, 39, 66, 44, 83, 54, 85, 123, 161, 202, 228, 229, 203, 230, 243, 231, 232, 72, 108, 148, 184, 185, 219, 218, 220, 186, 187, 221, 222, 239, 240, 244, 233, 86, 45, 61, 46, 71, 73, 109, 149, 150, 110, 151, 188, 152, 189, 111, 112, 113, 74, 75, 12, 30, 42, 68, 31, 69, 70, 103, 104, 146, 105, 106, 147, 107, 19, 14, 36, 37, 32, 55, 87, 124, 162, 204, 33, 88, 125, 163, 164, 205, 206, 234, 245, 246, 250, 252, 207, 89, 40, 67, 90, 126, 91, 28, 59, 98, 144, 99, 60, 20, 41, 92, 56, 57, 25, 58, 93, 127, 131, 168, 169, 132, 128, 165, 129, 130, 166, 167, 208, 217, 210, 94, 133, 170, 143, 183, 134, 136, 175, 171, 209, 142, 181, 182, 174, 211, 212, 235, 236, 95, 135, 172, 173, 137, 176, 213, 214, 237, 247, 251, 253, 238, 138, 139, 140, 177, 215, 178, 179, 141, 180, 216, 96, 97, 10, 26, 27, 11, 18, 16, 21, 13, 35, 64, 34, 63, 62, 102] := by kernel_rfl
theorem closed : joinedFacts Tryz.pinned.checked.prog 6 Tryz.f6 (OpenSpec.ofChange Rows.reduceConstSpec).bare Rows.reduceConstRow = true := by
 show joinedFacts Tryz.prog 6 Tryz.f6 (OpenSpec.ofChange Rows.reduceConstSpec).bare Rows.reduceConstRow = true
 unfold joinedFacts Program.inPlace Program.unfollowed Program.recurses Program.varsNamed Program.unfollowed
 rw [hcl]
 repeat' with_reducible refine Bool.and_eq_true_iff.2 ⟨?_, ?_⟩
 all_goals as_aux_lemma => kernel_rfl
theorem goes0 : Tryz.prog.goes 6 = false := by
 unfold Program.goes Program.unfollowed
 rw [hcl]
 kernel_rfl
theorem goesN : Tryz.prog.funcNamed "cubit/cubitlaw12.ReduceConst" = some 6 := by kernel_rfl
theorem goesA : false = Rows.reduceConstRow.goesBy Tryz.pinned.checked.prog := by
 show false = ((Tryz.prog.funcNamed "cubit/cubitlaw12.ReduceConst").any Tryz.prog.goes || false)
 rw [goesN, Option.any_some, goes0]
 rfl
theorem said : Rows.ReduceConstSaid :=
 OpenClaim.holds_of_cond 6 Tryz.f6 rfl rfl rfl rfl rfl rfl rfl ⟨rfl, rfl, rfl, rfl, rfl⟩ rfl rfl rfl rfl rfl goesN Tryz.func6 closed
  (of_decide_eq_true (by kernel_rfl)) (by unfold Func.isWrapper; first | (rw [if_pos (by decide +kernel)]; kernel_rfl) | (rw [if_neg (by decide +kernel)]; exact ⟨rfl, rfl⟩))
  (fun os started H enc _ F => by rw [OpenClaim.pre_eq_preRow]; exact lifted os started H enc F)
theorem plain (f : FuncId) (fn : Func) (hf : Tryz.pinned.checked.prog.funcNamed "cubit/cubitlaw12.ReduceConst" = some f) (hfn : Tryz.pinned.checked.prog.funcs[f]? = some fn) :
  true = Tryz.pinned.checked.prog.looks [] ∧ ∀ (j : Nat) t, fn.params[j]? = some t → Tryz.pinned.checked.prog.wantsStandIn t = false := by
 obtain rfl : f = 6 := Option.some.inj (goesN.symm.trans hf) |>.symm
 obtain rfl : fn = Tryz.f6 := (Option.some.inj (Tryz.func6.symm.trans hfn)).symm
 refine ⟨by kernel_rfl, fun j t ht => ?_⟩
 rw [Tryz.params6] at ht
 have hm : t ∈ ([50, 52] : List TypeId) := by simpa using Array.mem_of_getElem? ht
 have hall : (([50, 52] : List TypeId).all fun u => !Tryz.prog.wantsStandIn u) = true := by kernel_rfl
 exact (show Tryz.prog.wantsStandIn t = false by simpa using List.all_eq_true.1 hall t hm)
theorem card : Rows.ReduceConstCardSaid :=
 Claim7.holds_tied_plain_at .later [] _ _ _ _ said (fun _ h => by cases h) (by kernel_rfl) (fun _ h => by cases h) reduceConst_row_tie rfl ⟨rfl, rfl⟩ (by kernel_rfl) rfl plain goesA
end Go.Proofs.YtgdbkigaaooifaaGreatDoor.ReduceConstRow
