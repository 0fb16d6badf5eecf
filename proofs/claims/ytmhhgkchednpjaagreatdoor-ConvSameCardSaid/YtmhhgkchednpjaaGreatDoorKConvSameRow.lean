/-
 cubit/cubitlaw13.ConvSame: the row and the tied card: it answers true for every input, and its arguments read as they did
-/
import Derived.Test.YtmhhgkchednpjaaGreatDoorKConvSameLaw
import Derived.Test.YtmhhgkchednpjaaGreatDoorKRw
set_option linter.all false
set_option maxHeartbeats 4000000
namespace Go.Proofs.YtmhhgkchednpjaaGreatDoor.ConvSameRow
open Go.ChangeShapes Go.WideShapes Go.ChangeAt Go.RowKit Go.Proofs.YtmhhgkchednpjaaGreatDoorK.AI Go.Proofs.YtmhhgkchednpjaaGreatDoorK.RowT Go.Proofs.YtmhhgkchednpjaaGreatDoorK.LawT13 Go.Proofs.YtmhhgkchednpjaaGreatDoor
theorem own : ownKnob Tryz.prog.godebug = none := by kernel_rfl
theorem lay : laidOutB Tryz.prog = true := by kernel_rfl
theorem gTab : Tryz.prog.globalNamed "internal/strconv.uint64pow10" = some 1 := by kernel_rfl
theorem tabC (H : Type) : Rows.laid_internal_strconv_uint64pow10 (H := H) = Lib.tabData .u64 Lib.pow10Tab := by kernel_rfl
theorem table {W : World} (h : laidMetH Tryz.prog Rows.convSameRow.laid W) : gPow Tryz.prog W :=
 gPow_of (t := 386) (e := 74) (n := 20) gTab (by kernel_rfl) (by kernel_rfl) (by kernel_rfl) (by kernel_rfl) (by kernel_rfl) (by kernel_rfl) (x := ("math/bits.deBruijn32tab", Rows.laid_math_bits_deBruijn32tab)) (y := ("math/bits.deBruijn64tab", Rows.laid_math_bits_deBruijn64tab)) (rest := [("unicode/utf8.acceptRanges", Rows.laid_unicode_utf8_acceptRanges), ("strconv.ErrRange", Rows.laid_strconv_ErrRange), ("strconv.ErrSyntax", Rows.laid_strconv_ErrSyntax), ("unicode/utf8.first", Rows.laid_unicode_utf8_first)])
  (by rw [← tabC]; exact h)
set_option maxRecDepth 100000 in
theorem rep_rat_Q {H : Type} {enc : TypeId × Value → H} {W : World} {base : Nat} {v : Value} {d : DataW H} {p : List MemPlace} (hval : Value.okWide Tryz.prog W .any base 28 v) (h : DataW.Trod enc Tryz.prog W 0 (fun _ => true) true 28 v d p) :
  ∃ (b0 : Bool) (a1 : List Int) (a2 : List Int), RepI (fun _ => False) W v (.agg [.bool b0, .sl a1.length (a1.map (.int .u32 ·)), .sl a2.length (a2.map (.int .u32 ·))]) ∧ (∀ z ∈ a1, (Lit.int .u32 z).wf = true) ∧ a1.length ≤ 9223372036854775807 ∧ (∀ z ∈ a2, (Lit.int .u32 z).wf = true) ∧ a2.length ≤ 9223372036854775807 := by
 obtain ⟨cs, rfl, hl, hc⟩ := cells_ok (ts := [4, 22, 22]) (n := 3) Tryz.underlying28 (by kernel_rfl) (by kernel_rfl) rfl hval
 obtain ⟨v0, v1, v2, rfl⟩ : ∃ v0 v1 v2, cs = [v0, v1, v2] := by
  match cs, hl with
  | [v0, v1, v2], _ => exact ⟨v0, v1, v2, rfl⟩
 have hT : Tr enc Tryz.prog W 28 [v0, v1, v2] := tr_of h
 have c0 := val_of_cell (by kernel_rfl) (hc 0 4 rfl)
 rw [show List.getD [v0, v1, v2] 0 undef = v0 from rfl] at c0
 have t0_0 : Tr enc Tryz.prog W 26 [v0, v1] := tr_fld2 (n := 2) 0 Tryz.underlying28 rfl rfl (by kernel_rfl) rfl hT
 have t0_1 : Tr enc Tryz.prog W 4 [v0] := tr_fld2 (n := 1) 0 Tryz.underlying26 rfl rfl (by kernel_rfl) rfl t0_0
 obtain ⟨b0, hb0⟩ := okWide_bool Tryz.underlying4 c0
 have c1 := val_of_cell (by kernel_rfl) (hc 1 22 rfl)
 rw [show List.getD [v0, v1, v2] 1 undef = v1 from rfl] at c1
 have t1_0 : Tr enc Tryz.prog W 26 [v0, v1] := tr_fld2 (n := 2) 0 Tryz.underlying28 rfl rfl (by kernel_rfl) rfl hT
 have t1_1 : Tr enc Tryz.prog W 24 [v1] := tr_fld2 (n := 1) 1 Tryz.underlying26 rfl rfl (by kernel_rfl) rfl t1_0
 have t1_2 : Tr enc Tryz.prog W 22 [v1] := tr_fld2 (n := 1) 0 Tryz.underlying24 rfl rfl (by kernel_rfl) rfl t1_1
 obtain ⟨d1, p1, h1⟩ := tr_to (cells_one (hc 1 22 rfl)) t1_2
 obtain ⟨a1, r1, w1, l1⟩ := rep_slice (k := .u32) (t := 22) (e := 169) Tryz.underlying22 Tryz.underlying169 (by kernel_rfl) c1 h1
 have c2 := val_of_cell (by kernel_rfl) (hc 2 22 rfl)
 rw [show List.getD [v0, v1, v2] 2 undef = v2 from rfl] at c2
 have t2_0 : Tr enc Tryz.prog W 24 [v2] := tr_fld2 (n := 1) 1 Tryz.underlying28 rfl rfl (by kernel_rfl) rfl hT
 have t2_1 : Tr enc Tryz.prog W 22 [v2] := tr_fld2 (n := 1) 0 Tryz.underlying24 rfl rfl (by kernel_rfl) rfl t2_0
 obtain ⟨d2, p2, h2⟩ := tr_to (cells_one (hc 2 22 rfl)) t2_1
 obtain ⟨a2, r2, w2, l2⟩ := rep_slice (k := .u32) (t := 22) (e := 169) Tryz.underlying22 Tryz.underlying169 (by kernel_rfl) c2 h2
 subst hb0
 refine ⟨b0, a1, a2, agg_rep rfl (fun i e hi => ?_), w1, l1, w2, l2⟩
 match i, hi with
 | 0, hi => cases hi; exact .bool _
 | 1, hi => cases hi; exact r1
 | 2, hi => cases hi; exact r2
set_option maxRecDepth 100000 in
theorem rep_arg91 {H : Type} {enc : TypeId × Value → H} {W : World} {base : Nat} {v : Value} {d : DataW H} {q : List MemPlace} (hval : Value.okWide Tryz.prog W .any base 91 v) (h : DataW.Trod enc Tryz.prog W 0 (fun _ => true) true 91 v d q) :
  ∃ (a : List Int) (P Q : Int) (b : Bool) (x y : List Int) (c : Bool), RepI (fun _ => False) W v (.agg (a.map (.int .i64) ++ [.int .i64 P, .int .i64 Q, .bool b, .sl x.length (x.map (.int .u32)), .sl y.length (y.map (.int .u32)), .bool c])) ∧ a.length = 8 ∧ (Lit.int .i64 P).wf = true ∧ (Lit.int .i64 Q).wf = true ∧ (∀ z ∈ x, (Lit.int .u32 z).wf = true) ∧ x.length ≤ 9223372036854775807 ∧ (∀ z ∈ y, (Lit.int .u32 z).wf = true) ∧ y.length ≤ 9223372036854775807 := by
 obtain ⟨n, ds, hr, hc⟩ := arg_agg lay (of_decide_eq_true (by kernel_rfl)) (by kernel_rfl) hval h
 obtain ⟨m, parts, rfl, hq⟩ := hc.fields Tryz.underlying91 (show _ = [60, 2, 2, 28, 4] by kernel_rfl)
 obtain ⟨p0, p1, p2, p3, p4, rfl, c0, c1, c2, c3, c4⟩ := AllC.five hq
 obtain ⟨a, rfl, ha, _⟩ := c0.ints Tryz.underlying60 Tryz.underlying3
 obtain ⟨P, rfl, hP⟩ := c1.int Tryz.underlying2
 obtain ⟨Q, rfl, hQ⟩ := c2.int Tryz.underlying2
 obtain ⟨b, x, y, rfl, x1, x2, y1, y2⟩ := c3.rat Tryz.underlying28 (show _ = [26, 24] by kernel_rfl) Tryz.underlying26 (show _ = [4, 24] by kernel_rfl) Tryz.underlying4 Tryz.underlying24 (show _ = [22] by kernel_rfl) Tryz.underlying22 Tryz.underlying169
 obtain ⟨c, rfl⟩ := c4.bool Tryz.underlying4
 exact ⟨a, P, Q, b, x, y, c, by simpa using hr, ha, hP, hQ, x1, x2, y1, y2⟩
theorem reads0 : (Tryz.f11.params.toList.all fun t => Tryz.prog.readableRec t && decide (t < Tryz.prog.types.size)) = true := by kernel_rfl
set_option maxRecDepth 100000 in
theorem contract (H : Type) (enc : TypeId × Value → H) (W : World) (base : Nat) (args : Array Value) (ds gs : List (DataW H)) (before : List MemPlace)
  (hval : ∀ (j : Nat) t v, Tryz.f11.params[j]? = some t → args[j]? = some v → Value.okWide Tryz.prog W .any base t v)
  (hW : DataW.Whole enc Tryz.prog Tryz.f11.params.toList Rows.convSameSpec.vars false W args.toList ds gs before) (hL : laidMetH Tryz.prog Rows.convSameRow.laid W) (hS : W.ShapedOpen Tryz.prog) :
  Calls Tryz.prog 11 args W fun e W' => ∃ v, e = .returned v ∧ Rows.convSameSpec.post enc Tryz.prog Tryz.f11 false true false false W args v W' := by
 have hW' := hW
 obtain ⟨p, q, hA, hV, rfl, _, _⟩ := hW
 rw [Tryz.params11] at hA hval
 obtain ⟨v0, vs0, d0, ds0, p0, q0, hargs, rfl, rfl, h0, r0⟩ := trodAll_cons hA
 obtain ⟨v1, vs1, d1, ds1, p1, q1, rfl, rfl, rfl, h1, r1⟩ := trodAll_cons r0
 obtain ⟨rfl, rfl, rfl⟩ := trodAll_nil r1
 obtain rfl : args = #[v0, v1] := by cases args; simp_all
 obtain ⟨rfl, rfl⟩ := trodVars_none hV
 obtain ⟨x0a, x0b, x0c, ra0, w0b, l0b, w0c, l0c⟩ := rep_rat_Q (hval 0 28 v0 rfl rfl) h0
 obtain ⟨a1, P1, Q1, b1, x1, y1, c1, ra1, ha1, hP1, hQ1, wx1, lx1, wy1, ly1⟩ := rep_arg91 (hval 1 91 v1 rfl rfl) h1
 have hl := pcr_same_law (G := gAll) (gAll_stable gTab) (fun _ h => h.1) (fun _ h => h.2) x0a x0b _ rfl (wf_ok w0b ⟨rfl, rfl⟩) l0b x0c _ rfl (wf_ok w0c ⟨rfl, rfl⟩) l0c a1 ha1 P1 (bnd hP1 ⟨rfl, rfl⟩) Q1 (bnd hQ1 ⟨rfl, rfl⟩) b1 x1 _ rfl (wf_ok wx1 ⟨rfl, rfl⟩) lx1 y1 _ rfl (wf_ok wy1 ⟨rfl, rfl⟩) ly1 c1
 refine (calls_true hl ⟨table hL, gMax_of hS⟩ rfl (cons_arg ra0 (cons_arg ra1 no_arg))).mono fun e W' ⟨he, hB⟩ => ?_
 exact ⟨_, he, post_true (tb := 4) lay reads0 (by kernel_rfl) Tryz.underlying4 rfl ⟨rfl, rfl, rfl⟩ hW' hB⟩
noncomputable def wit (os : Os) : World := World.laidAll Tryz.prog os Rows.convSameRow.laid
def zs : Array Value := #[.agg #[.bool false, .slice none 0 0, .slice none 0 0], .agg #[.int .i64 0, .int .i64 0, .int .i64 0, .int .i64 0, .int .i64 0, .int .i64 0, .int .i64 0, .int .i64 0, .int .i64 0, .int .i64 0, .bool false, .slice none 0 0, .slice none 0 0, .bool false]]
theorem reads (os : Os) {H : Type} (enc : TypeId × Value → H) : ∃ places, DataW.whole enc Tryz.prog ((wit os).forCall (fun _ _ => 0) ⟨#[], zs, []⟩).memory Tryz.f11.params.toList Rows.convSameSpec.vars false zs.toList 8 = some ([.agg [.agg [.lit (.bool false), .agg [.nil]], .agg [.nil]], .agg [.agg [.lit (.int .i64 0), .lit (.int .i64 0), .lit (.int .i64 0), .lit (.int .i64 0), .lit (.int .i64 0), .lit (.int .i64 0), .lit (.int .i64 0), .lit (.int .i64 0)], .lit (.int .i64 0), .lit (.int .i64 0), .agg [.agg [.lit (.bool false), .agg [.nil]], .agg [.nil]], .lit (.bool false)]], [], places) :=
 ⟨[], by kernel_rfl⟩
theorem laid_met (os : Os) : laidMetH Tryz.prog Rows.convSameRow.laid ((wit os).forCall (fun _ _ => 0) ⟨#[], zs, []⟩).memory := by
 rw [MakeChecks.laidMetH_plain _ _ _ (by kernel_rfl)]
 exact laidMet_laidAll _ (by kernel_rfl) (by kernel_rfl)
set_option maxRecDepth 100000 in
theorem lifted (os : Os) (started : os.Started) (H : Type) (enc : TypeId × Value → H) (F : Stop.Interp) :
  ReturnsInHanded {} Tryz.checked os 11 .any ((OpenSpec.ofChange Rows.convSameSpec).preRow enc Tryz.prog Tryz.f11 Rows.convSameRow.domain false Rows.convSameRow.laid) (((OpenSpec.ofChange Rows.convSameSpec).at F).post enc Tryz.prog Tryz.f11 false true false false) := by
 obtain ⟨places, hx⟩ := reads os enc
 refine returnsInHanded_of_row (C := Tryz.checked) (s := OpenSpec.ofChange Rows.convSameSpec) own started (by kernel_rfl) Tryz.func11
  ⟨wit os, fun _ _ => 0, ⟨#[], zs, []⟩, World.laidAll_os _ _ _, World.shaped_of_ZipB (by kernel_rfl) (by kernel_rfl), rfl, (Input.okWide_of_okWideB (by kernel_rfl)).2,
   OpenSpec.preRow_of_cond 8 hx (by kernel_rfl) (fun k hk => by cases hk) (by kernel_rfl) (laid_met os), by simp only [Assume.holds]; exact ⟨by simp, by simp, fun _ => Modest.zero, by simp, by simp⟩⟩ ?_
 intro W base args ds gs before hval hW _ _ _ hL hS _
 exact contract H enc W base args ds gs before hval hW hL hS
theorem hcl : Tryz.prog.closure 11 = [11, 41, 52, 51, 57, 117, 170, 215, 258, 259, 291, 216, 260, 217, 254, 281, 303, 282, 283, 284, 304, 118, 171, 218, 119, 172, 219, 120, 58, 121, 59, 122, 123, 173, 178, 221, 261, 212, 255, 191, 238, 237, 239, 241, 272, 240, 243, 274, 296, 273, 295, 309, 310, 242, 129, 174, 175, 61, 176, 220, 25, 76, 34, 87, 143, 197, 247, 164, 88, 148, 80, 177, 124, 167, 168, 213, 256, 285, 286, 257, 287, 305, 288, 289, 151, 205, 251, 277, 278, 299, 298, 300, 279, 280, 301, 302, 312, 313, 306, 290, 179, 91, 144, 92, 150, 152, 206, 252, 253, 132, 195, 245, 196, 246, 133, 207, 134, 153, 63, 32, 84, 67, 112, 85, 113, 136, 165, 199, 248, 200, 201, 249, 202, 38, 33, 86, 71, 72, 125, 180, 115, 166, 211, 77, 181, 62, 130, 131, 192, 193, 244, 275, 276, 297, 311, 194, 182, 89, 149, 183, 222, 184, 83, 146, 203, 250, 204, 147, 39, 90, 185, 126, 127, 60, 128, 186, 223, 226, 263, 264, 227, 224, 262, 225, 104, 96, 97, 156, 210, 208, 187, 228, 265, 236, 271, 229, 105, 162, 103, 107, 100, 158, 159, 95, 154, 155, 163, 209, 188, 230, 266, 267, 231, 268, 292, 293, 307, 314, 315, 316, 308, 232, 233, 234, 157, 94, 98, 269, 235, 270, 294, 189, 190, 54, 19, 114, 35, 30, 81, 82, 31, 46, 42, 93, 99, 68, 138, 137, 198, 69, 139, 37, 43, 44, 48, 106, 50, 110, 111, 23] := by kernel_rfl
theorem closed : joinedFacts Tryz.pinned.checked.prog 11 Tryz.f11 (OpenSpec.ofChange Rows.convSameSpec).bare Rows.convSameRow = true := by
 show joinedFacts Tryz.prog 11 Tryz.f11 (OpenSpec.ofChange Rows.convSameSpec).bare Rows.convSameRow = true
 unfold joinedFacts Program.inPlace Program.unfollowed Program.recurses Program.varsNamed Program.unfollowed
 rw [hcl]
 repeat' with_reducible refine Bool.and_eq_true_iff.2 ⟨?_, ?_⟩
 all_goals as_aux_lemma => kernel_rfl
theorem goes0 : Tryz.prog.goes 11 = false := by
 unfold Program.goes Program.unfollowed
 rw [hcl]
 kernel_rfl
theorem goesN : Tryz.prog.funcNamed "cubit/cubitlaw13.ConvSame" = some 11 := by kernel_rfl
theorem goesA : false = Rows.convSameRow.goesBy Tryz.pinned.checked.prog := by
 show false = ((Tryz.prog.funcNamed "cubit/cubitlaw13.ConvSame").any Tryz.prog.goes || false)
 rw [goesN, Option.any_some, goes0]
 rfl
theorem said : Rows.ConvSameSaid :=
 OpenClaim.holds_of_cond 11 Tryz.f11 rfl rfl rfl rfl rfl rfl rfl ⟨rfl, rfl, rfl, rfl, rfl⟩ rfl rfl rfl rfl rfl goesN Tryz.func11 closed
  (of_decide_eq_true (by kernel_rfl)) (by unfold Func.isWrapper; first | (rw [if_pos (by decide +kernel)]; kernel_rfl) | (rw [if_neg (by decide +kernel)]; exact ⟨rfl, rfl⟩))
  (fun os started H enc _ F => by rw [OpenClaim.pre_eq_preRow]; exact lifted os started H enc F)
theorem plain (f : FuncId) (fn : Func) (hf : Tryz.pinned.checked.prog.funcNamed "cubit/cubitlaw13.ConvSame" = some f) (hfn : Tryz.pinned.checked.prog.funcs[f]? = some fn) :
  true = Tryz.pinned.checked.prog.looks [] ∧ ∀ (j : Nat) t, fn.params[j]? = some t → Tryz.pinned.checked.prog.wantsStandIn t = false := by
 obtain rfl : f = 11 := Option.some.inj (goesN.symm.trans hf) |>.symm
 obtain rfl : fn = Tryz.f11 := (Option.some.inj (Tryz.func11.symm.trans hfn)).symm
 refine ⟨by kernel_rfl, fun j t ht => ?_⟩
 rw [Tryz.params11] at ht
 have hm : t ∈ ([28, 91] : List TypeId) := by simpa using Array.mem_of_getElem? ht
 have hall : (([28, 91] : List TypeId).all fun u => !Tryz.prog.wantsStandIn u) = true := by kernel_rfl
 exact (show Tryz.prog.wantsStandIn t = false by simpa using List.all_eq_true.1 hall t hm)
theorem card : Rows.ConvSameCardSaid :=
 Claim7.holds_tied_plain_at .later [] _ _ _ _ said (fun _ h => by cases h) (by kernel_rfl) (fun _ h => by cases h) convSame_row_tie rfl ⟨rfl, rfl⟩ (by kernel_rfl) rfl plain goesA
end Go.Proofs.YtmhhgkchednpjaaGreatDoor.ConvSameRow
