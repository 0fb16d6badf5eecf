/-
 cubit/cubitlaw13.ConvBack: the row and the tied card: it answers true for every input, and its arguments read as they did
-/
import Derived.Test.YtodinbldpcldiaaGreatDoorKConvBackLaw
import Derived.Test.YtodinbldpcldiaaGreatDoorKRw
set_option linter.all false
set_option maxHeartbeats 4000000
namespace Go.Proofs.YtodinbldpcldiaaGreatDoor.ConvBackRow
open Go.ChangeShapes Go.WideShapes Go.ChangeAt Go.RowKit Go.Proofs.YtodinbldpcldiaaGreatDoorK.AI Go.Proofs.YtodinbldpcldiaaGreatDoorK.RowT Go.Proofs.YtodinbldpcldiaaGreatDoorK.LawT13 Go.Proofs.YtodinbldpcldiaaGreatDoor
theorem own : ownKnob Tryz.prog.godebug = none := by kernel_rfl
theorem lay : laidOutB Tryz.prog = true := by kernel_rfl
theorem gTab : Tryz.prog.globalNamed "internal/strconv.uint64pow10" = some 1 := by kernel_rfl
theorem tabC (H : Type) : Rows.laid_internal_strconv_uint64pow10 (H := H) = Lib.tabData .u64 Lib.pow10Tab := by kernel_rfl
theorem table {W : World} (h : laidMetH Tryz.prog Rows.convBackRow.laid W) : gPow Tryz.prog W :=
 gPow_of (t := 348) (e := 81) (n := 20) gTab (by kernel_rfl) (by kernel_rfl) (by kernel_rfl) (by kernel_rfl) (by kernel_rfl) (by kernel_rfl) (x := ("math/bits.deBruijn32tab", Rows.laid_math_bits_deBruijn32tab)) (y := ("math/bits.deBruijn64tab", Rows.laid_math_bits_deBruijn64tab)) (rest := [("unicode/utf8.acceptRanges", Rows.laid_unicode_utf8_acceptRanges), ("strconv.ErrRange", Rows.laid_strconv_ErrRange), ("strconv.ErrSyntax", Rows.laid_strconv_ErrSyntax), ("unicode/utf8.first", Rows.laid_unicode_utf8_first)])
  (by rw [← tabC]; exact h)
set_option maxRecDepth 100000 in
theorem rep_rat_Q {H : Type} {enc : TypeId × Value → H} {W : World} {base : Nat} {v : Value} {d : DataW H} {p : List MemPlace} (hval : Value.okWide Tryz.prog W .any base 28 v) (h : DataW.Trod enc Tryz.prog W 0 (fun _ => true) true 28 v d p) :
  ∃ (b0 : Bool) (a1 : List Int) (a2 : List Int), RepI (fun _ => False) W v (.agg [.bool b0, .sl a1.length (a1.map (.int .u32 ·)), .sl a2.length (a2.map (.int .u32 ·))]) ∧ (∀ z ∈ a1, (Lit.int .u32 z).wf = true) ∧ a1.length ≤ 9223372036854775807 ∧ (∀ z ∈ a2, (Lit.int .u32 z).wf = true) ∧ a2.length ≤ 9223372036854775807 := by
 obtain ⟨cs, rfl, hl, hc⟩ := cells_ok (ts := [4, 22, 22]) (n := 3) Tryz.underlying28 (by kernel_rfl) (by kernel_rfl) rfl hval
 obtain ⟨v0, v1, v2, rfl⟩ : ∃ v0 v1 v2, cs = [v0, v1, v2] := by
  match cs, hl with
  | [v0, v1, v2], _ => exact ⟨v0, v1, v2, rfl⟩
 have hT : Tr enc Tryz.prog W 28 [v0, v1, v2] := tr_of h
 have c0 := val_of_cell (by kernel_rfl) (hc 0 4 rfl)
 rw [show List.getD [v0, v1, v2] 0 undef = v0 from rfl] at c0
 have t0_0 : Tr enc Tryz.prog W 26 [v0, v1] := tr_fld2 (n := 2) 0 Tryz.underlying28 rfl rfl (by kernel_rfl) rfl hT
 have t0_1 : Tr enc Tryz.prog W 4 [v0] := tr_fld2 (n := 1) 0 Tryz.underlying26 rfl rfl (by kernel_rfl) rfl t0_0
 obtain ⟨b0, hb0⟩ := okWide_bool Tryz.underlying4 c0
 have c1 := val_of_cell (by kernel_rfl) (hc 1 22 rfl)
 rw [show List.getD [v0, v1, v2] 1 undef = v1 from rfl] at c1
 have t1_0 : Tr enc Tryz.prog W 26 [v0, v1] := tr_fld2 (n := 2) 0 Tryz.underlying28 rfl rfl (by kernel_rfl) rfl hT
 have t1_1 : Tr enc Tryz.prog W 24 [v1] := tr_fld2 (n := 1) 1 Tryz.underlying26 rfl rfl (by kernel_rfl) rfl t1_0
 have t1_2 : Tr enc Tryz.prog W 22 [v1] := tr_fld2 (n := 1) 0 Tryz.underlying24 rfl rfl (by kernel_rfl) rfl t1_1
 obtain ⟨d1, p1, h1⟩ := tr_to (cells_one (hc 1 22 rfl)) t1_2
 obtain ⟨a1, r1, w1, l1⟩ := rep_slice (k := .u32) (t := 22) (e := 146) Tryz.underlying22 Tryz.underlying146 (by kernel_rfl) c1 h1
 have c2 := val_of_cell (by kernel_rfl) (hc 2 22 rfl)
 rw [show List.getD [v0, v1, v2] 2 undef = v2 from rfl] at c2
 have t2_0 : Tr enc Tryz.prog W 24 [v2] := tr_fld2 (n := 1) 1 Tryz.underlying28 rfl rfl (by kernel_rfl) rfl hT
 have t2_1 : Tr enc Tryz.prog W 22 [v2] := tr_fld2 (n := 1) 0 Tryz.underlying24 rfl rfl (by kernel_rfl) rfl t2_0
 obtain ⟨d2, p2, h2⟩ := tr_to (cells_one (hc 2 22 rfl)) t2_1
 obtain ⟨a2, r2, w2, l2⟩ := rep_slice (k := .u32) (t := 22) (e := 146) Tryz.underlying22 Tryz.underlying146 (by kernel_rfl) c2 h2
 subst hb0
 refine ⟨b0, a1, a2, agg_rep rfl (fun i e hi => ?_), w1, l1, w2, l2⟩
 match i, hi with
 | 0, hi => cases hi; exact .bool _
 | 1, hi => cases hi; exact r1
 | 2, hi => cases hi; exact r2
set_option maxRecDepth 100000 in
theorem rep_arg31 {H : Type} {enc : TypeId × Value → H} {W : World} {base : Nat} {v : Value} {d : DataW H} {q : List MemPlace} (hval : Value.okWide Tryz.prog W .any base 31 v) (h : DataW.Trod enc Tryz.prog W 0 (fun _ => true) true 31 v d q) :
  ∃ (a : List Int) (P Q : Int) (b : Bool) (x y : List Int) (c : Bool), RepI (fun _ => False) W v (.agg (a.map (.int .i64) ++ [.int .i64 P, .int .i64 Q, .bool b, .sl x.length (x.map (.int .u32)), .sl y.length (y.map (.int .u32)), .bool c])) ∧ a.length = 8 ∧ (Lit.int .i64 P).wf = true ∧ (Lit.int .i64 Q).wf = true ∧ (∀ z ∈ x, (Lit.int .u32 z).wf = true) ∧ x.length ≤ 9223372036854775807 ∧ (∀ z ∈ y, (Lit.int .u32 z).wf = true) ∧ y.length ≤ 9223372036854775807 := by
 obtain ⟨n, ds, hr, hc⟩ := arg_agg lay (of_decide_eq_true (by kernel_rfl)) (by kernel_rfl) hval h
 obtain ⟨m, parts, rfl, hq⟩ := hc.fields Tryz.underlying31 (show _ = [29, 2, 2, 28, 4] by kernel_rfl)
 obtain ⟨p0, p1, p2, p3, p4, rfl, c0, c1, c2, c3, c4⟩ := AllC.five hq
 obtain ⟨a, rfl, ha, _⟩ := c0.ints Tryz.underlying29 Tryz.underlying3
 obtain ⟨P, rfl, hP⟩ := c1.int Tryz.underlying2
 obtain ⟨Q, rfl, hQ⟩ := c2.int Tryz.underlying2
 obtain ⟨b, x, y, rfl, x1, x2, y1, y2⟩ := c3.rat Tryz.underlying28 (show _ = [26, 24] by kernel_rfl) Tryz.underlying26 (show _ = [4, 24] by kernel_rfl) Tryz.underlying4 Tryz.underlying24 (show _ = [22] by kernel_rfl) Tryz.underlying22 Tryz.underlying146
 obtain ⟨c, rfl⟩ := c4.bool Tryz.underlying4
 exact ⟨a, P, Q, b, x, y, c, by simpa using hr, ha, hP, hQ, x1, x2, y1, y2⟩
theorem reads0 : (Tryz.f4.params.toList.all fun t => Tryz.prog.readableRec t && decide (t < Tryz.prog.types.size)) = true := by kernel_rfl
set_option maxRecDepth 100000 in
theorem contract (H : Type) (enc : TypeId × Value → H) (W : World) (base : Nat) (args : Array Value) (ds gs : List (DataW H)) (before : List MemPlace)
  (hval : ∀ (j : Nat) t v, Tryz.f4.params[j]? = some t → args[j]? = some v → Value.okWide Tryz.prog W .any base t v)
  (hW : DataW.Whole enc Tryz.prog Tryz.f4.params.toList Rows.convBackSpec.vars false W args.toList ds gs before) (hL : laidMetH Tryz.prog Rows.convBackRow.laid W) (hS : W.ShapedOpen Tryz.prog) :
  Calls Tryz.prog 4 args W fun e W' => ∃ v, e = .returned v ∧ Rows.convBackSpec.post enc Tryz.prog Tryz.f4 false true false false W args v W' := by
 have hW' := hW
 obtain ⟨p, q, hA, hV, rfl, _, _⟩ := hW
 rw [Tryz.params4] at hA hval
 obtain ⟨v0, vs0, d0, ds0, p0, q0, hargs, rfl, rfl, h0, r0⟩ := trodAll_cons hA
 obtain ⟨v1, vs1, d1, ds1, p1, q1, rfl, rfl, rfl, h1, r1⟩ := trodAll_cons r0
 obtain ⟨v2, vs2, d2, ds2, p2, q2, rfl, rfl, rfl, h2, r2⟩ := trodAll_cons r1
 obtain ⟨v3, vs3, d3, ds3, p3, q3, rfl, rfl, rfl, h3, r3⟩ := trodAll_cons r2
 obtain ⟨rfl, rfl, rfl⟩ := trodAll_nil r3
 obtain rfl : args = #[v0, v1, v2, v3] := by cases args; simp_all
 obtain ⟨rfl, rfl⟩ := trodVars_none hV
 obtain ⟨x0a, x0b, x0c, ra0, w0b, l0b, w0c, l0c⟩ := rep_rat_Q (hval 0 28 v0 rfl rfl) h0
 obtain ⟨a1, P1, Q1, b1, x1, y1, c1, ra1, ha1, hP1, hQ1, wx1, lx1, wy1, ly1⟩ := rep_arg31 (hval 1 31 v1 rfl rfl) h1
 obtain ⟨a2, P2, Q2, b2, x2, y2, c2, ra2, ha2, hP2, hQ2, wx2, lx2, wy2, ly2⟩ := rep_arg31 (hval 2 31 v2 rfl rfl) h2
 obtain ⟨a3, P3, Q3, b3, x3, y3, c3, ra3, ha3, hP3, hQ3, wx3, lx3, wy3, ly3⟩ := rep_arg31 (hval 3 31 v3 rfl rfl) h3
 have hl := pcr_back_law (G := gAll) (gAll_stable gTab) (fun _ h => h.1) (fun _ h => h.2) x0a x0b _ rfl (wf_ok w0b ⟨rfl, rfl⟩) l0b x0c _ rfl (wf_ok w0c ⟨rfl, rfl⟩) l0c a1 ha1 P1 (bnd hP1 ⟨rfl, rfl⟩) Q1 (bnd hQ1 ⟨rfl, rfl⟩) b1 x1 _ rfl (wf_ok wx1 ⟨rfl, rfl⟩) lx1 y1 _ rfl (wf_ok wy1 ⟨rfl, rfl⟩) ly1 c1 a2 ha2 P2 (bnd hP2 ⟨rfl, rfl⟩) Q2 (bnd hQ2 ⟨rfl, rfl⟩) b2 x2 _ rfl (wf_ok wx2 ⟨rfl, rfl⟩) lx2 y2 _ rfl (wf_ok wy2 ⟨rfl, rfl⟩) ly2 c2 a3 ha3 P3 (bnd hP3 ⟨rfl, rfl⟩) Q3 (bnd hQ3 ⟨rfl, rfl⟩) b3 x3 _ rfl (wf_ok wx3 ⟨rfl, rfl⟩) lx3 y3 _ rfl (wf_ok wy3 ⟨rfl, rfl⟩) ly3 c3
 refine (calls_true hl ⟨table hL, gMax_of hS⟩ rfl (cons_arg ra0 (cons_arg ra1 (cons_arg ra2 (cons_arg ra3 no_arg))))).mono fun e W' ⟨he, hB⟩ => ?_
 exact ⟨_, he, post_true (tb := 4) lay reads0 (by kernel_rfl) Tryz.underlying4 rfl ⟨rfl, rfl, rfl⟩ hW' hB⟩
noncomputable def wit (os : Os) : World := World.laidAll Tryz.prog os Rows.convBackRow.laid
def zs : Array Value := #[.agg #[.bool false, .slice none 0 0, .slice none 0 0], .agg #[.int .i64 0, .int .i64 0, .int .i64 0, .int .i64 0, .int .i64 0, .int .i64 0, .int .i64 0, .int .i64 0, .int .i64 0, .int .i64 0, .bool false, .slice none 0 0, .slice none 0 0, .bool false], .agg #[.int .i64 0, .int .i64 0, .int .i64 0, .int .i64 0, .int .i64 0, .int .i64 0, .int .i64 0, .int .i64 0, .int .i64 0, .int .i64 0, .bool false, .slice none 0 0, .slice none 0 0, .bool false], .agg #[.int .i64 0, .int .i64 0, .int .i64 0, .int .i64 0, .int .i64 0, .int .i64 0, .int .i64 0, .int .i64 0, .int .i64 0, .int .i64 0, .bool false, .slice none 0 0, .slice none 0 0, .bool false]]
theorem reads (os : Os) {H : Type} (enc : TypeId × Value → H) : ∃ places, DataW.whole enc Tryz.prog ((wit os).forCall (fun _ _ => 0) ⟨#[], zs, []⟩).memory Tryz.f4.params.toList Rows.convBackSpec.vars false zs.toList 8 = some ([.agg [.agg [.lit (.bool false), .agg [.nil]], .agg [.nil]], .agg [.agg [.lit (.int .i64 0), .lit (.int .i64 0), .lit (.int .i64 0), .lit (.int .i64 0), .lit (.int .i64 0), .lit (.int .i64 0), .lit (.int .i64 0), .lit (.int .i64 0)], .lit (.int .i64 0), .lit (.int .i64 0), .agg [.agg [.lit (.bool false), .agg [.nil]], .agg [.nil]], .lit (.bool false)], .agg [.agg [.lit (.int .i64 0), .lit (.int .i64 0), .lit (.int .i64 0), .lit (.int .i64 0), .lit (.int .i64 0), .lit (.int .i64 0), .lit (.int .i64 0), .lit (.int .i64 0)], .lit (.int .i64 0), .lit (.int .i64 0), .agg [.agg [.lit (.bool false), .agg [.nil]], .agg [.nil]], .lit (.bool false)], .agg [.agg [.lit (.int .i64 0), .lit (.int .i64 0), .lit (.int .i64 0), .lit (.int .i64 0), .lit (.int .i64 0), .lit (.int .i64 0), .lit (.int .i64 0), .lit (.int .i64 0)], .lit (.int .i64 0), .lit (.int .i64 0), .agg [.agg [.lit (.bool false), .agg [.nil]], .agg [.nil]], .lit (.bool false)]], [], places) :=
 ⟨[], by kernel_rfl⟩
theorem laid_met (os : Os) : laidMetH Tryz.prog Rows.convBackRow.laid ((wit os).forCall (fun _ _ => 0) ⟨#[], zs, []⟩).memory := by
 rw [MakeChecks.laidMetH_plain _ _ _ (by kernel_rfl)]
 exact laidMet_laidAll _ (by kernel_rfl) (by kernel_rfl)
set_option maxRecDepth 100000 in
theorem lifted (os : Os) (started : os.Started) (H : Type) (enc : TypeId × Value → H) (F : Stop.Interp) :
  ReturnsInHanded {} Tryz.checked os 4 .any ((OpenSpec.ofChange Rows.convBackSpec).preRow enc Tryz.prog Tryz.f4 Rows.convBackRow.domain false Rows.convBackRow.laid) (((OpenSpec.ofChange Rows.convBackSpec).at F).post enc Tryz.prog Tryz.f4 false true false false) := by
 obtain ⟨places, hx⟩ := reads os enc
 refine returnsInHanded_of_row (C := Tryz.checked) (s := OpenSpec.ofChange Rows.convBackSpec) own started (by kernel_rfl) Tryz.func4
  ⟨wit os, fun _ _ => 0, ⟨#[], zs, []⟩, World.laidAll_os _ _ _, World.shaped_of_ZipB (by kernel_rfl) (by kernel_rfl), rfl, (Input.okWide_of_okWideB (by kernel_rfl)).2,
   OpenSpec.preRow_of_cond 8 hx (by kernel_rfl) (fun k hk => by cases hk) (by kernel_rfl) (laid_met os), by simp only [Assume.holds]; exact ⟨by simp, by simp, fun _ => Modest.zero, by simp, by simp⟩⟩ ?_
 intro W base args ds gs before hval hW _ _ _ hL hS _
 exact contract H enc W base args ds gs before hval hW hL hS
theorem hcl : Tryz.prog.closure 4 = [4, 6, 18, 17, 56, 92, 126, 167, 211, 212, 239, 168, 213, 169, 214, 240, 262, 241, 242, 243, 263, 93, 127, 170, 94, 128, 171, 95, 57, 96, 58, 97, 98, 129, 134, 173, 215, 174, 216, 150, 194, 193, 195, 197, 228, 196, 199, 230, 249, 229, 248, 266, 267, 198, 104, 130, 131, 60, 132, 172, 21, 26, 27, 71, 70, 119, 164, 88, 52, 89, 54, 133, 99, 135, 154, 201, 233, 251, 252, 234, 253, 269, 254, 255, 112, 159, 207, 235, 236, 258, 257, 259, 237, 238, 260, 261, 271, 272, 270, 256, 136, 66, 91, 67, 111, 113, 160, 208, 209, 107, 155, 202, 156, 203, 108, 161, 109, 114, 62, 137, 65, 25, 51, 68, 53, 69, 90, 115, 162, 116, 117, 163, 118, 34, 35, 77, 78, 175, 100, 138, 176, 217, 244, 55, 139, 61, 105, 106, 151, 152, 200, 231, 232, 250, 268, 153, 140, 142, 178, 141, 177, 143, 75, 123, 165, 210, 166, 124, 32, 158, 144, 101, 102, 59, 103, 145, 179, 182, 219, 220, 183, 180, 218, 181, 43, 29, 30, 74, 122, 120, 146, 184, 221, 192, 227, 185, 44, 86, 42, 46, 39, 82, 83, 28, 72, 73, 87, 121, 147, 186, 222, 223, 187, 224, 245, 246, 264, 273, 274, 275, 265, 188, 189, 190, 76, 24, 33, 225, 191, 226, 247, 148, 149, 22, 19, 64, 110, 157, 204, 205, 206, 11, 9, 31, 37, 36, 80, 79, 125, 38, 81, 23, 7, 8, 13, 45, 15, 49, 50, 16] := by kernel_rfl
theorem closed : joinedFacts Tryz.pinned.checked.prog 4 Tryz.f4 (OpenSpec.ofChange Rows.convBackSpec).bare Rows.convBackRow = true := by
 show joinedFacts Tryz.prog 4 Tryz.f4 (OpenSpec.ofChange Rows.convBackSpec).bare Rows.convBackRow = true
 unfold joinedFacts Program.inPlace Program.unfollowed Program.recurses Program.varsNamed Program.unfollowed
 rw [hcl]
 repeat' with_reducible refine Bool.and_eq_true_iff.2 ⟨?_, ?_⟩
 all_goals as_aux_lemma => kernel_rfl
theorem goes0 : Tryz.prog.goes 4 = false := by
 unfold Program.goes Program.unfollowed
 rw [hcl]
 kernel_rfl
theorem goesN : Tryz.prog.funcNamed "cubit/cubitlaw13.ConvBack" = some 4 := by kernel_rfl
theorem goesA : false = Rows.convBackRow.goesBy Tryz.pinned.checked.prog := by
 show false = ((Tryz.prog.funcNamed "cubit/cubitlaw13.ConvBack").any Tryz.prog.goes || false)
 rw [goesN, Option.any_some, goes0]
 rfl
theorem said : Rows.ConvBackSaid :=
 OpenClaim.holds_of_cond 4 Tryz.f4 rfl rfl rfl rfl rfl rfl rfl ⟨rfl, rfl, rfl, rfl, rfl⟩ rfl rfl rfl rfl rfl goesN Tryz.func4 closed
  (of_decide_eq_true (by kernel_rfl)) (by unfold Func.isWrapper; first | (rw [if_pos (by decide +kernel)]; kernel_rfl) | (rw [if_neg (by decide +kernel)]; exact ⟨rfl, rfl⟩))
  (fun os started H enc _ F => by rw [OpenClaim.pre_eq_preRow]; exact lifted os started H enc F)
theorem plain (f : FuncId) (fn : Func) (hf : Tryz.pinned.checked.prog.funcNamed "cubit/cubitlaw13.ConvBack" = some f) (hfn : Tryz.pinned.checked.prog.funcs[f]? = some fn) :
  true = Tryz.pinned.checked.prog.looks [] ∧ ∀ (j : Nat) t, fn.params[j]? = some t → Tryz.pinned.checked.prog.wantsStandIn t = false := by
 obtain rfl : f = 4 := Option.some.inj (goesN.symm.trans hf) |>.symm
 obtain rfl : fn = Tryz.f4 := (Option.some.inj (Tryz.func4.symm.trans hfn)).symm
 refine ⟨by kernel_rfl, fun j t ht => ?_⟩
 rw [Tryz.params4] at ht
 have hm : t ∈ ([28, 31, 31, 31] : List TypeId) := by simpa using Array.mem_of_getElem? ht
 have hall : (([28, 31, 31, 31] : List TypeId).all fun u => !Tryz.prog.wantsStandIn u) = true := by kernel_rfl
 exact (show Tryz.prog.wantsStandIn t = false by simpa using List.all_eq_true.1 hall t hm)
theorem card : Rows.ConvBackCardSaid :=
 Claim7.holds_tied_plain_at .later [] _ _ _ _ said (fun _ h => by cases h) (by kernel_rfl) (fun _ h => by cases h) convBack_row_tie rfl ⟨rfl, rfl⟩ (by kernel_rfl) rfl plain goesA
end Go.Proofs.YtodinbldpcldiaaGreatDoor.ConvBackRow
