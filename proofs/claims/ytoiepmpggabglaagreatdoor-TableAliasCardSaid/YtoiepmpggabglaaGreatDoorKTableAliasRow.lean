/-
 cubit/cubitlaw11.TableAlias: the row and the tied card: it answers true for every input, and its arguments read as they did
-/
import Derived.Test.YtoiepmpggabglaaGreatDoorKTableAliasLaw
import Derived.Test.YtoiepmpggabglaaGreatDoorKRw
set_option linter.all false
set_option maxHeartbeats 4000000
namespace Go.Proofs.YtoiepmpggabglaaGreatDoor.TableAliasRow
open Go.ChangeShapes Go.WideShapes Go.ChangeAt Go.RowKit Go.Proofs.YtoiepmpggabglaaGreatDoorK.AI Go.Proofs.YtoiepmpggabglaaGreatDoorK.RowT Go.Proofs.YtoiepmpggabglaaGreatDoorK.LawT11 Go.Proofs.YtoiepmpggabglaaGreatDoor
theorem own : ownKnob Tryz.prog.godebug = none := by kernel_rfl
theorem lay : laidOutB Tryz.prog = true := by kernel_rfl
theorem gTab : Tryz.prog.globalNamed "internal/strconv.uint64pow10" = some 1 := by kernel_rfl
theorem tabC (H : Type) : Rows.laid_internal_strconv_uint64pow10 (H := H) = Lib.tabData .u64 Lib.pow10Tab := by kernel_rfl
theorem table {W : World} (h : laidMetH Tryz.prog Rows.tableAliasRow.laid W) : gPow Tryz.prog W :=
 gPow_of (t := 232) (e := 106) (n := 20) gTab (by kernel_rfl) (by kernel_rfl) (by kernel_rfl) (by kernel_rfl) (by kernel_rfl) (by kernel_rfl) (x := ("math/bits.deBruijn32tab", Rows.laid_math_bits_deBruijn32tab)) (y := ("math/bits.deBruijn64tab", Rows.laid_math_bits_deBruijn64tab)) (rest := [("unicode/utf8.acceptRanges", Rows.laid_unicode_utf8_acceptRanges), ("strconv.ErrRange", Rows.laid_strconv_ErrRange), ("strconv.ErrSyntax", Rows.laid_strconv_ErrSyntax), ("unicode/utf8.first", Rows.laid_unicode_utf8_first)])
  (by rw [← tabC]; exact h)
theorem reads0 : (Tryz.f3.params.toList.all fun t => Tryz.prog.readableRec t && decide (t < Tryz.prog.types.size)) = true := by kernel_rfl
set_option maxRecDepth 100000 in
theorem contract (H : Type) (enc : TypeId × Value → H) (W : World) (base : Nat) (args : Array Value) (ds gs : List (DataW H)) (before : List MemPlace)
  (hval : ∀ (j : Nat) t v, Tryz.f3.params[j]? = some t → args[j]? = some v → Value.okWide Tryz.prog W .any base t v)
  (hW : DataW.Whole enc Tryz.prog Tryz.f3.params.toList Rows.tableAliasSpec.vars false W args.toList ds gs before) (hL : laidMetH Tryz.prog Rows.tableAliasRow.laid W) (hS : W.ShapedOpen Tryz.prog) :
  Calls Tryz.prog 3 args W fun e W' => ∃ v, e = .returned v ∧ Rows.tableAliasSpec.post enc Tryz.prog Tryz.f3 false true false false W args v W' := by
 have hW' := hW
 obtain ⟨p, q, hA, hV, rfl, _, _⟩ := hW
 rw [Tryz.params3] at hA hval
 obtain ⟨v0, vs0, d0, ds0, p0, q0, hargs, rfl, rfl, h0, r0⟩ := trodAll_cons hA
 obtain ⟨rfl, rfl, rfl⟩ := trodAll_nil r0
 obtain rfl : args = #[v0] := by cases args; simp_all
 obtain ⟨rfl, rfl⟩ := trodVars_none hV
 obtain ⟨x0, ra0, l0⟩ := rep_str (t := 9) Tryz.underlying9 (hval 0 9 v0 rfl rfl) h0
 have hl := pcr_alias_law (G := gAll) (gAll_stable gTab) (fun _ h => h.1) (fun _ h => h.2) x0 l0
 refine (calls_true hl ⟨table hL, gMax_of hS⟩ rfl (cons_arg ra0 no_arg)).mono fun e W' ⟨he, hB⟩ => ?_
 exact ⟨_, he, post_true (tb := 4) lay reads0 (by kernel_rfl) Tryz.underlying4 rfl ⟨rfl, rfl, rfl⟩ hW' hB⟩
noncomputable def wit (os : Os) : World := World.laidAll Tryz.prog os Rows.tableAliasRow.laid
def zs : Array Value := #[.string ⟨#[]⟩]
theorem reads (os : Os) {H : Type} (enc : TypeId × Value → H) : ∃ places, DataW.whole enc Tryz.prog ((wit os).forCall (fun _ _ => 0) ⟨#[], zs, []⟩).memory Tryz.f3.params.toList Rows.tableAliasSpec.vars false zs.toList 8 = some ([.lit (.string [])], [], places) :=
 ⟨[], by kernel_rfl⟩
theorem laid_met (os : Os) : laidMetH Tryz.prog Rows.tableAliasRow.laid ((wit os).forCall (fun _ _ => 0) ⟨#[], zs, []⟩).memory := by
 rw [MakeChecks.laidMetH_plain _ _ _ (by kernel_rfl)]
 exact laidMet_laidAll _ (by kernel_rfl) (by kernel_rfl)
set_option maxRecDepth 100000 in
theorem lifted (os : Os) (started : os.Started) (H : Type) (enc : TypeId × Value → H) (F : Stop.Interp) :
  ReturnsInHanded {} Tryz.checked os 3 .any ((OpenSpec.ofChange Rows.tableAliasSpec).preRow enc Tryz.prog Tryz.f3 Rows.tableAliasRow.domain false Rows.tableAliasRow.laid) (((OpenSpec.ofChange Rows.tableAliasSpec).at F).post enc Tryz.prog Tryz.f3 false true false false) := by
 obtain ⟨places, hx⟩ := reads os enc
 refine returnsInHanded_of_row (C := Tryz.checked) (s := OpenSpec.ofChange Rows.tableAliasSpec) own started (by kernel_rfl) Tryz.func3
  ⟨wit os, fun _ _ => 0, ⟨#[], zs, []⟩, World.laidAll_os _ _ _, World.shaped_of_ZipB (by kernel_rfl) (by kernel_rfl), rfl, (Input.okWide_of_okWideB (by kernel_rfl)).2,
   OpenSpec.preRow_of_cond 8 hx (by kernel_rfl) (fun k hk => by cases hk) (by kernel_rfl) (laid_met os), by simp only [Assume.holds]; exact ⟨by simp, by simp, fun _ => Modest.zero, by simp, by simp⟩⟩ ?_
 intro W base args ds gs before hval hW _ _ _ hL hS _
 exact contract H enc W base args ds gs before hval hW hL hS
theorem hcl : Tryz.prog.closure 3 = [3, 4, 5, 11, 22, 49, 85, 124, 125, 148, 86, 126, 87, 127, 149, 170, 150, 151, 152, 171, 23, 50, 88, 24, 51, 89, 25, 12, 26, 27, 52, 58, 92, 128, 93, 129, 71, 106, 105, 107, 109, 134, 108, 111, 136, 157, 135, 156, 173, 174, 110, 32, 53, 54, 13, 55, 90, 57, 91, 43, 41, 94, 130, 143, 81, 18, 42, 19, 56, 28, 59, 74, 113, 139, 159, 160, 140, 161, 176, 162, 163, 46, 82, 121, 144, 145, 166, 165, 167, 146, 147, 168, 169, 178, 179, 177, 164, 60, 20, 44, 21, 45, 47, 83, 122, 123, 35, 75, 114, 76, 115, 36, 84, 37, 48, 15, 61, 17, 40, 77, 78, 79, 80, 116, 117, 141, 118, 119, 142, 120, 95, 69, 103, 104, 96, 29, 62, 97, 131, 153, 63, 64, 14, 33, 34, 39, 72, 112, 137, 138, 158, 175, 73, 65, 67, 99, 66, 98, 68, 100, 132, 154, 172, 155, 133, 101, 102, 70, 30, 31, 9, 10, 6, 7, 8, 16, 38] := by kernel_rfl
theorem closed : joinedFacts Tryz.pinned.checked.prog 3 Tryz.f3 (OpenSpec.ofChange Rows.tableAliasSpec).bare Rows.tableAliasRow = true := by
 show joinedFacts Tryz.prog 3 Tryz.f3 (OpenSpec.ofChange Rows.tableAliasSpec).bare Rows.tableAliasRow = true
 unfold joinedFacts Program.inPlace Program.unfollowed Program.recurses Program.varsNamed Program.unfollowed
 rw [hcl]
 repeat' with_reducible refine Bool.and_eq_true_iff.2 ⟨?_, ?_⟩
 all_goals as_aux_lemma => kernel_rfl
theorem goes0 : Tryz.prog.goes 3 = false := by
 unfold Program.goes Program.unfollowed
 rw [hcl]
 kernel_rfl
theorem goesN : Tryz.prog.funcNamed "cubit/cubitlaw11.TableAlias" = some 3 := by kernel_rfl
theorem goesA : false = Rows.tableAliasRow.goesBy Tryz.pinned.checked.prog := by
 show false = ((Tryz.prog.funcNamed "cubit/cubitlaw11.TableAlias").any Tryz.prog.goes || false)
 rw [goesN, Option.any_some, goes0]
 rfl
theorem said : Rows.TableAliasSaid :=
 OpenClaim.holds_of_cond 3 Tryz.f3 rfl rfl rfl rfl rfl rfl rfl ⟨rfl, rfl, rfl, rfl, rfl⟩ rfl rfl rfl rfl rfl goesN Tryz.func3 closed
  (of_decide_eq_true (by kernel_rfl)) (by unfold Func.isWrapper; first | (rw [if_pos (by decide +kernel)]; kernel_rfl) | (rw [if_neg (by decide +kernel)]; exact ⟨rfl, rfl⟩))
  (fun os started H enc _ F => by rw [OpenClaim.pre_eq_preRow]; exact lifted os started H enc F)
theorem plain (f : FuncId) (fn : Func) (hf : Tryz.pinned.checked.prog.funcNamed "cubit/cubitlaw11.TableAlias" = some f) (hfn : Tryz.pinned.checked.prog.funcs[f]? = some fn) :
  true = Tryz.pinned.checked.prog.looks [] ∧ ∀ (j : Nat) t, fn.params[j]? = some t → Tryz.pinned.checked.prog.wantsStandIn t = false := by
 obtain rfl : f = 3 := Option.some.inj (goesN.symm.trans hf) |>.symm
 obtain rfl : fn = Tryz.f3 := (Option.some.inj (Tryz.func3.symm.trans hfn)).symm
 refine ⟨by kernel_rfl, fun j t ht => ?_⟩
 rw [Tryz.params3] at ht
 have hm : t ∈ ([9] : List TypeId) := by simpa using Array.mem_of_getElem? ht
 have hall : (([9] : List TypeId).all fun u => !Tryz.prog.wantsStandIn u) = true := by kernel_rfl
 exact (show Tryz.prog.wantsStandIn t = false by simpa using List.all_eq_true.1 hall t hm)
theorem card : Rows.TableAliasCardSaid :=
 Claim7.holds_tied_plain_at .later [] _ _ _ _ said (fun _ h => by cases h) (by kernel_rfl) (fun _ h => by cases h) tableAlias_row_tie rfl ⟨rfl, rfl⟩ (by kernel_rfl) rfl plain goesA
end Go.Proofs.YtoiepmpggabglaaGreatDoor.TableAliasRow
