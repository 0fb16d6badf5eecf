/-
  cubit/cubitlaw10.UnitSays: the row and the tied card: it answers true for every input of bulk at most 1048576, and its arguments read as they did
-/
import Derived.Test.YtgimaioeifnajaaGreatDoorKUnitSaysLaw
import Derived.Test.YtgimaioeifnajaaGreatDoorKRowU
set_option linter.all false
set_option maxHeartbeats 4000000
namespace Go.Proofs.YtgimaioeifnajaaGreatDoor.UnitSaysUptoRow
open Go.ChangeShapes Go.WideShapes Go.ChangeAt Go.RowKit Go.Proofs.YtgimaioeifnajaaGreatDoorK.AI Go.Proofs.YtgimaioeifnajaaGreatDoorK.RowT Go.Proofs.YtgimaioeifnajaaGreatDoorK.LawT10 Go.Proofs.YtgimaioeifnajaaGreatDoor
theorem own : ownKnob Tryz.prog.godebug = none := by kernel_rfl
theorem lay : laidOutB Tryz.prog = true := by kernel_rfl
theorem gTab : Tryz.prog.globalNamed "internal/strconv.uint64pow10" = some 1 := by kernel_rfl
theorem tabC (H : Type) : Rows.laid_internal_strconv_uint64pow10 (H := H) = Lib.tabData .u64 Lib.pow10Tab := by kernel_rfl
theorem table {W : World} (h : laidMetH Tryz.prog Rows.unitSaysUptoRow.laid W) : gPow Tryz.prog W :=
  gPow_of (t := 201) (e := 58) (n := 20) gTab (by kernel_rfl) (by kernel_rfl) (by kernel_rfl) (by kernel_rfl) (by kernel_rfl) (by kernel_rfl) (x := ("math/bits.deBruijn32tab", Rows.laid_math_bits_deBruijn32tab)) (y := ("math/bits.deBruijn64tab", Rows.laid_math_bits_deBruijn64tab)) (rest := [("unicode/utf8.acceptRanges", Rows.laid_unicode_utf8_acceptRanges), ("strconv.ErrRange", Rows.laid_strconv_ErrRange), ("strconv.ErrSyntax", Rows.laid_strconv_ErrSyntax), ("unicode/utf8.first", Rows.laid_unicode_utf8_first)])
    (by rw [← tabC]; exact h)
theorem part_le {H : Type} {d : DataW H} {l : List (DataW H)} (h : d ∈ l) : Rows.uptoBulk d ≤ Rows.uptoBulkAll l := by
  induction l with
  | nil => cases h
  | cons x r ih =>
    simp only [Rows.uptoBulkAll]
    cases List.mem_cons.1 h with
    | inl e => subst e; omega
    | inr e => have := ih e; omega
theorem below {H : Type} : Go.Proofs.YtgimaioeifnajaaGreatDoorK.RowU.Below (H := H) (fun d => Rows.uptoBulk d ≤ 1048576) (fun s : ByteArray => s.size ≤ 1048576) := ⟨fun s h => by
    simp only [Rows.uptoBulk] at h
    have : s.data.toList.length = s.size := rfl
    omega, fun l h d hd => by
    have := part_le hd
    simp only [Rows.uptoBulk] at h
    omega, fun l m h d hd => by
    have := part_le hd
    simp only [Rows.uptoBulk] at h
    omega⟩
set_option maxRecDepth 100000 in
theorem ats_of {n : Nat} {ds : List D} (h : Go.Proofs.YtgimaioeifnajaaGreatDoorK.RowU.IsC Tryz.prog (fun s : ByteArray => s.size ≤ 1048576) n 47 ds) : ∃ l : List Go.Proofs.YtgimaioeifnajaaGreatDoorK.TabT.At, ds = [.sl l.length (Go.Proofs.YtgimaioeifnajaaGreatDoorK.TabT.atsC l)] ∧ l.length ≤ 9223372036854775807 ∧ ∀ a ∈ l, a.pre.size < 2000000 ∧ a.name.size < 2000000 :=
  h.list (f := fun a : Go.Proofs.YtgimaioeifnajaaGreatDoorK.TabT.At => [.str a.pre, .str a.name, .int .i64 a.pw]) (q := fun a => a.pre.size < 2000000 ∧ a.name.size < 2000000) Tryz.underlying47 (fun m r hm => by
    obtain ⟨k, parts, rfl, hp⟩ := hm.fields Tryz.underlying60 (show _ = [9, 9, 3] by kernel_rfl)
    obtain ⟨p0, p1, p2, rfl, h0, h1, h2⟩ := Go.Proofs.YtgimaioeifnajaaGreatDoorK.RowU.AllC.three hp
    obtain ⟨s0, rfl, z0, y0⟩ := h0.str Tryz.underlying9
    obtain ⟨s1, rfl, z1, y1⟩ := h1.str Tryz.underlying9
    obtain ⟨i2, rfl, z2⟩ := h2.int Tryz.underlying3
    exact ⟨⟨s0, s1, i2⟩, rfl, Nat.lt_of_le_of_lt y0 (by omega), Nat.lt_of_le_of_lt y1 (by omega)⟩)
set_option maxRecDepth 100000 in
theorem rep_arg25 {H : Type} {enc : TypeId × Value → H} {W : World} {base : Nat} {v : Value} {d : DataW H} {q : List MemPlace} (hval : Value.okWide Tryz.prog W .any base 25 v) (h : DataW.Trod enc Tryz.prog W 0 (fun _ => true) true 25 v d q) (hd : Rows.uptoBulk d ≤ 1048576) :
    ∃ u : List Go.Proofs.YtgimaioeifnajaaGreatDoorK.TabT.GP, RepI (fun _ => False) W v (.agg [.sl u.length (Go.Proofs.YtgimaioeifnajaaGreatDoorK.TabT.gpsC u)]) ∧ (∀ g ∈ u, InG g) ∧ u.length ≤ 9223372036854775807 := by
  obtain ⟨n, ds, hr, hc⟩ := Go.Proofs.YtgimaioeifnajaaGreatDoorK.RowU.arg_agg below lay (of_decide_eq_true (by kernel_rfl)) (by kernel_rfl) hval h hd
  obtain ⟨k, parts, rfl, hp⟩ := hc.fields Tryz.underlying25 (show _ = [23] by kernel_rfl)
  obtain ⟨p0, rfl, h0⟩ := Go.Proofs.YtgimaioeifnajaaGreatDoorK.RowU.AllC.one hp
  obtain ⟨u, h1, h2, h3⟩ := h0.list (f := Go.Proofs.YtgimaioeifnajaaGreatDoorK.TabT.GP.C) (q := InG) Tryz.underlying23 (fun m r hm => by
    obtain ⟨k, parts, rfl, hp⟩ := hm.fields Tryz.underlying52 (show _ = [47, 47, 50] by kernel_rfl)
    obtain ⟨p0, p1, p2, rfl, h0, h1, h2⟩ := Go.Proofs.YtgimaioeifnajaaGreatDoorK.RowU.AllC.three hp
    obtain ⟨num, rfl, n1, n2⟩ := ats_of h0
    obtain ⟨den, rfl, d1, d2⟩ := ats_of h1
    obtain ⟨x, rfl, x1, x2⟩ := h2.nat Tryz.underlying50 (show _ = [48] by kernel_rfl) Tryz.underlying48 Tryz.underlying79
    exact ⟨⟨num, den, x⟩, rfl, ⟨n1, d1, x2, wf_ok x1 ⟨rfl, rfl⟩, ⟨n2, d2⟩⟩⟩)
  subst h1
  exact ⟨u, hr, h3, h2⟩
theorem reads0 : (Tryz.f5.params.toList.all fun t => Tryz.prog.readableRec t && decide (t < Tryz.prog.types.size)) = true := by kernel_rfl
set_option maxRecDepth 100000 in
theorem contract (H : Type) (enc : TypeId × Value → H) (W : World) (base : Nat) (args : Array Value) (ds gs : List (DataW H)) (before : List MemPlace)
    (hval : ∀ (j : Nat) t v, Tryz.f5.params[j]? = some t → args[j]? = some v → Value.okWide Tryz.prog W .any base t v)
    (hW : DataW.Whole enc Tryz.prog Tryz.f5.params.toList Rows.unitSaysSpec.vars false W args.toList ds gs before) (hk : Rows.uptoSmall H (ds ++ gs) = true) (hL : laidMetH Tryz.prog Rows.unitSaysUptoRow.laid W) (hS : W.ShapedOpen Tryz.prog) :
    Calls Tryz.prog 5 args W fun e W' => ∃ v, e = .returned v ∧ Rows.unitSaysSpec.post enc Tryz.prog Tryz.f5 false true false false W args v W' := by
  have hW' := hW
  obtain ⟨p, q, hA, hV, rfl, _, _⟩ := hW
  rw [Tryz.params5] at hA hval
  obtain ⟨v0, vs0, d0, ds0, p0, q0, hargs, rfl, rfl, h0, r0⟩ := trodAll_cons hA
  obtain ⟨v1, vs1, d1, ds1, p1, q1, rfl, rfl, rfl, h1, r1⟩ := trodAll_cons r0
  obtain ⟨rfl, rfl, rfl⟩ := trodAll_nil r1
  obtain rfl : args = #[v0, v1] := by cases args; simp_all
  obtain ⟨rfl, rfl⟩ := trodVars_none hV
  have hb : Rows.uptoBulk d0 ≤ 1048576 ∧ Rows.uptoBulk d1 ≤ 1048576 := by
    have := of_decide_eq_true hk
    simp only [List.cons_append, List.nil_append, List.append_nil, Rows.uptoBulkAll] at this
    omega
  obtain ⟨x0, ra0, l0⟩ := rep_str (t := 9) Tryz.underlying9 (hval 0 9 v0 rfl rfl) h0
  obtain ⟨x1, ra1, c1, l1⟩ := rep_arg25 (hval 1 25 v1 rfl rfl) h1 (by omega)
  have hl := pcr_says_law (G := gAll) (gAll_stable gTab) (fun _ h => h.1) (fun _ h => h.2) x0 l0 x1 c1 l1
  refine (calls_true hl ⟨table hL, gMax_of hS⟩ rfl (cons_arg ra0 (cons_arg ra1 no_arg))).mono fun e W' ⟨he, hB⟩ => ?_
  exact ⟨_, he, post_true (tb := 4) lay reads0 (by kernel_rfl) Tryz.underlying4 rfl ⟨rfl, rfl, rfl⟩ hW' hB⟩
noncomputable def wit (os : Os) : World := World.laidAll Tryz.prog os Rows.unitSaysUptoRow.laid
def zs : Array Value := #[.string ⟨#[]⟩, .agg #[.slice none 0 0]]
theorem reads (os : Os) {H : Type} (enc : TypeId × Value → H) : ∃ places, DataW.whole enc Tryz.prog ((wit os).forCall (fun _ _ => 0) ⟨#[], zs, []⟩).memory Tryz.f5.params.toList Rows.unitSaysSpec.vars false zs.toList 8 = some ([.lit (.string []), .agg [.nil]], [], places) :=
  ⟨[], by kernel_rfl⟩
theorem laid_met (os : Os) : laidMetH Tryz.prog Rows.unitSaysUptoRow.laid ((wit os).forCall (fun _ _ => 0) ⟨#[], zs, []⟩).memory := by
  rw [MakeChecks.laidMetH_plain _ _ _ (by kernel_rfl)]
  exact laidMet_laidAll _ (by kernel_rfl) (by kernel_rfl)
set_option maxRecDepth 100000 in
theorem lifted (os : Os) (started : os.Started) (H : Type) (enc : TypeId × Value → H) (F : Stop.Interp) :
    ReturnsInHanded {} Tryz.checked os 5 .any ((Rows.OpenSpec.upto Rows.unitSaysSpec).preRow enc Tryz.prog Tryz.f5 Rows.unitSaysUptoRow.domain false Rows.unitSaysUptoRow.laid) (((Rows.OpenSpec.upto Rows.unitSaysSpec).at F).post enc Tryz.prog Tryz.f5 false true false false) := by
  obtain ⟨places, hx⟩ := reads os enc
  refine returnsInHanded_of_row (C := Tryz.checked) (s := Rows.OpenSpec.upto Rows.unitSaysSpec) own started (by kernel_rfl) Tryz.func5
    ⟨wit os, fun _ _ => 0, ⟨#[], zs, []⟩, World.laidAll_os _ _ _, World.shaped_of_ZipB (by kernel_rfl) (by kernel_rfl), rfl, (Input.okWide_of_okWideB (by kernel_rfl)).2,
      OpenSpec.preRow_of_cond 8 hx (by kernel_rfl) (fun k hk => by cases hk; kernel_rfl) (by kernel_rfl) (laid_met os), by simp only [Assume.holds]; exact ⟨by simp, by simp, fun _ => Modest.zero, by simp, by simp⟩⟩ ?_
  intro W base args ds gs before hval hW _ hcond _ hL hS _
  exact contract H enc W base args ds gs before hval hW (hcond _ rfl) hL hS
theorem said : Rows.UnitSaysUptoSaid :=
  OpenClaim.holds_of_cond 5 Tryz.f5 rfl rfl rfl rfl rfl rfl rfl ⟨rfl, rfl, rfl, rfl, rfl⟩ rfl rfl rfl rfl rfl (by kernel_rfl) Tryz.func5 (by kernel_rfl)
    (of_decide_eq_true (by kernel_rfl)) (by unfold Func.isWrapper; first | (rw [if_pos (by decide +kernel)]; kernel_rfl) | (rw [if_neg (by decide +kernel)]; exact ⟨rfl, rfl⟩))
    (fun os started H enc _ F => by rw [OpenClaim.pre_eq_preRow]; exact lifted os started H enc F)
theorem plain (f : FuncId) (fn : Func) (hf : Tryz.pinned.checked.prog.funcNamed "cubit/cubitlaw10.UnitSays" = some f) (hfn : Tryz.pinned.checked.prog.funcs[f]? = some fn) :
    true = Tryz.pinned.checked.prog.looks [] ∧ ∀ (j : Nat) t, fn.params[j]? = some t → Tryz.pinned.checked.prog.wantsStandIn t = false := by
  obtain rfl : f = 5 := Option.some.inj ((show Tryz.prog.funcNamed "cubit/cubitlaw10.UnitSays" = some 5 by kernel_rfl).symm.trans hf) |>.symm
  obtain rfl : fn = Tryz.f5 := (Option.some.inj (Tryz.func5.symm.trans hfn)).symm
  refine ⟨by kernel_rfl, fun j t ht => ?_⟩
  rw [Tryz.params5] at ht
  have hm : t ∈ ([9, 25] : List TypeId) := by simpa using Array.mem_of_getElem? ht
  have hall : (([9, 25] : List TypeId).all fun u => !Tryz.prog.wantsStandIn u) = true := by kernel_rfl
  exact (show Tryz.prog.wantsStandIn t = false by simpa using List.all_eq_true.1 hall t hm)
theorem card : Rows.UnitSaysUptoCardSaid :=
  Claim7.holds_tied_plain_at .later [] _ _ _ _ said (fun _ h => by cases h) (by kernel_rfl) (fun _ h => by cases h) unitSaysUpto_row_tie rfl ⟨rfl, rfl⟩ (by kernel_rfl) rfl plain (by kernel_rfl)
end Go.Proofs.YtgimaioeifnajaaGreatDoor.UnitSaysUptoRow
