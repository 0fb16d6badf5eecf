/-
 Joined: RowK, RowS, RowD, RowE.
-/
import Derived.Test.YtoiepmpggabglaaGreatDoorKAb
import Derived.Test.YtoiepmpggabglaaGreatDoorKP
import Derived.Test.YtoiepmpggabglaaGreatDoorCards
import Derived.Test.YtoiepmpggabglaaGreatDoorTie
import Derived.WalkKit
import Derived.WalkSmall
import Derived.ProofKit
import Derived.OpenShut
import Derived.Deep.DeepHandedRow
import Derived.Lib.LaidTab
import Derived.Lib.ItoaNum
import Derived.Stop.LaidErr
import Derived.LaidMore
import Derived.Lay
import Derived.Carry
import Derived.Test.YtoiepmpggabglaaGreatDoorKLb
import Derived.HandedShaped
import Derived.ChangeBears
set_option linter.all false
set_option maxHeartbeats 4000000
/-
 From a contract to a row: arguments opened, the call's post shut.
-/
namespace Go.Proofs.YtoiepmpggabglaaGreatDoorK.RowT
open Go.ChangeShapes Go.WideShapes Go.ChangeAt Go.RowKit AI
variable {H : Type} {enc : TypeId × Value → H} {P : Program} {W W' : World}
theorem rep_str {base : Nat} {t : TypeId} {v : Value} {d : DataW H} {p : List MemPlace} (ht : P.underlying t = some .string) (hval : Value.okWide P W .any base t v) (h : DataW.Trod enc P W 0 (fun _ => true) true t v d p) :
  ∃ s : ByteArray, RepI (fun _ => False) W v (.str s) ∧ s.size ≤ 9223372036854775807 := by
 obtain ⟨fuel, h⟩ := h
 have hcell : Cell.ok P W .any base t v := by
  simp only [Value.okWide, ht, Cell.okWide] at hval
  exact hval
 cases v <;> first | (exfalso; simp [Cell.ok, ht] at hcell; done) | skip
 rename_i s
 simp only [Cell.ok, ht, IntKind.max, IntKind.signed, IntKind.bits] at hcell
 refine ⟨s, .str s, ?_⟩
 simp at hcell
 omega
theorem trodAll_below (hl : laidOutB P = true) (hB : Below W.heap.size W W') : ∀ (ts : List TypeId) (vs : List Value) (ds : List (DataW H)) (ps : List MemPlace),
  (ts.all fun t => P.readableRec t && decide (t < P.types.size)) = true → DataW.TrodAll enc P W 0 (fun _ => true) true ts vs ds ps → (∀ x ∈ ps, x.block < W.heap.size) →
  DataW.TrodAll enc P W' 0 (fun b => decide (b < W.heap.size)) true ts vs ds ps
 | [], vs, ds, ps, _, h, _ => by
  obtain ⟨rfl, rfl, rfl⟩ := trodAll_nil h
  exact trodAll_mk0
 | t :: ts, vs, ds, ps, hr, h, hlt => by
  obtain ⟨v, vs1, d, ds1, a, b, rfl, rfl, rfl, h1, h2⟩ := trodAll_cons h
  simp only [List.all_cons, Bool.and_eq_true, decide_eq_true_eq] at hr
  exact ⟨a, b, Below.trod hl hr.1.1 hr.1.2 h1 hB (fun x hx => hlt x (List.mem_append.2 (.inl hx))), trodAll_below hl hB ts vs1 ds1 b (by simpa using hr.2) h2 (fun x hx => hlt x (List.mem_append.2 (.inr hx))), rfl⟩
theorem post_true {f : Func} {s : ChangeSpec} {apart : Bool} {args : Array Value} {ds gs : List (DataW H)} {before : List MemPlace} {tb : TypeId} (hl : laidOutB P = true)
  (hr : (f.params.toList.all fun t => P.readableRec t && decide (t < P.types.size)) = true) (hrt : f.resultTypes = #[tb]) (htb : P.underlying tb = some .bool) (hv : s.vars = [])
  (hs : (s.fn H (ds ++ gs)).results = [.lit (.bool true)] ∧ (s.fn H (ds ++ gs)).args = ds ∧ (s.fn H (ds ++ gs)).vars = [])
  (hW : DataW.Whole enc P f.params.toList s.vars apart W args.toList ds gs before) (hB : Below W.heap.size W W') :
  s.post enc P f apart true false false W args (.bool true) W' := by
 have hlt := hW.lt
 have hW' := hW
 rw [hv] at hW'
 obtain ⟨p, q, hA, hV, rfl, _, _⟩ := hW'
 obtain ⟨rfl, rfl⟩ := trodVars_none hV
 refine ⟨ds, [], p ++ [], [], p, [], hW, ?_, ?_, ?_, hB.frame _, fun h => by cases h⟩
 ·rw [hs.1, hrt]
  exact trodAll_cons_mk (shut_bool htb _) trodAll_mk0
 ·rw [hs.2.1]
  exact trodAll_below hl hB _ _ _ _ hr hA (fun x hx => hlt x (by simpa using hx))
 ·rw [hs.2.2, hv]
  rfl
theorem calls_true {G : World → Prop} {f : FuncId} {ds : List D} {args : Array Value} (h : PCr P G f ds (.bool true)) (hg : G W) (hsz : args.size = ds.length) (hr : ∀ i d, ds[i]? = some d → RepI (fun _ => False) W (args.toList.getD i undef) d) :
  Calls P f args W fun e W' => e = .returned (.bool true) ∧ Below W.heap.size W W' :=
 (h W (fun _ => False) args hg (fun _ h => h.elim) hsz (fun i d hi => by simpa using hr i d hi)).mono fun e W' ⟨v, he, hv, hB⟩ => by
  cases hv
  exact ⟨he, hB⟩
def gPow (P : Program) (w : World) : Prop := Lib.TabIs P w "internal/strconv.uint64pow10" .u64 Lib.pow10Tab
theorem gPow_of {x y : String × DataW Unit} {rest : List (String × DataW Unit)} {g : Nat} {t e : TypeId} {n : Nat} (hg : P.globalNamed "internal/strconv.uint64pow10" = some g) (hty : (P.globals[g]?).map (·.type) = some t) (ht : P.underlying t = some (.array n e)) (he : P.underlying e = some (.int .u64)) (hce : P.cellsOf e = 1) (hct : P.cellsOf t = n)
  (hplain : ((x :: y :: ("internal/strconv.uint64pow10", Lib.tabData .u64 Lib.pow10Tab) :: rest).all fun x => x.2.handleName?.isNone) = true)
  (h : laidMetH P (x :: y :: ("internal/strconv.uint64pow10", Lib.tabData .u64 Lib.pow10Tab) :: rest) W) : gPow P W := by
 rw [MakeChecks.laidMetH_plain _ _ _ hplain] at h
 exact Lib.tabIs_of_head hg hty ht he hce hct h.tail.tail
theorem gPow_stable {g : Nat} (hg : P.globalNamed "internal/strconv.uint64pow10" = some g) : Stable (gPow P) := by
 intro w w' h hB
 have h' : w.var? P "internal/strconv.uint64pow10" = _ := h
 refine var?_below hB hg ?_ h'
 unfold World.var? at h'
 simp only [hg, Option.bind_some] at h'
 split at h'
 ·rename_i hk
  exact (Array.getElem?_eq_some_iff.1 hk).1
 ·cases h'
theorem no_arg : (∀ i d, ([] : List D)[i]? = some d → RepI (fun _ => False) W (([] : List Value).getD i undef) d) := fun i d h => by simp at h
theorem cons_arg {v : Value} {vs : List Value} {d : D} {ds : List D} (h : RepI (fun _ => False) W v d) (hs : ∀ i d, ds[i]? = some d → RepI (fun _ => False) W (vs.getD i undef) d) :
  ∀ i e, (d :: ds)[i]? = some e → RepI (fun _ => False) W ((v :: vs).getD i undef) e := by
 intro i e hi
 cases i with
 | zero => simp at hi; subst hi; simpa using h
 | succ i => exact hs i e (by simpa using hi)
end Go.Proofs.YtoiepmpggabglaaGreatDoorK.RowT
/-
 From a contract to a row: structs among the arguments, told by their cells.
-/
namespace Go.Proofs.YtoiepmpggabglaaGreatDoorK.RowT
open Go.ChangeShapes Go.WideShapes Go.ChangeAt Go.RowKit AI
variable {H : Type} {enc : TypeId × Value → H} {P : Program} {W W' : World}
def Tr (enc : TypeId × Value → H) (P : Program) (W : World) (t : TypeId) (cs : List Value) : Prop := ∃ fuel x, DataW.trod enc P W 0 (fun _ => true) true fuel t cs = some x
theorem bnd {k : IntKind} {z lo hi : Int} (h : (Lit.int k z).wf = true) (hk : k.min = lo ∧ k.max = hi) : lo ≤ z ∧ z ≤ hi := by
 simp only [Lit.wf, Bool.and_eq_true, decide_eq_true_eq, hk.1, hk.2] at h
 exact h
theorem gMax_of (hS : W.ShapedOpen Tryz.prog) : LibT.gMax W := by
 exact cell_of_shapedOpen_int (P := Tryz.prog) (g := 0) (t := 3) (zero := #[.int .i64 0]) hS (of_decide_eq_true (by kernel_rfl)) (by kernel_rfl) rfl (by kernel_rfl) (by kernel_rfl) Tryz.underlying3
def gAll (w : World) : Prop := gPow Tryz.prog w ∧ LibT.gMax w
theorem gAll_stable {g : Nat} (hg : Tryz.prog.globalNamed "internal/strconv.uint64pow10" = some g) : Stable gAll := fun w w' h hB => ⟨gPow_stable hg w w' h.1 hB, LibT.gMax_stable w w' h.2 hB⟩
end Go.Proofs.YtoiepmpggabglaaGreatDoorK.RowT
/-
 From a contract to a row: arguments of any plain type (numbers, texts, rows, structs, arrays, one within the other), told by their data.
-/
namespace Go.Proofs.YtoiepmpggabglaaGreatDoorK.RowT
open Go.ChangeShapes Go.WideShapes Go.ChangeAt Go.RowKit AI
variable {H : Type} {enc : TypeId × Value → H} {P : Program} {W W' : World}
inductive RepL (W : World) : List Value → List D → Prop
 | nil : RepL W [] []
 | cons {v : Value} {d : D} {vs : List Value} {ds : List D} (h : RepI (fun _ => False) W v d) (t : RepL W vs ds) : RepL W (v :: vs) (d :: ds)
theorem RepL.app : ∀ {a b : List Value} {x y : List D}, RepL W a x → RepL W b y → RepL W (a ++ b) (x ++ y)
 | _, _, _, _, .nil, h => h
 | _, _, _, _, .cons h t, k => .cons h (t.app k)
theorem RepL.len : ∀ {a : List Value} {x : List D}, RepL W a x → x.length = a.length
 | _, _, .nil => rfl
 | _, _, .cons _ t => by simp [t.len]
theorem RepL.get : ∀ {a : List Value} {x : List D}, RepL W a x → ∀ i d, x[i]? = some d → RepI (fun _ => False) W (a.getD i undef) d
 | _, _, .nil, i, d, h => by simp at h
 | _, _, .cons h t, 0, d, hi => by simp at hi; subst hi; simpa using h
 | _, _, .cons h t, i + 1, d, hi => by simpa using t.get i d (by simpa using hi)
theorem RepL.un : ∀ (a : List Value), RepL W a (a.map fun _ => .un)
 | [] => .nil
 | _ :: l => .cons (.un _) (RepL.un l)
def IsC (P : Program) : Nat → TypeId → List D → Prop
 | 0, _, _ => False
 | n + 1, t, ds => match P.underlying t with
  | some .bool => ∃ b, ds = [.bool b]
  | some (.int k) => ∃ z, ds = [.int k z] ∧ (Lit.int k z).wf = true
  | some .string => ∃ s : ByteArray, ds = [.str s] ∧ s.size ≤ 9223372036854775807
  | some (.slice e) => ∃ rows : List (List D), ds = [.sl rows.length rows.flatten] ∧ rows.length ≤ 9223372036854775807 ∧ ∀ r ∈ rows, r.length = P.cellsOf e ∧ IsC P n e r
  | some (.struct fs) => ∃ parts : List (List D), ds = parts.flatten ∧ parts.length = fs.toList.length ∧ ∀ (i : Nat) f p, fs.toList[i]? = some f → parts[i]? = some p → p.length = P.cellsOf f.type ∧ IsC P n f.type p
  | some (.array k e) => ∃ parts : List (List D), ds = parts.flatten ∧ parts.length = k ∧ ∀ p ∈ parts, p.length = P.cellsOf e ∧ IsC P n e p
  | _ => True
section
variable {n : Nat} {t e : TypeId} {ds : List D}
theorem IsC.int {k : IntKind} (h : IsC P n t ds) (hu : P.underlying t = some (.int k)) : ∃ z, ds = [.int k z] ∧ (Lit.int k z).wf = true := by
 cases n with
 | zero => exact h.elim
 | succ n => simp only [IsC, hu] at h; exact h
theorem IsC.bool (h : IsC P n t ds) (hu : P.underlying t = some .bool) : ∃ b, ds = [.bool b] := by
 cases n with
 | zero => exact h.elim
 | succ n => simp only [IsC, hu] at h; exact h
theorem IsC.str (h : IsC P n t ds) (hu : P.underlying t = some .string) : ∃ s : ByteArray, ds = [.str s] ∧ s.size ≤ 9223372036854775807 := by
 cases n with
 | zero => exact h.elim
 | succ n => simp only [IsC, hu] at h; exact h
theorem IsC.slice (h : IsC P n t ds) (hu : P.underlying t = some (.slice e)) : ∃ m, ∃ rows : List (List D), ds = [.sl rows.length rows.flatten] ∧ rows.length ≤ 9223372036854775807 ∧ ∀ r ∈ rows, r.length = P.cellsOf e ∧ IsC P m e r := by
 cases n with
 | zero => exact h.elim
 | succ n => simp only [IsC, hu] at h; exact ⟨n, h⟩
theorem IsC.struct {fs : Array Field} (h : IsC P n t ds) (hu : P.underlying t = some (.struct fs)) : ∃ m, ∃ parts : List (List D), ds = parts.flatten ∧ parts.length = fs.toList.length ∧ ∀ (i : Nat) f p, fs.toList[i]? = some f → parts[i]? = some p → p.length = P.cellsOf f.type ∧ IsC P m f.type p := by
 cases n with
 | zero => exact h.elim
 | succ n => simp only [IsC, hu] at h; exact ⟨n, h⟩
theorem IsC.array {k : Nat} (h : IsC P n t ds) (hu : P.underlying t = some (.array k e)) : ∃ m, ∃ parts : List (List D), ds = parts.flatten ∧ parts.length = k ∧ ∀ p ∈ parts, p.length = P.cellsOf e ∧ IsC P m e p := by
 cases n with
 | zero => exact h.elim
 | succ n => simp only [IsC, hu] at h; exact ⟨n, h⟩
theorem ints_of {k : IntKind} (hu : P.underlying e = some (.int k)) {m : Nat} : ∀ parts : List (List D), (∀ p ∈ parts, p.length = P.cellsOf e ∧ IsC P m e p) → ∃ l : List Int, parts.flatten = l.map (.int k) ∧ l.length = parts.length ∧ ∀ z ∈ l, (Lit.int k z).wf = true
 | [], _ => ⟨[], rfl, rfl, fun z hz => by simp at hz⟩
 | p :: ps, h => by
  obtain ⟨l, h1, h2, h3⟩ := ints_of hu ps (fun q hq => h q (List.mem_cons_of_mem _ hq))
  obtain ⟨z, rfl, hw⟩ := (h p List.mem_cons_self).2.int hu
  refine ⟨z :: l, by simp [h1], by simp [h2], fun y hy => ?_⟩
  rcases List.mem_cons.1 hy with rfl | hy
  ·exact hw
  ·exact h3 y hy
theorem IsC.row {k : IntKind} (h : IsC P n t ds) (hu : P.underlying t = some (.slice e)) (he : P.underlying e = some (.int k)) : ∃ l : List Int, ds = [.sl l.length (l.map (.int k))] ∧ (∀ z ∈ l, (Lit.int k z).wf = true) ∧ l.length ≤ 9223372036854775807 := by
 obtain ⟨m, rows, rfl, h1, h2⟩ := h.slice hu
 obtain ⟨l, h3, h4, h5⟩ := ints_of he rows h2
 exact ⟨l, by rw [h3, h4], h5, by omega⟩
def AllC (P : Program) (m : Nat) : List TypeId → List (List D) → Prop
 | [], [] => True
 | u :: us, p :: ps => IsC P m u p ∧ AllC P m us ps
 | _, _ => False
theorem AllC.one {m : Nat} {t0 : TypeId} {parts : List (List D)} (h : AllC P m [t0] parts) : ∃ p0, parts = [p0] ∧ IsC P m t0 p0 := by
 match parts, h with
 | [p0], ⟨h0, _⟩ => exact ⟨p0, rfl, h0⟩
theorem AllC.two {m : Nat} {t0 t1 : TypeId} {parts : List (List D)} (h : AllC P m [t0, t1] parts) : ∃ p0 p1, parts = [p0, p1] ∧ IsC P m t0 p0 ∧ IsC P m t1 p1 := by
 match parts, h with
 | [p0, p1], ⟨h0, h1, _⟩ => exact ⟨p0, p1, rfl, h0, h1⟩
end
end Go.Proofs.YtoiepmpggabglaaGreatDoorK.RowT
/-
 From a contract to a row: arguments that are rows of structs, of arrays, of texts.
-/
namespace Go.Proofs.YtoiepmpggabglaaGreatDoorK.RowT
open Go.ChangeShapes Go.WideShapes Go.ChangeAt Go.RowKit AI
variable {H : Type} {enc : TypeId × Value → H} {P : Program} {W W' : World}
section
variable {n : Nat} {t e : TypeId} {ds : List D} {α : Type} {f : α → List D} {q : α → Prop}
end
end Go.Proofs.YtoiepmpggabglaaGreatDoorK.RowT
