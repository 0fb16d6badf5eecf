/-
  Joined: RowK, RowS, RowD, RowE.
-/
import Derived.Test.YtgimaioeifnajaaGreatDoorKAb
import Derived.Test.YtgimaioeifnajaaGreatDoorKP
import Derived.Test.YtgimaioeifnajaaGreatDoorCards
import Derived.Test.YtgimaioeifnajaaGreatDoorTie
import Derived.WalkKit
import Derived.WalkSmall
import Derived.ProofKit
import Derived.OpenShut
import Derived.Deep.DeepHandedRow
import Derived.Lib.LaidTab
import Derived.Lib.ItoaNum
import Derived.Stop.LaidErr
import Derived.LaidMore
import Derived.Lay
import Derived.Carry
import Derived.Test.YtgimaioeifnajaaGreatDoorKLb
import Derived.HandedShaped
import Derived.ChangeBears
set_option linter.all false
set_option maxHeartbeats 4000000
/-
  From a contract to a row: arguments opened, the call's post shut.
-/
namespace Go.Proofs.YtgimaioeifnajaaGreatDoorK.RowT
open Go.ChangeShapes Go.WideShapes Go.ChangeAt Go.RowKit AI
variable {H : Type} {enc : TypeId × Value → H} {P : Program} {W W' : World}
theorem rep_slice {base : Nat} {t e : TypeId} {k : IntKind} {v : Value} {d : DataW H} {p : List MemPlace} (ht : P.underlying t = some (.slice e)) (he : P.underlying e = some (.int k)) (hc : P.cellsOf e = 1)
    (hval : Value.okWide P W .any base t v) (h : DataW.Trod enc P W 0 (fun _ => true) true t v d p) :
    ∃ zs : List Int, RepI (fun _ => False) W v (.sl zs.length (zs.map (.int k ·))) ∧ (∀ z ∈ zs, (Lit.int k z).wf = true) ∧ zs.length ≤ 9223372036854775807 := by
  obtain ⟨fuel, h⟩ := h
  have hcell : Cell.ok P W .any base t v := by
    simp only [Value.okWide, ht, Cell.okWide] at hval
    exact hval
  rcases open_ints ht he hc h with ⟨h1, _⟩ | ⟨a, len, cap, zs, h1, _, hle, hm, hz, _, hcs, hwf⟩
  · have hv : v = .slice none 0 0 := by
      cases v <;> first | (simpa [Value.cells] using h1) | (exfalso; simp [Cell.ok, ht] at hcell)
    subst hv
    exact ⟨[], .sl none 0 0 [] 0 0 (fun _ => undef) (Nat.le_refl _) (Nat.zero_le _) (fun h => absurd rfl h) (fun h => absurd rfl h) (fun j d h => by simp at h) (fun j d h => by simp at h), fun z h => by simp at h, Nat.zero_le _⟩
  · have hv : v = .slice (some a) len cap := by
      cases v <;> first | (simpa [Value.cells] using h1) | (exfalso; simp [Cell.ok, ht] at hcell)
    subst hv
    simp only [Cell.ok, ht] at hcell
    obtain ⟨_, _, _, hsp, _⟩ := hcell
    obtain ⟨g, o, sp⟩ := a
    obtain rfl : sp = none := hsp
    simp only [if_true] at hz
    have hl : (zs.take len).length = len := by simp; omega
    have hmx : maxLen = 9223372036854775807 := rfl
    refine ⟨zs.take len, ?_, fun z hz' => hwf z (List.mem_of_mem_take hz'), by omega⟩
    rw [hl]
    have key : ∀ (j : Nat) (d : D), ((zs.take len).map (D.int k ·))[j]? = some d → j < zs.length ∧ d = .int k (zs.getD j 0) := by
      intro j d hj
      simp only [List.getElem?_map, Option.map_eq_some_iff] at hj
      obtain ⟨x, hx, rfl⟩ := hj
      have hlt : j < (zs.take len).length := (List.getElem?_eq_some_iff.1 hx).1
      have hlt' : j < zs.length := by simp at hlt; omega
      refine ⟨hlt', ?_⟩
      rw [List.getElem?_take, if_pos (by omega)] at hx
      simp [List.getD_eq_getElem?_getD, hx]
    refine .sl _ len cap _ g o (fun j => .int k (zs.getD j 0)) hle hm (fun _ => rfl) (fun _ h => h) (fun j d hj => ?_) (fun j d hj => ?_)
    · obtain ⟨hlt, _⟩ := key j d hj
      have := hcs j hlt
      rw [cellv, ← this]
      unfold Addr.add
      by_cases h0 : j = 0
      · subst h0; rfl
      · rw [if_neg h0]
    · obtain ⟨_, rfl⟩ := key j d hj
      exact .int k _
theorem rep_int {base : Nat} {t : TypeId} {k : IntKind} {v : Value} {d : DataW H} {p : List MemPlace} (ht : P.underlying t = some (.int k)) (hval : Value.okWide P W .any base t v) (h : DataW.Trod enc P W 0 (fun _ => true) true t v d p) :
    ∃ n : Int, RepI (fun _ => False) W v (.int k n) ∧ (Lit.int k n).wf = true := by
  obtain ⟨n, rfl, _, _, hw⟩ := open_int ht hval h
  exact ⟨n, .int k n, hw⟩
theorem rep_bool {base : Nat} {t : TypeId} {v : Value} {d : DataW H} {p : List MemPlace} (ht : P.underlying t = some .bool) (hval : Value.okWide P W .any base t v) (h : DataW.Trod enc P W 0 (fun _ => true) true t v d p) :
    ∃ b : Bool, RepI (fun _ => False) W v (.bool b) := by
  obtain ⟨b, rfl, _, _⟩ := open_bool ht hval h
  exact ⟨b, .bool b⟩
theorem rep_str {base : Nat} {t : TypeId} {v : Value} {d : DataW H} {p : List MemPlace} (ht : P.underlying t = some .string) (hval : Value.okWide P W .any base t v) (h : DataW.Trod enc P W 0 (fun _ => true) true t v d p) :
    ∃ s : ByteArray, RepI (fun _ => False) W v (.str s) ∧ s.size ≤ 9223372036854775807 := by
  obtain ⟨fuel, h⟩ := h
  have hcell : Cell.ok P W .any base t v := by
    simp only [Value.okWide, ht, Cell.okWide] at hval
    exact hval
  cases v <;> first | (exfalso; simp [Cell.ok, ht] at hcell; done) | skip
  rename_i s
  simp only [Cell.ok, ht, IntKind.max, IntKind.signed, IntKind.bits] at hcell
  refine ⟨s, .str s, ?_⟩
  simp at hcell
  omega
theorem wf_ok {k : IntKind} {zs : List Int} {B : Nat} (h : ∀ z ∈ zs, (Lit.int k z).wf = true) (hk : k.min = 0 ∧ k.max = (B : Int) - 1) : Dig.ok B zs := by
  intro z hz
  have := h z hz
  simp only [Lit.wf, Bool.and_eq_true, decide_eq_true_eq, hk.1, hk.2] at this
  omega
theorem trodAll_below (hl : laidOutB P = true) (hB : Below W.heap.size W W') : ∀ (ts : List TypeId) (vs : List Value) (ds : List (DataW H)) (ps : List MemPlace),
    (ts.all fun t => P.readableRec t && decide (t < P.types.size)) = true → DataW.TrodAll enc P W 0 (fun _ => true) true ts vs ds ps → (∀ x ∈ ps, x.block < W.heap.size) →
    DataW.TrodAll enc P W' 0 (fun b => decide (b < W.heap.size)) true ts vs ds ps
  | [], vs, ds, ps, _, h, _ => by
    obtain ⟨rfl, rfl, rfl⟩ := trodAll_nil h
    exact trodAll_mk0
  | t :: ts, vs, ds, ps, hr, h, hlt => by
    obtain ⟨v, vs1, d, ds1, a, b, rfl, rfl, rfl, h1, h2⟩ := trodAll_cons h
    simp only [List.all_cons, Bool.and_eq_true, decide_eq_true_eq] at hr
    exact ⟨a, b, Below.trod hl hr.1.1 hr.1.2 h1 hB (fun x hx => hlt x (List.mem_append.2 (.inl hx))), trodAll_below hl hB ts vs1 ds1 b (by simpa using hr.2) h2 (fun x hx => hlt x (List.mem_append.2 (.inr hx))), rfl⟩
theorem post_true {f : Func} {s : ChangeSpec} {apart : Bool} {args : Array Value} {ds gs : List (DataW H)} {before : List MemPlace} {tb : TypeId} (hl : laidOutB P = true)
    (hr : (f.params.toList.all fun t => P.readableRec t && decide (t < P.types.size)) = true) (hrt : f.resultTypes = #[tb]) (htb : P.underlying tb = some .bool) (hv : s.vars = [])
    (hs : (s.fn H (ds ++ gs)).results = [.lit (.bool true)] ∧ (s.fn H (ds ++ gs)).args = ds ∧ (s.fn H (ds ++ gs)).vars = [])
    (hW : DataW.Whole enc P f.params.toList s.vars apart W args.toList ds gs before) (hB : Below W.heap.size W W') :
    s.post enc P f apart true false false W args (.bool true) W' := by
  have hlt := hW.lt
  have hW' := hW
  rw [hv] at hW'
  obtain ⟨p, q, hA, hV, rfl, _, _⟩ := hW'
  obtain ⟨rfl, rfl⟩ := trodVars_none hV
  refine ⟨ds, [], p ++ [], [], p, [], hW, ?_, ?_, ?_, hB.frame _, fun h => by cases h⟩
  · rw [hs.1, hrt]
    exact trodAll_cons_mk (shut_bool htb _) trodAll_mk0
  · rw [hs.2.1]
    exact trodAll_below hl hB _ _ _ _ hr hA (fun x hx => hlt x (by simpa using hx))
  · rw [hs.2.2, hv]
    rfl
theorem calls_true {G : World → Prop} {f : FuncId} {ds : List D} {args : Array Value} (h : PCr P G f ds (.bool true)) (hg : G W) (hsz : args.size = ds.length) (hr : ∀ i d, ds[i]? = some d → RepI (fun _ => False) W (args.toList.getD i undef) d) :
    Calls P f args W fun e W' => e = .returned (.bool true) ∧ Below W.heap.size W W' :=
  (h W (fun _ => False) args hg (fun _ h => h.elim) hsz (fun i d hi => by simpa using hr i d hi)).mono fun e W' ⟨v, he, hv, hB⟩ => by
    cases hv
    exact ⟨he, hB⟩
def gPow (P : Program) (w : World) : Prop := Lib.TabIs P w "internal/strconv.uint64pow10" .u64 Lib.pow10Tab
theorem gPow_of {x y : String × DataW Unit} {rest : List (String × DataW Unit)} {g : Nat} {t e : TypeId} {n : Nat} (hg : P.globalNamed "internal/strconv.uint64pow10" = some g) (hty : (P.globals[g]?).map (·.type) = some t) (ht : P.underlying t = some (.array n e)) (he : P.underlying e = some (.int .u64)) (hce : P.cellsOf e = 1) (hct : P.cellsOf t = n)
    (hplain : ((x :: y :: ("internal/strconv.uint64pow10", Lib.tabData .u64 Lib.pow10Tab) :: rest).all fun x => x.2.handleName?.isNone) = true)
    (h : laidMetH P (x :: y :: ("internal/strconv.uint64pow10", Lib.tabData .u64 Lib.pow10Tab) :: rest) W) : gPow P W := by
  rw [MakeChecks.laidMetH_plain _ _ _ hplain] at h
  exact Lib.tabIs_of_head hg hty ht he hce hct h.tail.tail
theorem gPow_stable {g : Nat} (hg : P.globalNamed "internal/strconv.uint64pow10" = some g) : Stable (gPow P) := by
  intro w w' h hB
  have h' : w.var? P "internal/strconv.uint64pow10" = _ := h
  refine var?_below hB hg ?_ h'
  unfold World.var? at h'
  simp only [hg, Option.bind_some] at h'
  split at h'
  · rename_i hk
    exact (Array.getElem?_eq_some_iff.1 hk).1
  · cases h'
theorem no_arg : (∀ i d, ([] : List D)[i]? = some d → RepI (fun _ => False) W (([] : List Value).getD i undef) d) := fun i d h => by simp at h
theorem cons_arg {v : Value} {vs : List Value} {d : D} {ds : List D} (h : RepI (fun _ => False) W v d) (hs : ∀ i d, ds[i]? = some d → RepI (fun _ => False) W (vs.getD i undef) d) :
    ∀ i e, (d :: ds)[i]? = some e → RepI (fun _ => False) W ((v :: vs).getD i undef) e := by
  intro i e hi
  cases i with
  | zero => simp at hi; subst hi; simpa using h
  | succ i => exact hs i e (by simpa using hi)
end Go.Proofs.YtgimaioeifnajaaGreatDoorK.RowT
/-
  From a contract to a row: structs among the arguments, told by their cells.
-/
namespace Go.Proofs.YtgimaioeifnajaaGreatDoorK.RowT
open Go.ChangeShapes Go.WideShapes Go.ChangeAt Go.RowKit AI
variable {H : Type} {enc : TypeId × Value → H} {P : Program} {W W' : World}
def Tr (enc : TypeId × Value → H) (P : Program) (W : World) (t : TypeId) (cs : List Value) : Prop := ∃ fuel x, DataW.trod enc P W 0 (fun _ => true) true fuel t cs = some x
theorem tr_of {t : TypeId} {v : Value} {d : DataW H} {p : List MemPlace} (h : DataW.Trod enc P W 0 (fun _ => true) true t v d p) : Tr enc P W t v.cells.toList := by
  obtain ⟨fuel, h⟩ := h
  exact ⟨fuel, _, h⟩
theorem tr_to {t : TypeId} {v : Value} (hv : v.cells = #[v]) (h : Tr enc P W t [v]) : ∃ d p, DataW.Trod enc P W 0 (fun _ => true) true t v d p := by
  obtain ⟨fuel, x, h⟩ := h
  exact ⟨x.1, x.2, fuel, by rw [hv]; exact h⟩
theorem tr_fld {t : TypeId} {fs : Array Field} {f : Field} {cs : List Value} (i : Nat) (ht : P.underlying t = some (.struct fs)) (hf : fs[i]? = some f) (h : Tr enc P W t cs) : Tr enc P W f.type ((cs.drop f.offset).take (P.cellsOf f.type)) := by
  obtain ⟨fuel, x, h⟩ := h
  cases fuel with
  | zero => simp [DataW.trod] at h
  | succ fuel =>
    simp only [DataW.trod, ht] at h
    split at h
    · simp only [Option.map_eq_some_iff] at h
      obtain ⟨xs, h, _⟩ := h
      obtain ⟨y, hy⟩ := mapM_each h f (by
        rw [Array.getElem?_eq_some_iff] at hf
        obtain ⟨hi, rfl⟩ := hf
        exact Array.mem_toList_iff.2 (Array.getElem_mem hi))
      exact ⟨fuel, y, hy⟩
    · cases h
theorem tr_fld2 {t u : TypeId} {fs : Array Field} {f : Field} {cs cs' : List Value} {n : Nat} (i : Nat) (ht : P.underlying t = some (.struct fs)) (hf : fs[i]? = some f) (hu : f.type = u) (hn : P.cellsOf u = n) (hcs : (cs.drop f.offset).take n = cs') (h : Tr enc P W t cs) : Tr enc P W u cs' := by
  subst hu hn hcs
  exact tr_fld i ht hf h
theorem bnd {k : IntKind} {z lo hi : Int} (h : (Lit.int k z).wf = true) (hk : k.min = lo ∧ k.max = hi) : lo ≤ z ∧ z ≤ hi := by
  simp only [Lit.wf, Bool.and_eq_true, decide_eq_true_eq, hk.1, hk.2] at h
  exact h
theorem cells_ok {base n : Nat} {t : TypeId} {fs : Array Field} {ts : List TypeId} {v : Value} (ht : P.underlying t = some (.struct fs)) (hts : P.cellTypes P.depth t = some ts) (hn : P.cellsOf t = n) (hn2 : ts.length = n) (h : Value.okWide P W .any base t v) :
    ∃ cs : List Value, v = .agg cs.toArray ∧ cs.length = ts.length ∧ ∀ i u, ts[i]? = some u → Cell.okWide P W .any base u (cs.getD i undef) := by
  subst hn2
  simp only [Value.okWide, ht] at h
  obtain ⟨cs, rfl, hsz, ts', h1, _, h2⟩ := h
  rw [hts] at h1
  cases h1
  refine ⟨cs.toList, by simp, by simp [hsz, hn], fun i u hi => ?_⟩
  have hlt : i < ts.length := (List.getElem?_eq_some_iff.1 hi).1
  have hlt2 : i < cs.size := by omega
  obtain ⟨u', h3, h4⟩ := h2 i cs[i] (Array.getElem?_eq_getElem hlt2)
  rw [Nat.mod_eq_of_lt hlt, hi] at h3
  cases h3
  rw [List.getD_eq_getElem?_getD, Array.getElem?_toList, Array.getElem?_eq_getElem hlt2]
  exact h4
theorem val_of_cell {base : Nat} {t : TypeId} {v : Value} (h : (match P.underlying t with | some (.struct _) => false | some (.array _ _) => false | _ => true) = true) (hc : Cell.okWide P W .any base t v) : Value.okWide P W .any base t v := by
  unfold Value.okWide
  split
  · rename_i h1; rw [h1] at h; cases h
  · rename_i h1; rw [h1] at h; cases h
  · exact hc
theorem cells_one {base : Nat} {t : TypeId} {v : Value} (hc : Cell.okWide P W .any base t v) : v.cells = #[v] := by
  cases v
  case agg cs => exfalso; revert hc; cases h : P.underlying t with | none => simp [Cell.okWide, Cell.ok, h] | some d => cases d <;> simp [Cell.okWide, Cell.ok, h]
  all_goals rfl
theorem agg_rep {cs : List Value} {ds : List D} (hl : cs.length = ds.length) (h : ∀ i d, ds[i]? = some d → RepI (fun _ => False) W (cs.getD i undef) d) : RepI (fun _ => False) W (.agg cs.toArray) (.agg ds) :=
  .agg _ _ (by simpa using hl) (fun i d hi => by have := h i d hi; simpa [Array.getD_eq_getD_getElem?, List.getD_eq_getElem?_getD] using this)
theorem gMax_of (hS : W.ShapedOpen Tryz.prog) : LibT.gMax W := by
  exact cell_of_shapedOpen_int (P := Tryz.prog) (g := 0) (t := 3) (zero := #[.int .i64 0]) hS (of_decide_eq_true (by kernel_rfl)) (by kernel_rfl) rfl (by kernel_rfl) (by kernel_rfl) Tryz.underlying3
def gAll (w : World) : Prop := gPow Tryz.prog w ∧ LibT.gMax w
theorem gAll_stable {g : Nat} (hg : Tryz.prog.globalNamed "internal/strconv.uint64pow10" = some g) : Stable gAll := fun w w' h hB => ⟨gPow_stable hg w w' h.1 hB, LibT.gMax_stable w w' h.2 hB⟩
end Go.Proofs.YtgimaioeifnajaaGreatDoorK.RowT
/-
  From a contract to a row: arguments of any plain type (numbers, texts, rows, structs, arrays, one within the other), told by their data.
-/
namespace Go.Proofs.YtgimaioeifnajaaGreatDoorK.RowT
open Go.ChangeShapes Go.WideShapes Go.ChangeAt Go.RowKit AI
variable {H : Type} {enc : TypeId × Value → H} {P : Program} {W W' : World}
inductive RepL (W : World) : List Value → List D → Prop
  | nil : RepL W [] []
  | cons {v : Value} {d : D} {vs : List Value} {ds : List D} (h : RepI (fun _ => False) W v d) (t : RepL W vs ds) : RepL W (v :: vs) (d :: ds)
theorem RepL.app : ∀ {a b : List Value} {x y : List D}, RepL W a x → RepL W b y → RepL W (a ++ b) (x ++ y)
  | _, _, _, _, .nil, h => h
  | _, _, _, _, .cons h t, k => .cons h (t.app k)
theorem RepL.len : ∀ {a : List Value} {x : List D}, RepL W a x → x.length = a.length
  | _, _, .nil => rfl
  | _, _, .cons _ t => by simp [t.len]
theorem RepL.get : ∀ {a : List Value} {x : List D}, RepL W a x → ∀ i d, x[i]? = some d → RepI (fun _ => False) W (a.getD i undef) d
  | _, _, .nil, i, d, h => by simp at h
  | _, _, .cons h t, 0, d, hi => by simp at hi; subst hi; simpa using h
  | _, _, .cons h t, i + 1, d, hi => by simpa using t.get i d (by simpa using hi)
theorem RepL.un : ∀ (a : List Value), RepL W a (a.map fun _ => .un)
  | [] => .nil
  | _ :: l => .cons (.un _) (RepL.un l)
def IsC (P : Program) : Nat → TypeId → List D → Prop
  | 0, _, _ => False
  | n + 1, t, ds => match P.underlying t with
    | some .bool => ∃ b, ds = [.bool b]
    | some (.int k) => ∃ z, ds = [.int k z] ∧ (Lit.int k z).wf = true
    | some .string => ∃ s : ByteArray, ds = [.str s] ∧ s.size ≤ 9223372036854775807
    | some (.slice e) => ∃ rows : List (List D), ds = [.sl rows.length rows.flatten] ∧ rows.length ≤ 9223372036854775807 ∧ ∀ r ∈ rows, r.length = P.cellsOf e ∧ IsC P n e r
    | some (.struct fs) => ∃ parts : List (List D), ds = parts.flatten ∧ parts.length = fs.toList.length ∧ ∀ (i : Nat) f p, fs.toList[i]? = some f → parts[i]? = some p → p.length = P.cellsOf f.type ∧ IsC P n f.type p
    | some (.array k e) => ∃ parts : List (List D), ds = parts.flatten ∧ parts.length = k ∧ ∀ p ∈ parts, p.length = P.cellsOf e ∧ IsC P n e p
    | _ => True
theorem take_drop_app {α : Type} (l : List α) (o a b : Nat) : ((l.drop o).take a) ++ ((l.drop (o + a)).take b) = (l.drop o).take (a + b) := by
  rw [← List.drop_drop, List.take_add]
theorem mapM_cons_some {α β : Type} {f : α → Option β} {x : α} {l : List α} {r : List β} (h : (x :: l).mapM f = some r) : ∃ y ys, f x = some y ∧ l.mapM f = some ys ∧ r = y :: ys := by
  simp only [List.mapM_cons, Option.bind_eq_bind, Option.bind_eq_some_iff, Option.pure_def, Option.some.injEq] at h
  obtain ⟨y, hy, ys, hys, rfl⟩ := h
  exact ⟨y, ys, hy, hys, rfl⟩
theorem fields_rep {n : Nat} {cs : List Value} {g : Field → Option (DataW H × List MemPlace)}   : ∀ (l : List Field) (o : Nat) (xs : List (DataW H × List MemPlace)), (∀ f ∈ l, ∀ x, g f = some x → ∃ p, RepL W ((cs.drop f.offset).take (P.cellsOf f.type)) p ∧ p.length = P.cellsOf f.type ∧ IsC P n f.type p) → l.mapM g = some xs →
    (∀ (j : Nat) f, l[j]? = some f → f.offset = o + ((l.take j).map fun f => P.cellsOf f.type).sum) →
    ∃ parts : List (List D), RepL W ((cs.drop o).take (l.map fun f => P.cellsOf f.type).sum) parts.flatten ∧ parts.length = l.length ∧ ∀ (i : Nat) f p, l[i]? = some f → parts[i]? = some p → p.length = P.cellsOf f.type ∧ IsC P n f.type p
  | [], o, xs, hg, h, ho => ⟨[], by simpa using RepL.nil, rfl, fun i f p hf => by simp at hf⟩
  | f :: l, o, xs, hg, h, ho => by
    obtain ⟨y, ys, hy, hys, rfl⟩ := mapM_cons_some h
    obtain ⟨p, hp, hpl, hpc⟩ := hg f List.mem_cons_self y hy
    have h0 : f.offset = o := by simpa using ho 0 f rfl
    obtain ⟨parts, h1, h2, h3⟩ := fields_rep l (o + P.cellsOf f.type) ys (fun f hf => hg f (List.mem_cons_of_mem _ hf)) hys (fun j f' hj => by
      have := ho (j + 1) f' (by simpa using hj)
      simp only [List.take_succ_cons, List.map_cons, List.sum_cons] at this
      omega)
    refine ⟨p :: parts, ?_, by simp [h2], fun i f' p' hf hp' => ?_⟩
    · rw [h0] at hp
      have := hp.app h1
      rw [take_drop_app] at this
      simpa using this
    · cases i with
      | zero => simp at hf hp'; subst hf hp'; exact ⟨hpl, hpc⟩
      | succ i => exact h3 i f' p' (by simpa using hf) (by simpa using hp')
theorem items_rep {n : Nat} {e : TypeId} {sz : Nat} {cs : List Value} {g : Nat → Option (DataW H × List MemPlace)}   : ∀ (k o : Nat) (xs : List (DataW H × List MemPlace)), (∀ i, o ≤ i → i < o + k → ∀ x, g i = some x → ∃ p, RepL W ((cs.drop (i * sz)).take sz) p ∧ p.length = sz ∧ IsC P n e p) → (List.range' o k).mapM g = some xs →
    ∃ parts : List (List D), RepL W ((cs.drop (o * sz)).take (k * sz)) parts.flatten ∧ parts.length = k ∧ ∀ p ∈ parts, p.length = sz ∧ IsC P n e p
  | 0, o, xs, hg, h => ⟨[], by simpa using RepL.nil, rfl, fun p hp => by simp at hp⟩
  | k + 1, o, xs, hg, h => by
    rw [List.range'_succ] at h
    obtain ⟨y, ys, hy, hys, rfl⟩ := mapM_cons_some h
    obtain ⟨p, hp, hpl, hpc⟩ := hg o (Nat.le_refl _) (by omega) y hy
    obtain ⟨parts, h1, h2, h3⟩ := items_rep k (o + 1) ys (fun i h1 h2 => hg i (by omega) (by omega)) hys
    refine ⟨p :: parts, ?_, by simp [h2], fun p' hp' => ?_⟩
    · have := hp.app h1
      rw [show (o + 1) * sz = o * sz + sz by rw [Nat.add_mul]; omega, take_drop_app] at this
      rw [show (k + 1) * sz = sz + k * sz by rw [Nat.add_mul]; omega]
      simpa using this
    · rcases List.mem_cons.1 hp' with rfl | hp'
      · exact ⟨hpl, hpc⟩
      · exact h3 p' hp'
theorem range_mapM_len {α : Type} {g : Nat → Option α} : ∀ (k o : Nat) (xs : List α), (List.range' o k).mapM g = some xs → xs.length = k ∧ ∀ i, i < k → g (o + i) = xs[i]?
  | 0, o, xs, h => by simp at h; subst h; exact ⟨rfl, fun i hi => absurd hi (Nat.not_lt_zero _)⟩
  | k + 1, o, xs, h => by
    rw [List.range'_succ] at h
    obtain ⟨y, ys, hy, hys, rfl⟩ := mapM_cons_some h
    obtain ⟨h1, h2⟩ := range_mapM_len k (o + 1) ys hys
    refine ⟨by simp [h1], fun i hi => ?_⟩
    cases i with
    | zero => simpa using hy
    | succ i => rw [show o + (i + 1) = o + 1 + i by omega, h2 i (by omega)]; simp
theorem rep_cells (hl : laidOutB P = true) : ∀ (n : Nat) (t : TypeId) (cs : List Value) (x : DataW H × List MemPlace), t < P.types.size → DataW.trod enc P W 0 (fun _ => true) true n t cs = some x → ∃ ds, RepL W cs ds ∧ IsC P n t ds
  | 0, t, cs, x, ht, h => by simp [DataW.trod] at h
  | n + 1, t, cs, x, ht, h => by
    simp only [DataW.trod] at h
    simp only [IsC]
    split at h
    case h_1 b hu => simp only [hu]; exact ⟨[.bool b], .cons (.bool b) .nil, b, rfl⟩
    case h_2 k k' z hu =>
      simp only [hu]
      split at h
      · rename_i hc
        obtain ⟨rfl, hw⟩ := hc
        exact ⟨[.int k' z], .cons (.int _ _) .nil, z, rfl, hw⟩
      · cases h
    case h_4 s hu =>
      simp only [hu]
      split at h
      · rename_i hc
        have : maxLen = 9223372036854775807 := rfl
        exact ⟨[.str s], .cons (.str _) .nil, s, rfl, by omega⟩
      · cases h
    case h_7 e hu =>
      simp only [hu]
      exact ⟨[.sl 0 []], .cons (.sl none 0 0 [] 0 0 (fun _ => undef) (Nat.le_refl _) (Nat.zero_le _) (fun h => absurd rfl h) (fun h => absurd rfl h) (fun j d h => by simp at h) (fun j d h => by simp at h)) .nil, [], rfl, Nat.zero_le _, fun r hr => by simp at hr⟩
    case h_8 e a len cap hu =>
      simp only [hu]
      split at h
      · rename_i hc
        obtain ⟨_, hlc, hcm⟩ := hc
        have hmx : maxLen = 9223372036854775807 := rfl
        obtain ⟨elems, he, h⟩ := Option.bind_eq_some_iff.1 h
        have hkid := kid_slice hl ht hu
        rw [List.range_eq_range'] at he
        -- the cells, one behind the other
        obtain ⟨sz, hsz⟩ : ∃ sz, P.cellsOf e = sz := ⟨_, rfl⟩
        rw [hsz] at he ⊢
        let us : Nat → Value := fun j => (W.cell? (a.add j)).getD undef
        have hadd : ∀ i j, (a.add i).add j = a.add (i + j) := fun i j => by
          obtain ⟨g, o, sp⟩ := a
          unfold Addr.add
          by_cases hi : i = 0
          · subst hi; simp
          · by_cases hj : j = 0
            · subst hj; simp [hi]
            · simp [hi, hj, Nat.add_assoc]
        have hrow : ∀ (i : Nat) cs', W.cells? 0 (a.add (i * sz)) sz = some cs' → cs'.length = sz ∧ ∀ j, j < sz → W.cell? (a.add (i * sz + j)) = cs'[j]? := fun i cs' hcs => by
          unfold World.cells? at hcs
          rw [if_pos (Nat.zero_le _), List.range_eq_range'] at hcs
          obtain ⟨h1, h2⟩ := range_mapM_len _ _ _ hcs
          refine ⟨h1, fun j hj => ?_⟩
          have := h2 j hj
          rw [Nat.zero_add, hadd] at this
          exact this
        have hlist : ((List.range (len * sz)).map us).length = len * sz := by simp
        have hslice : ∀ i, i < len → ∀ cs', W.cells? 0 (a.add (i * sz)) sz = some cs' → ((((List.range (len * sz)).map us).drop (i * sz)).take sz) = cs' := fun i hi cs' hcs => by
          obtain ⟨h1, h2⟩ := hrow i cs' hcs
          have hle : i * sz + sz ≤ len * sz := by
            have := Nat.mul_le_mul_right sz (show i + 1 ≤ len by omega)
            rw [Nat.add_mul] at this
            omega
          refine List.ext_getElem? fun j => ?_
          rw [List.getElem?_take]
          split
          · rename_i hj
            rw [List.getElem?_drop, List.getElem?_map, List.getElem?_range (by omega), Option.map_some, ← h2 j hj]
            show some ((W.cell? _).getD undef) = _
            rw [h2 j hj, List.getElem?_eq_getElem (by omega)]; rfl
          · rename_i hj
            rw [List.getElem?_eq_none (by omega)]
        have hel := range_mapM_len _ _ _ he
        obtain ⟨rows, h1, h2, h3⟩ := items_rep (n := n) (e := e) (P := P) (W := W) (cs := (List.range (len * sz)).map us) (sz := sz) len 0 elems (fun i _ hi x hx => by
          obtain ⟨cs', hcs, hx⟩ := Option.bind_eq_some_iff.1 hx
          obtain ⟨ds, h1, h2⟩ := rep_cells hl n e cs' x hkid hx
          rw [hslice i (by omega) cs' hcs]
          exact ⟨ds, h1, by rw [h1.len]; exact (hrow i cs' hcs).1, h2⟩) he
        rw [Nat.zero_mul, List.drop_zero, List.take_of_length_le (by rw [hlist]; exact Nat.le_refl _)] at h1
        have hfl : rows.flatten.length = len * sz := by rw [h1.len, hlist]
        -- where they lie
        have hcell : ∀ j, j < len * sz → ∃ v, W.cell? (a.add j) = some v ∧ us j = v := fun j hj => by
          have hsz0 : 0 < sz := by
            rcases Nat.eq_zero_or_pos sz with h | h
            · subst h; simp at hj
            · exact h
          have hi : j / sz < len := Nat.div_lt_of_lt_mul (by rw [Nat.mul_comm]; exact hj)
          have hx := hel.2 (j / sz) hi
          rw [Nat.zero_add, List.getElem?_eq_getElem (by omega)] at hx
          obtain ⟨cs', hcs, _⟩ := Option.bind_eq_some_iff.1 hx
          obtain ⟨h1, h2⟩ := hrow _ cs' hcs
          have hm := Nat.mod_lt j hsz0
          have := h2 (j % sz) hm
          rw [Nat.mul_comm, Nat.div_add_mod, List.getElem?_eq_getElem (by omega)] at this
          exact ⟨_, this, by show (W.cell? _).getD undef = _; rw [this]; rfl⟩
        obtain ⟨g, o, sp⟩ := a
        have hsp : rows.flatten ≠ [] → sp = none := fun hne => by
          have hpos : 0 < len * sz := by
            rcases Nat.eq_zero_or_pos (len * sz) with h | h
            · exact absurd (List.eq_nil_of_length_eq_zero (by rw [hfl, h])) hne
            · exact h
          obtain ⟨v, hv, _⟩ := hcell 0 hpos
          unfold World.cell? Addr.add at hv
          simp only [if_true] at hv
          split at hv
          · split at hv
            · cases hv
            · rename_i hs
              cases sp with
              | none => rfl
              | some s => simp at hs
          · cases hv
        subst h2
        refine ⟨[.sl rows.length rows.flatten], .cons (.sl (some ⟨g, o, sp⟩) rows.length cap rows.flatten g o us (by omega) hcm (fun hne => by rw [hsp hne]) (fun _ h => h) (fun j d hj => ?_) (fun j d hj => ?_)) .nil, rows, rfl, by omega, h3⟩
        · have hjl : j < rows.length * sz := by have := (List.getElem?_eq_some_iff.1 hj).1; omega
          have hne : rows.flatten ≠ [] := fun e => by rw [e] at hj; simp at hj
          obtain ⟨v, hv, hu'⟩ := hcell j hjl
          rw [hsp hne] at hv
          rw [hu', ← hv, cellv]
          unfold Addr.add
          by_cases h0 : j = 0
          · subst h0; simp
          · rw [if_neg h0]
        · have hjl : j < rows.length * sz := by have := (List.getElem?_eq_some_iff.1 hj).1; omega
          have := h1.get j d hj
          rwa [List.getD_eq_getElem?_getD, List.getElem?_map, List.getElem?_range hjl] at this
      · cases h
    case h_9 cs o0 cs2 fs hu =>
      simp only [hu]
      split at h
      · rename_i hlen
        obtain ⟨xs, hxs, _⟩ := Option.map_eq_some_iff.1 h
        obtain ⟨k1, k2, k3⟩ := kid_struct hl ht hu
        obtain ⟨parts, h1, h2, h3⟩ := fields_rep (n := n) (P := P) (W := W) (cs := cs) fs.toList 0 xs (fun f hf x hx => by
          obtain ⟨ds, h1, h2⟩ := rep_cells hl n f.type _ x (k1 f hf) hx
          refine ⟨ds, h1, ?_, h2⟩
          obtain ⟨j, hj⟩ := List.mem_iff_getElem?.1 hf
          have h3 := k3 j f hj
          have h4 : f.offset + P.cellsOf f.type ≤ cs.length := by
            rw [hlen, k2, h3]
            have hjl := (List.getElem?_eq_some_iff.1 hj).1
            have e : fs.toList = fs.toList.take j ++ f :: fs.toList.drop (j + 1) := by
              rw [← (List.getElem?_eq_some_iff.1 hj).2, ← List.drop_eq_getElem_cons hjl, List.take_append_drop]
            rw [e, List.take_append_of_le_length (by rw [List.length_take]; omega), List.take_take, Nat.min_self]
            simp only [List.map_append, List.map_cons, List.sum_append, List.sum_cons]
            omega
          rw [h1.len, List.length_take, List.length_drop]
          omega) hxs (fun j f hj => by rw [Nat.zero_add]; exact k3 j f hj)
        rw [List.drop_zero, List.take_of_length_le (by rw [hlen, k2]; exact Nat.le_refl _)] at h1
        exact ⟨parts.flatten, h1, parts, rfl, h2, h3⟩
      · cases h
    case h_10 cs o0 cs2 k e hu =>
      simp only [hu]
      split at h
      · rename_i hlen
        obtain ⟨xs, hxs, _⟩ := Option.map_eq_some_iff.1 h
        obtain ⟨k1, k2⟩ := kid_array hl ht hu
        rw [List.range_eq_range'] at hxs
        obtain ⟨parts, h1, h2, h3⟩ := items_rep (n := n) (e := e) (P := P) (W := W) (cs := cs) (sz := P.cellsOf e) k 0 xs (fun i _ hi x hx => by
          obtain ⟨ds, h1, h2⟩ := rep_cells hl n e _ x k1 hx
          refine ⟨ds, h1, ?_, h2⟩
          have := Nat.mul_le_mul_right (P.cellsOf e) (show i + 1 ≤ k by omega)
          rw [Nat.add_mul] at this
          rw [h1.len, List.length_take, List.length_drop, hlen, k2]
          omega) hxs
        rw [Nat.zero_mul, List.drop_zero, List.take_of_length_le (by rw [hlen, k2]; exact Nat.le_refl _)] at h1
        exact ⟨parts.flatten, h1, parts, rfl, h2, h3⟩
      · cases h
    all_goals first
      | (cases h; done)
      | (refine ⟨_, RepL.un _, ?_⟩; simp only [*]; done)
      | (refine ⟨_, RepL.un _, ?_⟩; simp_all; done)
      | (rename_i hu; refine ⟨_, RepL.un _, ?_⟩; rw [hu]; trivial)
      | (rename_i hu _; refine ⟨_, RepL.un _, ?_⟩; rw [hu]; trivial)
      | (rename_i hu _ _; refine ⟨_, RepL.un _, ?_⟩; rw [hu]; trivial)
theorem arg_agg (hl : laidOutB P = true) {base : Nat} {t : TypeId} {v : Value} {d : DataW H} {p : List MemPlace} (ht : t < P.types.size) (hu : (match P.underlying t with | some (.struct _) => true | some (.array _ _) => true | _ => false) = true)
    (hval : Value.okWide P W .any base t v) (h : DataW.Trod enc P W 0 (fun _ => true) true t v d p) : ∃ n ds, RepI (fun _ => False) W v (.agg ds) ∧ IsC P n t ds := by
  have hv : ∃ cs : Array Value, v = .agg cs := by
    unfold Value.okWide at hval
    split at hval
    · obtain ⟨cs, h, _⟩ := hval; exact ⟨cs, h⟩
    · obtain ⟨cs, h, _⟩ := hval; exact ⟨cs, h⟩
    · rename_i h1 h2
      split at hu
      · rename_i h3; exact absurd h3 (h1 _)
      · rename_i h3; exact absurd h3 (h2 _ _)
      · cases hu
  obtain ⟨cs, rfl⟩ := hv
  obtain ⟨n, h⟩ := h
  obtain ⟨ds, h1, h2⟩ := rep_cells hl n t cs.toList _ ht h
  refine ⟨n, ds, .agg cs ds (by rw [h1.len]; simp) fun j d hj => ?_, h2⟩
  have := h1.get j d hj
  rwa [List.getD_eq_getElem?_getD, Array.getElem?_toList, ← Array.getD_eq_getD_getElem?] at this
theorem arg_one (hl : laidOutB P = true) {t : TypeId} {v : Value} {d : DataW H} {p : List MemPlace} (ht : t < P.types.size) (hv : v.cells = #[v]) (h : DataW.Trod enc P W 0 (fun _ => true) true t v d p) : ∃ n e, RepI (fun _ => False) W v e ∧ IsC P n t [e] := by
  obtain ⟨n, h⟩ := h
  rw [hv] at h
  obtain ⟨ds, h1, h2⟩ := rep_cells hl n t [v] _ ht h
  cases h1 with
  | cons h t =>
    cases t
    exact ⟨n, _, h, h2⟩
section
variable {n : Nat} {t e : TypeId} {ds : List D}
theorem IsC.int {k : IntKind} (h : IsC P n t ds) (hu : P.underlying t = some (.int k)) : ∃ z, ds = [.int k z] ∧ (Lit.int k z).wf = true := by
  cases n with
  | zero => exact h.elim
  | succ n => simp only [IsC, hu] at h; exact h
theorem IsC.bool (h : IsC P n t ds) (hu : P.underlying t = some .bool) : ∃ b, ds = [.bool b] := by
  cases n with
  | zero => exact h.elim
  | succ n => simp only [IsC, hu] at h; exact h
theorem IsC.str (h : IsC P n t ds) (hu : P.underlying t = some .string) : ∃ s : ByteArray, ds = [.str s] ∧ s.size ≤ 9223372036854775807 := by
  cases n with
  | zero => exact h.elim
  | succ n => simp only [IsC, hu] at h; exact h
theorem IsC.slice (h : IsC P n t ds) (hu : P.underlying t = some (.slice e)) : ∃ m, ∃ rows : List (List D), ds = [.sl rows.length rows.flatten] ∧ rows.length ≤ 9223372036854775807 ∧ ∀ r ∈ rows, r.length = P.cellsOf e ∧ IsC P m e r := by
  cases n with
  | zero => exact h.elim
  | succ n => simp only [IsC, hu] at h; exact ⟨n, h⟩
theorem IsC.struct {fs : Array Field} (h : IsC P n t ds) (hu : P.underlying t = some (.struct fs)) : ∃ m, ∃ parts : List (List D), ds = parts.flatten ∧ parts.length = fs.toList.length ∧ ∀ (i : Nat) f p, fs.toList[i]? = some f → parts[i]? = some p → p.length = P.cellsOf f.type ∧ IsC P m f.type p := by
  cases n with
  | zero => exact h.elim
  | succ n => simp only [IsC, hu] at h; exact ⟨n, h⟩
theorem IsC.array {k : Nat} (h : IsC P n t ds) (hu : P.underlying t = some (.array k e)) : ∃ m, ∃ parts : List (List D), ds = parts.flatten ∧ parts.length = k ∧ ∀ p ∈ parts, p.length = P.cellsOf e ∧ IsC P m e p := by
  cases n with
  | zero => exact h.elim
  | succ n => simp only [IsC, hu] at h; exact ⟨n, h⟩
theorem ints_of {k : IntKind} (hu : P.underlying e = some (.int k)) {m : Nat} : ∀ parts : List (List D), (∀ p ∈ parts, p.length = P.cellsOf e ∧ IsC P m e p) → ∃ l : List Int, parts.flatten = l.map (.int k) ∧ l.length = parts.length ∧ ∀ z ∈ l, (Lit.int k z).wf = true
  | [], _ => ⟨[], rfl, rfl, fun z hz => by simp at hz⟩
  | p :: ps, h => by
    obtain ⟨l, h1, h2, h3⟩ := ints_of hu ps (fun q hq => h q (List.mem_cons_of_mem _ hq))
    obtain ⟨z, rfl, hw⟩ := (h p List.mem_cons_self).2.int hu
    refine ⟨z :: l, by simp [h1], by simp [h2], fun y hy => ?_⟩
    rcases List.mem_cons.1 hy with rfl | hy
    · exact hw
    · exact h3 y hy
theorem strs_of (hu : P.underlying e = some .string) {m : Nat} : ∀ parts : List (List D), (∀ p ∈ parts, p.length = P.cellsOf e ∧ IsC P m e p) → ∃ l : List ByteArray, parts.flatten = l.map .str ∧ l.length = parts.length ∧ ∀ z ∈ l, z.size ≤ 9223372036854775807
  | [], _ => ⟨[], rfl, rfl, fun z hz => by simp at hz⟩
  | p :: ps, h => by
    obtain ⟨l, h1, h2, h3⟩ := strs_of hu ps (fun q hq => h q (List.mem_cons_of_mem _ hq))
    obtain ⟨z, rfl, hw⟩ := (h p List.mem_cons_self).2.str hu
    refine ⟨z :: l, by simp [h1], by simp [h2], fun y hy => ?_⟩
    rcases List.mem_cons.1 hy with rfl | hy
    · exact hw
    · exact h3 y hy
theorem IsC.row {k : IntKind} (h : IsC P n t ds) (hu : P.underlying t = some (.slice e)) (he : P.underlying e = some (.int k)) : ∃ l : List Int, ds = [.sl l.length (l.map (.int k))] ∧ (∀ z ∈ l, (Lit.int k z).wf = true) ∧ l.length ≤ 9223372036854775807 := by
  obtain ⟨m, rows, rfl, h1, h2⟩ := h.slice hu
  obtain ⟨l, h3, h4, h5⟩ := ints_of he rows h2
  exact ⟨l, by rw [h3, h4], h5, by omega⟩
theorem IsC.strs (h : IsC P n t ds) (hu : P.underlying t = some (.slice e)) (he : P.underlying e = some .string) : ∃ l : List ByteArray, ds = [.sl l.length (l.map .str)] ∧ (∀ z ∈ l, z.size ≤ 9223372036854775807) ∧ l.length ≤ 9223372036854775807 := by
  obtain ⟨m, rows, rfl, h1, h2⟩ := h.slice hu
  obtain ⟨l, h3, h4, h5⟩ := strs_of he rows h2
  exact ⟨l, by rw [h3, h4], h5, by omega⟩
theorem IsC.ints {k : IntKind} {m : Nat} (h : IsC P n t ds) (hu : P.underlying t = some (.array m e)) (he : P.underlying e = some (.int k)) : ∃ l : List Int, ds = l.map (.int k) ∧ l.length = m ∧ ∀ z ∈ l, (Lit.int k z).wf = true := by
  obtain ⟨q, parts, rfl, h1, h2⟩ := h.array hu
  obtain ⟨l, h3, h4, h5⟩ := ints_of he parts h2
  exact ⟨l, h3, by omega, h5⟩
def AllC (P : Program) (m : Nat) : List TypeId → List (List D) → Prop
  | [], [] => True
  | u :: us, p :: ps => IsC P m u p ∧ AllC P m us ps
  | _, _ => False
theorem allC_of {m : Nat} : ∀ (l : List Field) (parts : List (List D)), parts.length = l.length → (∀ (i : Nat) f p, l[i]? = some f → parts[i]? = some p → p.length = P.cellsOf f.type ∧ IsC P m f.type p) → AllC P m (l.map (·.type)) parts
  | [], [], _, _ => trivial
  | [], p :: ps, h, _ => by simp at h
  | f :: l, [], h, _ => by simp at h
  | f :: l, p :: ps, h, h2 => ⟨(h2 0 f p rfl rfl).2, allC_of l ps (by simpa using h) fun i f' p' hf hp => h2 (i + 1) f' p' (by simpa using hf) (by simpa using hp)⟩
theorem IsC.fields {fs : Array Field} {ts : List TypeId} (h : IsC P n t ds) (hu : P.underlying t = some (.struct fs)) (hts : fs.toList.map (·.type) = ts) : ∃ m parts, ds = parts.flatten ∧ AllC P m ts parts := by
  obtain ⟨m, parts, h1, h2, h3⟩ := h.struct hu
  exact ⟨m, parts, h1, by rw [← hts]; exact allC_of _ _ h2 h3⟩
theorem AllC.one {m : Nat} {t0 : TypeId} {parts : List (List D)} (h : AllC P m [t0] parts) : ∃ p0, parts = [p0] ∧ IsC P m t0 p0 := by
  match parts, h with
  | [p0], ⟨h0, _⟩ => exact ⟨p0, rfl, h0⟩
theorem AllC.two {m : Nat} {t0 t1 : TypeId} {parts : List (List D)} (h : AllC P m [t0, t1] parts) : ∃ p0 p1, parts = [p0, p1] ∧ IsC P m t0 p0 ∧ IsC P m t1 p1 := by
  match parts, h with
  | [p0, p1], ⟨h0, h1, _⟩ => exact ⟨p0, p1, rfl, h0, h1⟩
theorem AllC.three {m : Nat} {t0 t1 t2 : TypeId} {parts : List (List D)} (h : AllC P m [t0, t1, t2] parts) : ∃ p0 p1 p2, parts = [p0, p1, p2] ∧ IsC P m t0 p0 ∧ IsC P m t1 p1 ∧ IsC P m t2 p2 := by
  match parts, h with
  | [p0, p1, p2], ⟨h0, h1, h2, _⟩ => exact ⟨p0, p1, p2, rfl, h0, h1, h2⟩
theorem AllC.five {m : Nat} {t0 t1 t2 t3 t4 : TypeId} {parts : List (List D)} (h : AllC P m [t0, t1, t2, t3, t4] parts) : ∃ p0 p1 p2 p3 p4, parts = [p0, p1, p2, p3, p4] ∧ IsC P m t0 p0 ∧ IsC P m t1 p1 ∧ IsC P m t2 p2 ∧ IsC P m t3 p3 ∧ IsC P m t4 p4 := by
  match parts, h with
  | [p0, p1, p2, p3, p4], ⟨h0, h1, h2, h3, h4, _⟩ => exact ⟨p0, p1, p2, p3, p4, rfl, h0, h1, h2, h3, h4⟩
theorem IsC.nat {fs : Array Field} {tS tU : TypeId} (h : IsC P n t ds) (hu : P.underlying t = some (.struct fs)) (hts : fs.toList.map (·.type) = [tS]) (hS : P.underlying tS = some (.slice tU)) (hU : P.underlying tU = some (.int .u32)) :
    ∃ l : List Int, ds = [.sl l.length (l.map (.int .u32))] ∧ (∀ z ∈ l, (Lit.int .u32 z).wf = true) ∧ l.length ≤ 9223372036854775807 := by
  obtain ⟨m, parts, rfl, hc⟩ := h.fields hu hts
  obtain ⟨p0, rfl, hd⟩ := AllC.one hc
  obtain ⟨l, rfl, h1, h2⟩ := hd.row hS hU
  exact ⟨l, by simp, h1, h2⟩
theorem IsC.rat {fs fz fn : Array Field} {tZ tN tB tS tU : TypeId} (h : IsC P n t ds) (hu : P.underlying t = some (.struct fs)) (hts : fs.toList.map (·.type) = [tZ, tN]) (hz : P.underlying tZ = some (.struct fz)) (htz : fz.toList.map (·.type) = [tB, tN]) (hB : P.underlying tB = some .bool)
    (hn : P.underlying tN = some (.struct fn)) (htn : fn.toList.map (·.type) = [tS]) (hS : P.underlying tS = some (.slice tU)) (hU : P.underlying tU = some (.int .u32)) :
    ∃ (b : Bool) (x y : List Int), ds = [.bool b, .sl x.length (x.map (.int .u32)), .sl y.length (y.map (.int .u32))] ∧ (∀ z ∈ x, (Lit.int .u32 z).wf = true) ∧ x.length ≤ 9223372036854775807 ∧ (∀ z ∈ y, (Lit.int .u32 z).wf = true) ∧ y.length ≤ 9223372036854775807 := by
  obtain ⟨m, parts, rfl, hc⟩ := h.fields hu hts
  obtain ⟨p0, p1, rfl, h0, h1⟩ := AllC.two hc
  obtain ⟨m0, parts0, rfl, hd⟩ := h0.fields hz htz
  obtain ⟨q0, q1, rfl, g0, g1⟩ := AllC.two hd
  obtain ⟨b, rfl⟩ := g0.bool hB
  obtain ⟨x, rfl, x1, x2⟩ := g1.nat hn htn hS hU
  obtain ⟨y, rfl, y1, y2⟩ := h1.nat hn htn hS hU
  exact ⟨b, x, y, by simp, x1, x2, y1, y2⟩
end
end Go.Proofs.YtgimaioeifnajaaGreatDoorK.RowT
/-
  From a contract to a row: arguments that are rows of structs, of arrays, of texts.
-/
namespace Go.Proofs.YtgimaioeifnajaaGreatDoorK.RowT
open Go.ChangeShapes Go.WideShapes Go.ChangeAt Go.RowKit AI
variable {H : Type} {enc : TypeId × Value → H} {P : Program} {W W' : World}
theorem arg_sl (hl : laidOutB P = true) {base : Nat} {t e : TypeId} {v : Value} {d : DataW H} {p : List MemPlace} (ht : t < P.types.size) (hu : P.underlying t = some (.slice e))
    (hval : Value.okWide P W .any base t v) (h : DataW.Trod enc P W 0 (fun _ => true) true t v d p) : ∃ n x, RepI (fun _ => False) W v x ∧ IsC P n t [x] := by
  have hcell : Cell.ok P W .any base t v := by
    simp only [Value.okWide, hu, Cell.okWide] at hval
    exact hval
  have hv : v.cells = #[v] := by
    cases v <;> first | rfl | (exfalso; simp [Cell.ok, hu] at hcell)
  exact arg_one hl ht hv h
section
variable {n : Nat} {t e : TypeId} {ds : List D} {α : Type} {f : α → List D} {q : α → Prop}
theorem rows_of {m : Nat} (hq : ∀ r, IsC P m e r → ∃ x, r = f x ∧ q x) : ∀ rows : List (List D), (∀ r ∈ rows, r.length = P.cellsOf e ∧ IsC P m e r) → ∃ l : List α, rows.flatten = l.flatMap f ∧ l.length = rows.length ∧ ∀ x ∈ l, q x
  | [], _ => ⟨[], rfl, rfl, fun x h => by simp at h⟩
  | r :: rows, h => by
    obtain ⟨l, h1, h2, h3⟩ := rows_of hq rows (fun q hq => h q (List.mem_cons_of_mem _ hq))
    obtain ⟨x, rfl, hx⟩ := hq r (h r List.mem_cons_self).2
    refine ⟨x :: l, by simp [h1], by simp [h2], fun y hy => ?_⟩
    rcases List.mem_cons.1 hy with rfl | hy
    · exact hx
    · exact h3 y hy
theorem IsC.list (h : IsC P n t ds) (hu : P.underlying t = some (.slice e)) (hq : ∀ m r, IsC P m e r → ∃ x, r = f x ∧ q x) : ∃ l : List α, ds = [.sl l.length (l.flatMap f)] ∧ l.length ≤ 9223372036854775807 ∧ ∀ x ∈ l, q x := by
  obtain ⟨m, rows, rfl, h1, h2⟩ := h.slice hu
  obtain ⟨l, h3, h4, h5⟩ := rows_of (hq m) rows h2
  exact ⟨l, by rw [h3, h4], by omega, h5⟩
end
end Go.Proofs.YtgimaioeifnajaaGreatDoorK.RowT
