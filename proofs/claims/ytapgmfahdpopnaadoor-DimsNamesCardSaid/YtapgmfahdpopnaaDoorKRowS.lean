/-
  From a contract to a row: structs among the arguments, told by their cells.
-/
import Derived.Test.YtapgmfahdpopnaaDoorKRowK
import Derived.Test.YtapgmfahdpopnaaDoorKLb
import Derived.HandedShaped
set_option linter.all false
set_option linter.unusedVariables false
set_option linter.unusedSimpArgs false
set_option maxHeartbeats 4000000
namespace Go.Proofs.YtapgmfahdpopnaaDoorK.RowT
open Go.ChangeShapes Go.WideShapes Go.ChangeAt Go.RowKit Go.Proofs.YtapgmfahdpopnaaDoorK.AI
variable {H : Type} {enc : TypeId × Value → H} {P : Program} {W W' : World}
def Tr (enc : TypeId × Value → H) (P : Program) (W : World) (t : TypeId) (cs : List Value) : Prop := ∃ fuel x, DataW.trod enc P W 0 (fun _ => true) true fuel t cs = some x
theorem tr_of {t : TypeId} {v : Value} {d : DataW H} {p : List MemPlace} (h : DataW.Trod enc P W 0 (fun _ => true) true t v d p) : Tr enc P W t v.cells.toList := by
  obtain ⟨fuel, h⟩ := h
  exact ⟨fuel, _, h⟩
theorem tr_to {t : TypeId} {v : Value} (hv : v.cells = #[v]) (h : Tr enc P W t [v]) : ∃ d p, DataW.Trod enc P W 0 (fun _ => true) true t v d p := by
  obtain ⟨fuel, x, h⟩ := h
  exact ⟨x.1, x.2, fuel, by rw [hv]; exact h⟩
theorem tr_fld {t : TypeId} {fs : Array Field} {f : Field} {cs : List Value} (i : Nat) (ht : P.underlying t = some (.struct fs)) (hf : fs[i]? = some f) (h : Tr enc P W t cs) : Tr enc P W f.type ((cs.drop f.offset).take (P.cellsOf f.type)) := by
  obtain ⟨fuel, x, h⟩ := h
  cases fuel with
  | zero => simp [DataW.trod] at h
  | succ fuel =>
    simp only [DataW.trod, ht] at h
    split at h
    · simp only [Option.map_eq_some_iff] at h
      obtain ⟨xs, h, _⟩ := h
      obtain ⟨y, hy⟩ := mapM_each h f (by
        rw [Array.getElem?_eq_some_iff] at hf
        obtain ⟨hi, rfl⟩ := hf
        exact Array.mem_toList_iff.2 (Array.getElem_mem hi))
      exact ⟨fuel, y, hy⟩
    · cases h
theorem tr_fld2 {t u : TypeId} {fs : Array Field} {f : Field} {cs cs' : List Value} {n : Nat} (i : Nat) (ht : P.underlying t = some (.struct fs)) (hf : fs[i]? = some f) (hu : f.type = u) (hn : P.cellsOf u = n) (hcs : (cs.drop f.offset).take n = cs') (h : Tr enc P W t cs) : Tr enc P W u cs' := by
  subst hu hn hcs
  exact tr_fld i ht hf h
theorem bnd {k : IntKind} {z lo hi : Int} (h : (Lit.int k z).wf = true) (hk : k.min = lo ∧ k.max = hi) : lo ≤ z ∧ z ≤ hi := by
  simp only [Lit.wf, Bool.and_eq_true, decide_eq_true_eq, hk.1, hk.2] at h
  exact h
theorem cells_ok {base n : Nat} {t : TypeId} {fs : Array Field} {ts : List TypeId} {v : Value} (ht : P.underlying t = some (.struct fs)) (hts : P.cellTypes P.depth t = some ts) (hn : P.cellsOf t = n) (hn2 : ts.length = n) (h : Value.okWide P W .any base t v) :
    ∃ cs : List Value, v = .agg cs.toArray ∧ cs.length = ts.length ∧ ∀ i u, ts[i]? = some u → Cell.okWide P W .any base u (cs.getD i undef) := by
  subst hn2
  simp only [Value.okWide, ht] at h
  obtain ⟨cs, rfl, hsz, ts', h1, _, h2⟩ := h
  rw [hts] at h1
  cases h1
  refine ⟨cs.toList, by simp, by simp [hsz, hn], fun i u hi => ?_⟩
  have hlt : i < ts.length := (List.getElem?_eq_some_iff.1 hi).1
  have hlt2 : i < cs.size := by omega
  obtain ⟨u', h3, h4⟩ := h2 i cs[i] (Array.getElem?_eq_getElem hlt2)
  rw [Nat.mod_eq_of_lt hlt, hi] at h3
  cases h3
  rw [List.getD_eq_getElem?_getD, Array.getElem?_toList, Array.getElem?_eq_getElem hlt2]
  exact h4
theorem val_of_cell {base : Nat} {t : TypeId} {v : Value} (h : (match P.underlying t with | some (.struct _) => false | some (.array _ _) => false | _ => true) = true) (hc : Cell.okWide P W .any base t v) : Value.okWide P W .any base t v := by
  unfold Value.okWide
  split
  · rename_i h1; rw [h1] at h; cases h
  · rename_i h1; rw [h1] at h; cases h
  · exact hc
theorem cells_one {base : Nat} {t : TypeId} {v : Value} (hc : Cell.okWide P W .any base t v) : v.cells = #[v] := by
  cases v
  case agg cs => exfalso; revert hc; cases h : P.underlying t with | none => simp [Cell.okWide, Cell.ok, h] | some d => cases d <;> simp [Cell.okWide, Cell.ok, h]
  all_goals rfl
theorem agg_rep {cs : List Value} {ds : List D} (hl : cs.length = ds.length) (h : ∀ i d, ds[i]? = some d → RepI (fun _ => False) W (cs.getD i undef) d) : RepI (fun _ => False) W (.agg cs.toArray) (.agg ds) :=
  .agg _ _ (by simpa using hl) (fun i d hi => by have := h i d hi; simpa [Array.getD_eq_getD_getElem?, List.getD_eq_getElem?_getD] using this)
theorem gMax_of (_ : W.ShapedOpen Tryd.prog) : LibT.gMax W := trivial
def gAll (w : World) : Prop := gPow Tryd.prog w ∧ LibT.gMax w
theorem gAll_stable {g : Nat} (hg : Tryd.prog.globalNamed "internal/strconv.uint64pow10" = some g) : Stable gAll := fun w w' h hB => ⟨gPow_stable hg w w' h.1 hB, LibT.gMax_stable w w' h.2 hB⟩
end Go.Proofs.YtapgmfahdpopnaaDoorK.RowT
