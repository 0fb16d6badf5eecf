/-
  From a contract to a row: arguments that are rows of structs, of arrays, of texts.
-/
import Derived.Test.YtapgmfahdpopnaaDoorKRowD
set_option linter.all false
set_option linter.unusedVariables false
set_option linter.unusedSimpArgs false
set_option maxHeartbeats 4000000
namespace Go.Proofs.YtapgmfahdpopnaaDoorK.RowT
open Go.ChangeShapes Go.WideShapes Go.ChangeAt Go.RowKit Go.Proofs.YtapgmfahdpopnaaDoorK.AI
variable {H : Type} {enc : TypeId × Value → H} {P : Program} {W W' : World}
theorem arg_sl (hl : laidOutB P = true) {base : Nat} {t e : TypeId} {v : Value} {d : DataW H} {p : List MemPlace} (ht : t < P.types.size) (hu : P.underlying t = some (.slice e))
    (hval : Value.okWide P W .any base t v) (h : DataW.Trod enc P W 0 (fun _ => true) true t v d p) : ∃ n x, RepI (fun _ => False) W v x ∧ IsC P n t [x] := by
  have hcell : Cell.ok P W .any base t v := by
    simp only [Value.okWide, hu, Cell.okWide] at hval
    exact hval
  have hv : v.cells = #[v] := by
    cases v <;> first | rfl | (exfalso; simp [Cell.ok, hu] at hcell)
  exact arg_one hl ht hv h
section
variable {n : Nat} {t e : TypeId} {ds : List D} {α : Type} {f : α → List D} {q : α → Prop}
theorem rows_of {m : Nat} (hq : ∀ r, IsC P m e r → ∃ x, r = f x ∧ q x) : ∀ rows : List (List D), (∀ r ∈ rows, r.length = P.cellsOf e ∧ IsC P m e r) → ∃ l : List α, rows.flatten = l.flatMap f ∧ l.length = rows.length ∧ ∀ x ∈ l, q x
  | [], _ => ⟨[], rfl, rfl, fun x h => by simp at h⟩
  | r :: rows, h => by
    obtain ⟨l, h1, h2, h3⟩ := rows_of hq rows (fun q hq => h q (List.mem_cons_of_mem _ hq))
    obtain ⟨x, rfl, hx⟩ := hq r (h r List.mem_cons_self).2
    refine ⟨x :: l, by simp [h1], by simp [h2], fun y hy => ?_⟩
    rcases List.mem_cons.1 hy with rfl | hy
    · exact hx
    · exact h3 y hy
theorem IsC.list (h : IsC P n t ds) (hu : P.underlying t = some (.slice e)) (hq : ∀ m r, IsC P m e r → ∃ x, r = f x ∧ q x) : ∃ l : List α, ds = [.sl l.length (l.flatMap f)] ∧ l.length ≤ 9223372036854775807 ∧ ∀ x ∈ l, q x := by
  obtain ⟨m, rows, rfl, h1, h2⟩ := h.slice hu
  obtain ⟨l, h3, h4, h5⟩ := rows_of (hq m) rows h2
  exact ⟨l, by rw [h3, h4], by omega, h5⟩
end
end Go.Proofs.YtapgmfahdpopnaaDoorK.RowT
