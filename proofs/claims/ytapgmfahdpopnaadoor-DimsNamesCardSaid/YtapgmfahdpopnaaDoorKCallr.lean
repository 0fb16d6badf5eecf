/-
  A call that is handed own blocks which name one another: a step of a walk.
-/
import Derived.Test.YtapgmfahdpopnaaDoorKAc
import Derived.Test.YtapgmfahdpopnaaDoorKFrz
set_option linter.all false
set_option linter.unusedVariables false
set_option linter.unusedSimpArgs false
set_option maxHeartbeats 4000000
namespace Go.Proofs.YtapgmfahdpopnaaDoorK.AI
open Go.RowKit
section
variable {P : Program} {G : World → Prop}
theorem xcr {K : Tr → St → Prop} {tr : Tr} {l : List IOper} {env : Nat → D} {hp hp' : List Blk} {dst : Option Nat} {f : FuncId} {args : List Opd} (κ : List Nat) {xs ys : List D} {h h' h2 : List Blk} {r r' : D} {ws : List (Nat × Blk)} {gu : Option (Option Nat × Bool)} (hg : PCg P G f xs h r h')
    (hx : ys = xs.map (D.ren κ)) (hs : ∀ d ∈ xs, kb κ.length d) (hb : (κ.take h.length).map (hv hp) = h.map (renB κ)) (hk0 : kbH κ.length h) (hr : r.ren κ = r') (hw : h'.map (renB κ) = h2)
    (hk : awpOps P G K l ((ws.map (·.1), κ.take h.length) :: tr) ⟨putE env dst r', hp'⟩)
    (hnew : ∀ b ∈ κ.drop h.length, hp.length ≤ b ∧ hp.length ∈ κ.drop h.length := by simp)
    (hgu : wantedI env gu = some true := by rfl) (ha : args.map (getO env) = ys := by simp (disch := omega) only [go_sem, Nat.reduceEqDiff, Nat.reduceAdd, Nat.reduceLT, Nat.reduceMul, Nat.reduceLeDiff, reduceCtorEq, Int.reduceNeg, Int.reduceToNat] <;> rfl) (hn : κ.Nodup := by decide) (hl : h'.length = κ.length := by rfl) (hle : h.length ≤ κ.length := by simp)
    (hz : κ.zip h2 = ws := by simp only [List.zip_cons_cons, List.zip_nil_left, List.zip_nil_right]; rfl) (hh : setH hp ws = hp' := by simp (disch := omega) only [go_sem, Nat.reduceEqDiff, Nat.reduceAdd, Nat.reduceLT, Nat.reduceMul, Nat.reduceLeDiff, reduceCtorEq, Int.reduceNeg, Int.reduceToNat]; rfl) :
    awpOps P G K (⟨dst, .call f args, gu⟩ :: l) tr ⟨env, hp⟩ := by
  subst hw hh hx
  exact ops_callr κ hg hgu ha hs hn hl hle hb hnew hk0 hr hz hk
end
end Go.Proofs.YtapgmfahdpopnaaDoorK.AI
