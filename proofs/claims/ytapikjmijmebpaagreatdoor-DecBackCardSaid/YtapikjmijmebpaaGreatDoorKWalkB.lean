/-
  Two more steps of a walk.
-/
import Derived.Test.YtapikjmijmebpaaGreatDoorKAc
set_option linter.all false
set_option linter.unusedVariables false
set_option linter.unusedSimpArgs false
set_option maxHeartbeats 4000000
namespace Go.Proofs.YtapikjmijmebpaaGreatDoorK.AI
open Go.RowKit
section
variable {P : Program} {G : World → Prop} {Q : AEx → St → Prop} {env : Nat → D} {h : List Blk} {m : Nat}
theorem xctp {c : Opd} {a b : IR} (hk : awp P G m a Q ⟨env, h⟩) (hc : getO env c = .bool true := by simp only [go_sem, Nat.reduceEqDiff, Nat.reduceAdd, Nat.reduceLT, Nat.reduceMul, Nat.reduceLeDiff, reduceCtorEq, Int.reduceNeg, Int.reduceToNat] <;> fail) : awp P G m (.cond c a b) Q ⟨env, h⟩ := awp_cond_t hc hk
theorem xcFp {c : Opd} {a b : IR} (hk : awp P G m b Q ⟨env, h⟩) (hc : getO env c = .bool false := by simp only [go_sem, Nat.reduceEqDiff, Nat.reduceAdd, Nat.reduceLT, Nat.reduceMul, Nat.reduceLeDiff, reduceCtorEq, Int.reduceNeg, Int.reduceToNat] <;> fail) : awp P G m (.cond c a b) Q ⟨env, h⟩ := awp_cond_f hc hk
end
end Go.Proofs.YtapikjmijmebpaaGreatDoorK.AI
