/-
  A slot that holds what it should, up to sums.
-/
import Derived.Test.YtgimaioeifnajaaGreatDoorKUniG
set_option linter.all false
set_option maxHeartbeats 4000000
namespace Go.Proofs.YtgimaioeifnajaaGreatDoorK.AI
open Go.RowKit
theorem xlqi {α : Sort _} {a b : α} (h : a = b := by first | rfl | (simp only [go_sem, Nat.reduceEqDiff, Nat.reduceAdd, Nat.reduceLT, Nat.reduceMul, Nat.reduceLeDiff, reduceCtorEq, Int.reduceNeg, Int.reduceToNat]; done) | (simp only [go_sem, Nat.reduceEqDiff, Nat.reduceAdd, Nat.reduceLT, Nat.reduceMul, Nat.reduceLeDiff, reduceCtorEq, Int.reduceNeg, Int.reduceToNat]; exact congrArg (D.int .i64) (by omega)) | (simp only [go_sem, Nat.reduceEqDiff, Nat.reduceAdd, Nat.reduceLT, Nat.reduceMul, Nat.reduceLeDiff, reduceCtorEq, Int.reduceNeg, Int.reduceToNat]; exact congrArg (D.own _ _ _) (by omega))) : a = b := h
end Go.Proofs.YtgimaioeifnajaaGreatDoorK.AI
