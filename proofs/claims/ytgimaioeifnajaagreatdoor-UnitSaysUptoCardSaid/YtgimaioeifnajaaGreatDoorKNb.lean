/-
  Joined: LessN, StepN.
-/
import Derived.Test.YtgimaioeifnajaaGreatDoorKNa
set_option linter.all false
set_option maxHeartbeats 4000000
/-
  nat.less: what it computes.
-/
namespace Go.Proofs.YtgimaioeifnajaaGreatDoorK.NatT
open AI NatIr Dig
attribute [local irreducible] awp awpOps
variable {G : World → Prop}
end Go.Proofs.YtgimaioeifnajaaGreatDoorK.NatT
/-
  nat.step: what it computes.
-/
namespace Go.Proofs.YtgimaioeifnajaaGreatDoorK.NatT
open AI NatIr Dig
attribute [local irreducible] awp awpOps
variable {G : World → Prop}
theorem step_res {Q : Nat} (h : Q + 1 < 4294967296) : D.int .u32 ((((Q + 1 : Nat) : Int) - 1) % 18446744073709551616 % 4294967296) = D.int .u32 (Q : Int) := by
  congr 1
  omega
end Go.Proofs.YtgimaioeifnajaaGreatDoorK.NatT
