/-
  The laws' names, and an example.
-/
import Derived.Test.YtgimaioeifnajaaGreatDoorKUniH
set_option linter.all false
set_option maxHeartbeats 4000000
namespace Go.Proofs.YtgimaioeifnajaaGreatDoorK.TabT
open AI NatIr Dig NatT LibT Go.Lib
def kS : Kn := ⟨[⟨#[109, 101, 116, 101, 114]⟩, ⟨#[115, 101, 99, 111, 110, 100]⟩, ⟨#[103, 114, 97, 109]⟩], [⟨#[107, 105, 108, 111]⟩, ⟨#[109, 105, 108, 108, 105]⟩]⟩
def mps : Wd := ⟨#[109, 101, 116, 101, 114, 45, 112, 101, 114, 45, 115, 101, 99, 111, 110, 100]⟩
theorem mps_unit : unitA kS mps = .ok [⟨[⟨⟨#[]⟩, ⟨#[109, 101, 116, 101, 114]⟩, 1⟩], [⟨⟨#[]⟩, ⟨#[115, 101, 99, 111, 110, 100]⟩, 1⟩], 1⟩] := by kernel_rfl
end Go.Proofs.YtgimaioeifnajaaGreatDoorK.TabT
