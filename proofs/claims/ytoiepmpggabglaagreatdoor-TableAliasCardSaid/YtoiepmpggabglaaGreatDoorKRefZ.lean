/-
 The document's numbers with a sign: what they compute.
-/
import Derived.Test.YtoiepmpggabglaaGreatDoorKRe
import Derived.Test.YtoiepmpggabglaaGreatDoorKZa
set_option linter.all false
set_option maxHeartbeats 4000000
namespace Go.Proofs.YtoiepmpggabglaaGreatDoorK.RefT
open AI NatIr Dig NatT NumT
def MZ (z : Int) : D := .agg [.bool (ng z), M z.natAbs]
attribute [local irreducible] awp awpOps
attribute [local go_sem] V_getD V_set V_take V_drop V_imm V_one V_app V_app1 V_repl V_get1 V_length M List.length_append
attribute [local go_sem] nl ZD MZ
variable {G : World → Prop} {L L' X Y : Nat} {x y z : Int}
end Go.Proofs.YtoiepmpggabglaaGreatDoorK.RefT
