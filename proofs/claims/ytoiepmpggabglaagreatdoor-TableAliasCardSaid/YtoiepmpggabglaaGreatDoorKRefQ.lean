/-
 The document's fractions: what they compute.
-/
import Derived.Test.YtoiepmpggabglaaGreatDoorKRefZ
import Derived.Test.YtoiepmpggabglaaGreatDoorKQa
set_option linter.all false
set_option maxHeartbeats 4000000
namespace Go.Proofs.YtoiepmpggabglaaGreatDoorK.RefT
open AI NatIr Dig NatT NumT RatT
def MQ (r : Rat) : D := .agg [.bool (ng r.num), M r.num.natAbs, M r.den]
attribute [local irreducible] awp awpOps
attribute [local go_sem] V_getD V_set V_take V_drop V_imm V_one V_app V_app1 V_repl V_get1 V_length M List.length_append
attribute [local go_sem] nl ZD MZ
attribute [local go_sem] QD MQ
variable {G : World → Prop} {L L' X Y : Nat} {z : Int} {x y : Rat} {d e : D}
end Go.Proofs.YtoiepmpggabglaaGreatDoorK.RefT
