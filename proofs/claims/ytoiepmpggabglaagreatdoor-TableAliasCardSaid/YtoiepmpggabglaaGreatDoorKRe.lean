/-
 Joined: RefE, RefF, RefG.
-/
import Derived.Test.YtoiepmpggabglaaGreatDoorKRa
import Derived.Test.YtoiepmpggabglaaGreatDoorKParseN
import Derived.Test.YtoiepmpggabglaaGreatDoorKNd
set_option linter.all false
set_option maxHeartbeats 4000000
/-
 The document's Parse: what it computes.
-/
namespace Go.Proofs.YtoiepmpggabglaaGreatDoorK.RefT
open AI NatIr Dig NatT
attribute [local irreducible] awp awpOps
attribute [local go_sem] V_getD V_set V_take V_drop V_imm V_one V_app V_app1 V_repl V_get1 V_length M List.length_append
variable {G : World → Prop}
end Go.Proofs.YtoiepmpggabglaaGreatDoorK.RefT
/-
 The document's Sub, Div, Gcd: what they compute.
-/
namespace Go.Proofs.YtoiepmpggabglaaGreatDoorK.RefT
open AI NatIr Dig NatT
attribute [local irreducible] awp awpOps
attribute [local go_sem] V_getD V_set V_take V_drop V_imm V_one V_app V_app1 V_repl V_get1 V_length M List.length_append
variable {G : World → Prop}
end Go.Proofs.YtoiepmpggabglaaGreatDoorK.RefT
/-
 The document's Gcd, digits, Text: what they compute.
-/
namespace Go.Proofs.YtoiepmpggabglaaGreatDoorK.RefT
open AI NatIr Dig NatT
attribute [local irreducible] awp awpOps
attribute [local go_sem] V_getD V_set V_take V_drop V_imm V_one V_app V_app1 V_repl V_get1 V_length M List.length_append
variable {G : World → Prop}
end Go.Proofs.YtoiepmpggabglaaGreatDoorK.RefT
