/-
 Joined: RefA, RefB, RefC, RefD.
-/
import Derived.Test.YtoiepmpggabglaaGreatDoorKP
import Derived.Test.YtoiepmpggabglaaGreatDoorKNa
import Derived.Test.YtoiepmpggabglaaGreatDoorKAc
set_option linter.all false
set_option maxHeartbeats 4000000
/-
 The document's trim, Small, at, Cmp: what they compute.
-/
namespace Go.Proofs.YtoiepmpggabglaaGreatDoorK.RefT
open AI NatIr Dig NatT
attribute [local irreducible] awp awpOps
attribute [local go_sem] V_getD V_set V_take V_drop V_imm V_one V_app V_app1 V_repl V_get1 V_length M List.length_append
variable {G : World → Prop}
end Go.Proofs.YtoiepmpggabglaaGreatDoorK.RefT
/-
 The document's Cmp, Add: what they compute.
-/
namespace Go.Proofs.YtoiepmpggabglaaGreatDoorK.RefT
open AI NatIr Dig NatT
attribute [local irreducible] awp awpOps
attribute [local go_sem] V_getD V_set V_take V_drop V_imm V_one V_app V_app1 V_repl V_get1 V_length M List.length_append
variable {G : World → Prop}
end Go.Proofs.YtoiepmpggabglaaGreatDoorK.RefT
/-
 The document's Mul, Words, Pow: what they compute.
-/
namespace Go.Proofs.YtoiepmpggabglaaGreatDoorK.RefT
open AI NatIr Dig NatT
attribute [local irreducible] awp awpOps
attribute [local go_sem] V_getD V_set V_take V_drop V_imm V_one V_app V_app1 V_repl V_get1 V_length M List.length_append
variable {G : World → Prop}
end Go.Proofs.YtoiepmpggabglaaGreatDoorK.RefT
/-
 The document's Words, Pow: what they compute.
-/
namespace Go.Proofs.YtoiepmpggabglaaGreatDoorK.RefT
open AI NatIr Dig NatT
attribute [local irreducible] awp awpOps
attribute [local go_sem] V_getD V_set V_take V_drop V_imm V_one V_app V_app1 V_repl V_get1 V_length M List.length_append
variable {G : World → Prop}
end Go.Proofs.YtoiepmpggabglaaGreatDoorK.RefT
