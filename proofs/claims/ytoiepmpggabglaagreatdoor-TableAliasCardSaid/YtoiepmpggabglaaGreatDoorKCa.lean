/-
 Joined: ConvA, ConvR, ConvP.
-/
import Derived.Test.YtoiepmpggabglaaGreatDoorKDa
import Derived.Test.YtoiepmpggabglaaGreatDoorKQa
import Derived.Test.YtoiepmpggabglaaGreatDoorKRefQ
set_option linter.all false
set_option maxHeartbeats 4000000
/-
 Package conv: which way, and to what: what the functions compute.
-/
namespace Go.Proofs.YtoiepmpggabglaaGreatDoorK.ConvT
open AI NatIr Dig NatT NumT RatT DimsT
attribute [local irreducible] awp awpOps
attribute [local go_sem] nl ZD
attribute [local go_sem] QD
attribute [local go_sem] not_true_eq_false not_false_eq_true eq_self decide_true
variable {G : World → Prop} {a b : List Int}
variable {L M : Nat} {q fa oa fb ob : Rat} {d da db : D} {ha hb : Bool}
end Go.Proofs.YtoiepmpggabglaaGreatDoorK.ConvT
/-
 The document's conversion: Ways, Do: what they compute; plain laws of ways.
-/
namespace Go.Proofs.YtoiepmpggabglaaGreatDoorK.ConvT
open AI NatIr Dig NatT NumT RatT RefT DimsT
attribute [local irreducible] awp awpOps
attribute [local go_sem] V_getD V_set V_take V_drop V_imm V_one V_app V_app1 V_repl V_get1 V_length M List.length_append
attribute [local go_sem] nl ZD MZ
attribute [local go_sem] QD MQ
attribute [local go_sem] not_true_eq_false not_false_eq_true eq_self decide_true
variable {G : World → Prop} {a b c : List Int}
variable {L K : Nat} {q fa oa fb ob : Rat} {d d1 d2 d3 d4 : D} {ha hb : Bool}
end Go.Proofs.YtoiepmpggabglaaGreatDoorK.ConvT
/-
 Converted there and back, and on: plainly.
-/
namespace Go.Proofs.YtoiepmpggabglaaGreatDoorK.ConvT
open AI RatT DimsT
variable {a b c : List Int} {q r m n fa oa fb ob fc oc : Rat} {ha hb hc : Bool} {L K : Nat} {d d1 d2 d3 d4 : D}
end Go.Proofs.YtoiepmpggabglaaGreatDoorK.ConvT
