/-
 Joined: ConvA, ConvR, ConvP.
-/
import Derived.Test.YtgdbkigaaooifaaGreatDoorKDa
import Derived.Test.YtgdbkigaaooifaaGreatDoorKQa
import Derived.Test.YtgdbkigaaooifaaGreatDoorKRefQ
set_option linter.all false
set_option maxHeartbeats 4000000
/-
 Package conv: which way, and to what: what the functions compute.
-/
namespace Go.Proofs.YtgdbkigaaooifaaGreatDoorK.ConvT
open AI NatIr Dig NatT NumT RatT DimsT
attribute [local irreducible] awp awpOps
attribute [local go_sem] nl ZD
attribute [local go_sem] QD
attribute [local go_sem] not_true_eq_false not_false_eq_true eq_self decide_true
variable {G : World → Prop} {a b : List Int}
theorem eight (h : a.length = 8) : ∃ a0 a1 a2 a3 a4 a5 a6 a7 : Int, a = [a0, a1, a2, a3, a4, a5, a6, a7] := by
 match a, h with
 | [a0, a1, a2, a3, a4, a5, a6, a7], _ => exact ⟨a0, a1, a2, a3, a4, a5, a6, a7, rfl⟩
def negD (a : List Int) : List Int := if goodD a && a.all (okn (-1)) then mulD a (-1) else z8
theorem negD_len (h : a.length = 8) : (negD a).length = 8 := by
 unfold negD
 split
 ·rw [mulD_len, h]
 ·rfl
theorem negD_good (h : goodD a = true) : negD a = mulD a (-1) := by rw [negD, neg_ok h, if_pos rfl]
theorem goodD_z8 : goodD z8 = true := by decide
theorem goodD_negD (h : a.length = 8) : goodD (negD a) = true := by
 unfold negD
 split
 ·rename_i h1
  exact neg_good (Bool.and_eq_true_iff.1 h1).1
 ·exact goodD_z8
variable {L M : Nat} {q fa oa fb ob : Rat} {d da db : D} {ha hb : Bool}
end Go.Proofs.YtgdbkigaaooifaaGreatDoorK.ConvT
/-
 The document's conversion: Ways, Do: what they compute; plain laws of ways.
-/
namespace Go.Proofs.YtgdbkigaaooifaaGreatDoorK.ConvT
open AI NatIr Dig NatT NumT RatT RefT DimsT
attribute [local irreducible] awp awpOps
attribute [local go_sem] V_getD V_set V_take V_drop V_imm V_one V_app V_app1 V_repl V_get1 V_length M List.length_append
attribute [local go_sem] nl ZD MZ
attribute [local go_sem] QD MQ
attribute [local go_sem] not_true_eq_false not_false_eq_true eq_self decide_true
variable {G : World → Prop} {a b c : List Int}
variable {L K : Nat} {q fa oa fb ob : Rat} {d d1 d2 d3 d4 : D} {ha hb : Bool}
end Go.Proofs.YtgdbkigaaooifaaGreatDoorK.ConvT
/-
 Converted there and back, and on: plainly.
-/
namespace Go.Proofs.YtgdbkigaaooifaaGreatDoorK.ConvT
open AI RatT DimsT
variable {a b c : List Int} {q r m n fa oa fb ob fc oc : Rat} {ha hb hc : Bool} {L K : Nat} {d d1 d2 d3 d4 : D}
end Go.Proofs.YtgdbkigaaooifaaGreatDoorK.ConvT
