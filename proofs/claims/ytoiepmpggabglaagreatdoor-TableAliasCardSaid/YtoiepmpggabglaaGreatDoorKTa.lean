/-
 Joined: TabD, TabC, RedA, RedP, RedC.
-/
import Derived.Test.YtoiepmpggabglaaGreatDoorKCa
import Derived.Test.YtoiepmpggabglaaGreatDoorKIrTable
import Derived.Test.YtoiepmpggabglaaGreatDoorKAtD
set_option linter.all false
set_option maxHeartbeats 4000000
/-
 A table of units, as abstract data.
-/
namespace Go.Proofs.YtoiepmpggabglaaGreatDoorK.TabT
open AI Dig NatT NumT RatT DimsT ConvT
def kvS : List (ByteArray × D) → List D
 | [] => []
 | p :: l => .str p.1 :: p.2 :: kvS l
def getS {α : Type} (s : ByteArray) : List (ByteArray × α) → Option α
 | [] => none
 | p :: l => if s = p.1 then some p.2 else getS s l
theorem getS_map {α β : Type} (f : ByteArray → α → β) (s : ByteArray) : ∀ l : List (ByteArray × α), getS s (l.map fun p => (p.1, f p.1 p.2)) = (getS s l).map (f s)
 | [] => rfl
 | p :: l => by
  rw [List.map_cons, getS, getS]
  dsimp only
  by_cases h : s = p.1
  ·rw [if_pos h, if_pos h, h]; rfl
  ·rw [if_neg h, if_neg h, getS_map f s l]
theorem getS_mem {α : Type} {s : ByteArray} {x : α} : ∀ {l : List (ByteArray × α)}, getS s l = some x → (s, x) ∈ l
 | [], h => by cases h
 | p :: l, h => by
  rw [getS] at h
  by_cases e : s = p.1
  ·rw [if_pos e] at h; cases h; rw [e]; exact List.mem_cons_self
  ·rw [if_neg e] at h; exact List.mem_cons_of_mem _ (getS_mem h)
theorem basD (a b : ByteArray) : (a == b) = decide (a = b) := by rw [bas_toList, ba_beq]
theorem look_kvS (s : ByteArray) : ∀ l : List (ByteArray × D), lookD (.str s) (kvS l) = some (getS s l)
 | [] => rfl
 | p :: l => by
  have ih := look_kvS s l
  rw [kvS, getS]
  unfold lookD at ih ⊢
  rw [findD, eqK]
  by_cases e : s = p.1
  ·rw [basD, decide_eq_true e, if_pos e]
   rfl
  ·rw [basD, decide_eq_false e, if_neg e, ← ih]
   cases findD (.str s) (kvS l) with
   | none => rfl
   | some r =>
    cases r with
    | none => rfl
    | some i =>
     simp only [Option.map_some, Option.bind_some]
     rw [show 2 * (i + 1) + 1 = 2 * i + 1 + 1 + 1 by omega, List.getElem?_cons_succ, List.getElem?_cons_succ]
structure En where
 id : ByteArray
 base : Int
 f : Rat
 o : Rat
 h : Bool
 v : List Int
 full : Rat
def entD (s : ByteArray) (e : En) : D := .agg [.str s, .str e.id, .int .i64 e.base, .bool (ng e.f.num), nl e.f.num.natAbs, nl e.f.den, .bool (ng e.o.num), nl e.o.num.natAbs, nl e.o.den, .bool e.h]
def sumE (e : En) : D := .agg (I e.v ++ [.bool (ng e.full.num), nl e.full.num.natAbs, nl e.full.den])
structure En.ok (e : En) : Prop where
 v8 : e.v.length = 8
 good : goodD e.v = true
 pos : 0 < e.full
 f1 : Qm 8 e.full (QD e.full)
 o1 : Qm 8 e.o (QD e.o)
structure Tab where
 names : List ByteArray
 prefs : List ByteArray
 E : List (ByteArray × En)
 P : List (ByteArray × Rat)
 old : List (ByteArray × ByteArray)
 nm : D
 cl : D
 bases : Int
def Tab.D (t : Tab) : D := .rp [.sl t.names.length (t.names.map .str), .sl t.prefs.length (t.prefs.map .str), .mf (kvS (t.E.map fun p => (p.1, entD p.1 p.2))), .mf (kvS (t.E.map fun p => (p.1, sumE p.2))),
 .mf (kvS (t.P.map fun p => (p.1, QD p.2))), .mf (kvS (t.old.map fun p => (p.1, .str p.2))), t.nm, t.cl, .int .i64 t.bases]
structure Tab.ok (t : Tab) : Prop where
 ent : ∀ p ∈ t.E, p.2.ok
 pre : ∀ p ∈ t.P, 0 < p.2 ∧ Qm 4 p.2 (QD p.2)
end Go.Proofs.YtoiepmpggabglaaGreatDoorK.TabT
/-
 Package table: Entry, Sum, Prefix: what they compute.
-/
namespace Go.Proofs.YtoiepmpggabglaaGreatDoorK.TabT
open AI NatIr Dig NatT NumT RatT DimsT ConvT
attribute [local irreducible] awp awpOps
attribute [local go_sem] nl ZD
attribute [local go_sem] QD
attribute [local go_sem] not_true_eq_false not_false_eq_true eq_self decide_true D.key
variable {G : World → Prop}
end Go.Proofs.YtoiepmpggabglaaGreatDoorK.TabT
/-
 Package reduce: Atom: what it computes.
-/
namespace Go.Proofs.YtoiepmpggabglaaGreatDoorK.TabT
open AI NatIr Dig NatT NumT RatT DimsT ConvT
attribute [local irreducible] awp awpOps
attribute [local go_sem] nl ZD
attribute [local go_sem] QD
attribute [local go_sem] not_true_eq_false not_false_eq_true eq_self decide_true
variable {G : World → Prop}
structure Sum where
 v : List Int
 f : Rat
 o : Rat
 h : Bool
def Sum.D (s : Sum) : D := .agg (I s.v ++ [.bool (ng s.f.num), nl s.f.num.natAbs, nl s.f.den, .bool (ng s.o.num), nl s.o.num.natAbs, nl s.o.den, .bool s.h])
end Go.Proofs.YtoiepmpggabglaaGreatDoorK.TabT
/-
 What atoms come to, plainly: a prefix; errors.
-/
namespace Go.Proofs.YtoiepmpggabglaaGreatDoorK.TabT
open AI NatIr Dig NatT NumT RatT DimsT ConvT
end Go.Proofs.YtoiepmpggabglaaGreatDoorK.TabT
/-
 Package reduce: Of, plainly: a fold of what atoms come to.
-/
namespace Go.Proofs.YtoiepmpggabglaaGreatDoorK.TabT
open AI NatIr Dig NatT NumT RatT DimsT ConvT
end Go.Proofs.YtoiepmpggabglaaGreatDoorK.TabT
