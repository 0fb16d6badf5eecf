/-
 Joined: TabD, TabC, RedA, RedP, RedC.
-/
import Derived.Test.YtgdbkigaaooifaaGreatDoorKCa
import Derived.Test.YtgdbkigaaooifaaGreatDoorKIrTable
import Derived.Test.YtgdbkigaaooifaaGreatDoorKIrX
import Derived.Test.YtgdbkigaaooifaaGreatDoorKAtD
set_option linter.all false
set_option maxHeartbeats 0
/-
 A table of units, as abstract data.
-/
namespace Go.Proofs.YtgdbkigaaooifaaGreatDoorK.TabT
open AI Dig NatT NumT RatT DimsT ConvT
def kvS : List (ByteArray × D) → List D
 | [] => []
 | p :: l => .str p.1 :: p.2 :: kvS l
def getS {α : Type} (s : ByteArray) : List (ByteArray × α) → Option α
 | [] => none
 | p :: l => if s = p.1 then some p.2 else getS s l
theorem getS_map {α β : Type} (f : ByteArray → α → β) (s : ByteArray) : ∀ l : List (ByteArray × α), getS s (l.map fun p => (p.1, f p.1 p.2)) = (getS s l).map (f s)
 | [] => rfl
 | p :: l => by
  rw [List.map_cons, getS, getS]
  dsimp only
  by_cases h : s = p.1
  ·rw [if_pos h, if_pos h, h]; rfl
  ·rw [if_neg h, if_neg h, getS_map f s l]
theorem getS_mem {α : Type} {s : ByteArray} {x : α} : ∀ {l : List (ByteArray × α)}, getS s l = some x → (s, x) ∈ l
 | [], h => by cases h
 | p :: l, h => by
  rw [getS] at h
  by_cases e : s = p.1
  ·rw [if_pos e] at h; cases h; rw [e]; exact List.mem_cons_self
  ·rw [if_neg e] at h; exact List.mem_cons_of_mem _ (getS_mem h)
theorem basD (a b : ByteArray) : (a == b) = decide (a = b) := by rw [bas_toList, ba_beq]
theorem look_kvS (s : ByteArray) : ∀ l : List (ByteArray × D), lookD (.str s) (kvS l) = some (getS s l)
 | [] => rfl
 | p :: l => by
  have ih := look_kvS s l
  rw [kvS, getS]
  unfold lookD at ih ⊢
  rw [findD, eqK]
  by_cases e : s = p.1
  ·rw [basD, decide_eq_true e, if_pos e]
   rfl
  ·rw [basD, decide_eq_false e, if_neg e, ← ih]
   cases findD (.str s) (kvS l) with
   | none => rfl
   | some r =>
    cases r with
    | none => rfl
    | some i =>
     simp only [Option.map_some, Option.bind_some]
     rw [show 2 * (i + 1) + 1 = 2 * i + 1 + 1 + 1 by omega, List.getElem?_cons_succ, List.getElem?_cons_succ]
structure En where
 id : ByteArray
 base : Int
 f : Rat
 o : Rat
 h : Bool
 v : List Int
 full : Rat
def entD (s : ByteArray) (e : En) : D := .agg [.str s, .str e.id, .int .i64 e.base, .bool (ng e.f.num), nl e.f.num.natAbs, nl e.f.den, .bool (ng e.o.num), nl e.o.num.natAbs, nl e.o.den, .bool e.h]
def sumE (e : En) : D := .agg (I e.v ++ [.bool (ng e.full.num), nl e.full.num.natAbs, nl e.full.den])
structure En.ok (e : En) : Prop where
 v8 : e.v.length = 8
 good : goodD e.v = true
 pos : 0 < e.full
 f1 : Qm 8 e.full (QD e.full)
 o1 : Qm 8 e.o (QD e.o)
structure Tab where
 names : List ByteArray
 prefs : List ByteArray
 E : List (ByteArray × En)
 P : List (ByteArray × Rat)
 old : List (ByteArray × ByteArray)
 nm : D
 cl : D
 bases : Int
def Tab.D (t : Tab) : D := .rp [.sl t.names.length (t.names.map .str), .sl t.prefs.length (t.prefs.map .str), .mf (kvS (t.E.map fun p => (p.1, entD p.1 p.2))), .mf (kvS (t.E.map fun p => (p.1, sumE p.2))),
 .mf (kvS (t.P.map fun p => (p.1, QD p.2))), .mf (kvS (t.old.map fun p => (p.1, .str p.2))), t.nm, t.cl, .int .i64 t.bases]
structure Tab.ok (t : Tab) : Prop where
 ent : ∀ p ∈ t.E, p.2.ok
 pre : ∀ p ∈ t.P, 0 < p.2 ∧ Qm 4 p.2 (QD p.2)
end Go.Proofs.YtgdbkigaaooifaaGreatDoorK.TabT
/-
 Package table: Entry, Sum, Prefix: what they compute.
-/
namespace Go.Proofs.YtgdbkigaaooifaaGreatDoorK.TabT
open AI NatIr Dig NatT NumT RatT DimsT ConvT
attribute [local irreducible] awp awpOps
attribute [local go_sem] nl ZD
attribute [local go_sem] QD
attribute [local go_sem] not_true_eq_false not_false_eq_true eq_self decide_true D.key
variable {G : World → Prop}
def entZ : D := .agg [.str ⟨#[]⟩, .str ⟨#[]⟩, .int .i64 0, .bool false, .sl 0 [], .sl 0 [], .bool false, .sl 0 [], .sl 0 [], .bool false]
theorem pcr_tentry (hG : Stable G) (t : Tab) (s : ByteArray) : PCr Tryz.prog G 26 [t.D, .str s] (match getS s t.E with | some e => .tup [entD s e, .bool true] | none => .tup [entZ, .bool false]) := by
 have h1 := look_kvS s (t.E.map fun p => (p.1, entD p.1 p.2))
 rw [getS_map] at h1
 unfold Tab.D
 generalize kvS (t.E.map fun p => (p.1, entD p.1 p.2)) = kvs at *
 cases hg : getS s t.E with
 | none =>
  rw [hg, Option.map_none] at h1
  unfold entZ
  refine pcr_byq ok26 hG (n := 19) (rv := [.cell 4 true 10, .tmp 5]) fun r hr => ?_; unfold c26 st0
  (have we1 := h1; exact xwalkd1)
 | some e =>
  rw [hg, Option.map_some] at h1
  unfold entD at h1 ⊢
  refine pcr_byq ok26 hG (n := 19) (rv := [.cell 4 true 10, .tmp 5]) fun r hr => ?_; unfold c26 st0
  (have we1 := h1; exact xwalkd1)
def sumZ : D := .agg [.int .i64 0, .int .i64 0, .int .i64 0, .int .i64 0, .int .i64 0, .int .i64 0, .int .i64 0, .int .i64 0]
def ratZ : D := .agg [.bool false, .sl 0 [], .sl 0 []]
theorem pcr_tsum (hG : Stable G) (t : Tab) (ht : t.ok) (s : ByteArray) : PCr Tryz.prog G 27 [t.D, .str s] (match getS s t.E with | some e => .tup [.agg (I e.v), QD e.full, .bool true] | none => .tup [sumZ, ratZ, .bool false]) := by
 have h1 := look_kvS s (t.E.map fun p => (p.1, sumE p.2))
 rw [getS_map (fun _ e => sumE e)] at h1
 unfold Tab.D
 generalize kvS (t.E.map fun p => (p.1, sumE p.2)) = kvs at *
 cases hg : getS s t.E with
 | none =>
  rw [hg, Option.map_none] at h1
  unfold sumZ ratZ
  refine pcr_byq ok27 hG (n := 23) (rv := [.cell 4 true 8, .cell 5 true 3, .tmp 6]) fun r hr => ?_; unfold c27 st0
  (have we1 := h1; exact xwalkd1)
 | some e =>
  rw [hg, Option.map_some] at h1
  have h8 := (ht.ent _ (getS_mem hg)).v8
  unfold sumE at h1
  dsimp only at h8 ⊢
  generalize e.v = v at *
  obtain ⟨a0, a1, a2, a3, a4, a5, a6, a7, rfl⟩ := eight h8
  simp only [I, List.map_cons, List.map_nil, List.cons_append, List.nil_append] at *
  refine pcr_byq ok27 hG (n := 23) (rv := [.cell 4 true 8, .cell 5 true 3, .tmp 6]) fun r hr => ?_; unfold c27 st0
  (have we1 := h1; exact xwalkd1)
theorem pcr_tprefix (hG : Stable G) (t : Tab) (s : ByteArray) : PCr Tryz.prog G 11 [t.D, .str s] (match getS s t.P with | some q => .tup [QD q, .bool true] | none => .tup [QD 0, .bool false]) := by
 have h0 := RatT.pcr_int (G := G) hG 0 (by omega) (by omega)
 rw [show ((0 : Int) : Rat) = 0 from rfl] at h0
 have h1 := look_kvS s (t.P.map fun p => (p.1, QD p.2))
 rw [getS_map (fun _ q => QD q)] at h1
 unfold Tab.D
 generalize kvS (t.P.map fun p => (p.1, QD p.2)) = kvs at *
 cases hg : getS s t.P with
 | none =>
  rw [hg, Option.map_none] at h1
  refine pcr_byq ok11 hG (n := 21) (rv := [.cell 4 true 3, .tmp 5]) fun r hr => ?_; unfold c11 st0
  (have we1 := h1; exact xwalkd1)
 | some q =>
  rw [hg, Option.map_some] at h1
  refine pcr_byq ok11 hG (n := 21) (rv := [.cell 4 true 3, .tmp 5]) fun r hr => ?_; unfold c11 st0
  (have we1 := h1; exact xwalkd1)
end Go.Proofs.YtgdbkigaaooifaaGreatDoorK.TabT
/-
 Package reduce: Atom: what it computes.
-/
namespace Go.Proofs.YtgdbkigaaooifaaGreatDoorK.TabT
open AI NatIr Dig NatT NumT RatT DimsT ConvT
attribute [local irreducible] awp awpOps
attribute [local go_sem] nl ZD
attribute [local go_sem] QD
attribute [local go_sem] not_true_eq_false not_false_eq_true eq_self decide_true
variable {G : World → Prop}
structure Sum where
 v : List Int
 f : Rat
 o : Rat
 h : Bool
def Sum.D (s : Sum) : D := .agg (I s.v ++ [.bool (ng s.f.num), nl s.f.num.natAbs, nl s.f.den, .bool (ng s.o.num), nl s.o.num.natAbs, nl s.o.den, .bool s.h])
def zSum : D := .agg [.int .i64 0, .int .i64 0, .int .i64 0, .int .i64 0, .int .i64 0, .int .i64 0, .int .i64 0, .int .i64 0, .bool false, .sl 0 [], .sl 0 [], .bool false, .sl 0 [], .sl 0 [], .bool false]
def rSum : Except Int Sum → D
 | .ok s => .tup [s.D, .int .i64 0]
 | .error e => .tup [zSum, .int .i64 e]
def pwr (a : At) (e : En) (p : Rat) : Except Int Sum :=
 if a.pw < 1 ∨ 15 < a.pw then .error 1 else if e.h = true ∧ (a.pre ≠ ⟨#[]⟩ ∨ a.pw ≠ 1) then .error 6
 else if e.v.all (okn a.pw) = true then .ok ⟨mulD e.v a.pw, (e.full * p) ^ a.pw.toNat, e.o, e.h⟩ else .error 5
def atS (t : Tab) (a : At) : Except Int Sum := match getS a.name t.E with
 | none => .error 3
 | some e => if a.pre = ⟨#[]⟩ then pwr a e 1 else match getS a.pre t.P with
  | none => .error 3
  | some p => pwr a e p
theorem ratZ_qm : Qm 1 0 ratZ := ⟨false, 0, 0, .sl 0 [], .sl 0 [], by omega, nm_in (a := []) rfl (ok_nil _) (by simp), nm_in (a := []) rfl (ok_nil _) (by simp), by rw [Rat.mkRat_zero], rfl⟩
theorem pcr_ratom (hG : Stable G) (t : Tab) (ht : t.ok) (a : At) : PCr Tryz.prog G 10 [t.D, a.D] (rSum (atS t a)) := by
 obtain ⟨pre, name, pw⟩ := a
 have h1 := pcr_tentry (G := G) hG t name
 have h2 := pcr_tsum (G := G) hG t ht name
 have h3 := pcr_tprefix (G := G) hG t pre
 unfold atS At.D
 dsimp only
 cases hn : getS name t.E with
 | none =>
  rw [hn] at h1 h2
  dsimp only at h1 h2 ⊢
  obtain ⟨cs, hcs⟩ : ∃ cs, t.D = .rp cs := ⟨_, rfl⟩
  unfold rSum zSum
  by_cases hp : pre = ⟨#[]⟩
  ·clear h3
   have hpd : decide (pre = ⟨#[]⟩) = true := decide_eq_true hp
   generalize t.D = td at *
   subst hcs
   simp only [entZ, sumZ, ratZ] at *
   refine pcr_byq ok10 hG (n := 98) (rv := [.cell 4 true 15, .tmp 5]) fun r hr => ?_; unfold c10 st0
   (have we1 := hpd; exact xwalkd1)
  ·have hpd : decide (pre = ⟨#[]⟩) = false := decide_eq_false hp
   cases hq : getS pre t.P with
   | none =>
    rw [hq] at h3
    dsimp only at h3
    have hm := RatT.pcr_mul (G := G) hG ratZ_qm qm_zero (by omega) (by omega)
    generalize t.D = td at *
    subst hcs
    simp only [entZ, sumZ, ratZ] at *
    refine pcr_byq ok10 hG (n := 98) (rv := [.cell 4 true 15, .tmp 5]) fun r hr => ?_; unfold c10 st0
    (have we1 := hpd; exact xwalkd1)
   | some p =>
    rw [hq] at h3
    dsimp only at h3
    have hm := RatT.pcr_mul (G := G) hG ratZ_qm (ht.pre _ (getS_mem hq)).2 (by omega) (by omega)
    generalize t.D = td at *
    subst hcs
    simp only [entZ, sumZ, ratZ] at *
    refine pcr_byq ok10 hG (n := 98) (rv := [.cell 4 true 15, .tmp 5]) fun r hr => ?_; unfold c10 st0
    (have we1 := hpd; exact xwalkd1)
 | some e =>
  rw [hn] at h1 h2
  have heok := ht.ent _ (getS_mem hn)
  dsimp only at h1 h2 heok ⊢
  have hv8 := heok.v8
  have hgd := heok.good
  have htm := DimsT.pcr_times (G := G) hG pw hv8
  rw [hgd, Bool.true_and] at htm
  simp only [mV] at htm
  have hfq := heok.f1
  obtain ⟨cs, hcs⟩ : ∃ cs, t.D = .rp cs := ⟨_, rfl⟩
  by_cases hp : pre = ⟨#[]⟩
  ·clear h3
   have hpd : decide (pre = ⟨#[]⟩) = true := decide_eq_true hp
   rw [if_pos hp]
   unfold pwr
   dsimp only
   rw [Rat.mul_one]
   by_cases c1 : pw < 1
   ·rw [if_pos (.inl c1)]
    unfold rSum zSum
    generalize t.D = td at *
    subst hcs
    generalize e.v = v at *
    obtain ⟨a0, a1, a2, a3, a4, a5, a6, a7, rfl⟩ := eight hv8
    simp only [entD, I, List.map_cons, List.map_nil, List.cons_append, List.nil_append] at *
    refine pcr_byq ok10 hG (n := 98) (rv := [.cell 4 true 15, .tmp 5]) fun r hr => ?_; unfold c10 st0
    (have we1 := hpd; exact xwalkd1)
   by_cases c2 : 15 < pw
   ·rw [if_pos (.inr c2)]
    unfold rSum zSum
    generalize t.D = td at *
    subst hcs
    generalize e.v = v at *
    obtain ⟨a0, a1, a2, a3, a4, a5, a6, a7, rfl⟩ := eight hv8
    simp only [entD, I, List.map_cons, List.map_nil, List.cons_append, List.nil_append] at *
    refine pcr_byq ok10 hG (n := 98) (rv := [.cell 4 true 15, .tmp 5]) fun r hr => ?_; unfold c10 st0
    (have we1 := hpd; exact xwalkd1)
   rw [if_neg (fun h => h.elim c1 c2)]
   have hfp := RatT.pcr_pow (G := G) hG hfq pw.toNat (by omega) (by omega)
   rw [show ((pw.toNat : Nat) : Int) = pw by omega] at hfp
   cases hh : e.h with
   | true =>
    by_cases c3 : pw = 1
    ·rw [if_neg (fun h => h.2.elim (fun h => h hp) (fun h => h c3))]
     cases hall : e.v.all (okn pw) with
     | false =>
      rw [if_neg (by decide)]
      rw [hall] at htm
      simp only [Bool.false_eq_true, if_false] at htm
      unfold rSum zSum
      clear hall
      simp only [z8, I, List.map_cons, List.map_nil] at htm
      generalize t.D = td at *
      subst hcs
      generalize e.v = v at *
      obtain ⟨a0, a1, a2, a3, a4, a5, a6, a7, rfl⟩ := eight hv8
      simp only [entD, I, List.map_cons, List.map_nil, List.cons_append, List.nil_append, hh] at *
      refine pcr_byq ok10 hG (n := 98) (rv := [.cell 4 true 15, .tmp 5]) fun r hr => ?_; unfold c10 st0
      (have we1 := hpd; exact xwalkd1)
     | true =>
      rw [if_pos rfl]
      rw [hall] at htm
      simp only [if_true] at htm
      unfold rSum Sum.D
      dsimp only
      have hw8 : (mulD e.v pw).length = 8 := by rw [mulD_len, hv8]
      generalize mulD e.v pw = w at *
      generalize (e.full) ^ pw.toNat = fp at *
      clear hall
      generalize t.D = td at *
      subst hcs
      generalize e.v = v at *
      obtain ⟨w0, w1, w2, w3, w4, w5, w6, w7, rfl⟩ := eight hw8
      obtain ⟨a0, a1, a2, a3, a4, a5, a6, a7, rfl⟩ := eight hv8
      simp only [entD, I, List.map_cons, List.map_nil, List.cons_append, List.nil_append, hh] at *
      refine pcr_byq ok10 hG (n := 98) (rv := [.cell 4 true 15, .tmp 5]) fun r hr => ?_; unfold c10 st0
      (have we1 := hpd; exact xwalkd1)
    ·rw [if_pos ⟨rfl, .inr c3⟩]
     unfold rSum zSum
     generalize t.D = td at *
     subst hcs
     generalize e.v = v at *
     obtain ⟨a0, a1, a2, a3, a4, a5, a6, a7, rfl⟩ := eight hv8
     simp only [entD, I, List.map_cons, List.map_nil, List.cons_append, List.nil_append, hh] at *
     refine pcr_byq ok10 hG (n := 98) (rv := [.cell 4 true 15, .tmp 5]) fun r hr => ?_; unfold c10 st0
     (have we1 := hpd; exact xwalkd1)
   | false =>
    rw [if_neg (fun h => Bool.noConfusion h.1)]
    cases hall : e.v.all (okn pw) with
    | false =>
     rw [if_neg (by decide)]
     rw [hall] at htm
     simp only [Bool.false_eq_true, if_false] at htm
     unfold rSum zSum
     clear hall
     simp only [z8, I, List.map_cons, List.map_nil] at htm
     generalize t.D = td at *
     subst hcs
     generalize e.v = v at *
     obtain ⟨a0, a1, a2, a3, a4, a5, a6, a7, rfl⟩ := eight hv8
     simp only [entD, I, List.map_cons, List.map_nil, List.cons_append, List.nil_append, hh] at *
     refine pcr_byq ok10 hG (n := 98) (rv := [.cell 4 true 15, .tmp 5]) fun r hr => ?_; unfold c10 st0
     (have we1 := hpd; exact xwalkd1)
    | true =>
     rw [if_pos rfl]
     rw [hall] at htm
     simp only [if_true] at htm
     unfold rSum Sum.D
     dsimp only
     have hw8 : (mulD e.v pw).length = 8 := by rw [mulD_len, hv8]
     generalize mulD e.v pw = w at *
     generalize (e.full) ^ pw.toNat = fp at *
     clear hall
     generalize t.D = td at *
     subst hcs
     generalize e.v = v at *
     obtain ⟨w0, w1, w2, w3, w4, w5, w6, w7, rfl⟩ := eight hw8
     obtain ⟨a0, a1, a2, a3, a4, a5, a6, a7, rfl⟩ := eight hv8
     simp only [entD, I, List.map_cons, List.map_nil, List.cons_append, List.nil_append, hh] at *
     refine pcr_byq ok10 hG (n := 98) (rv := [.cell 4 true 15, .tmp 5]) fun r hr => ?_; unfold c10 st0
     (have we1 := hpd; exact xwalkd1)
  ·have hpd : decide (pre = ⟨#[]⟩) = false := decide_eq_false hp
   rw [if_neg hp]
   cases hq : getS pre t.P with
   | none =>
    rw [hq] at h3
    dsimp only at h3 ⊢
    have hm := RatT.pcr_mul (G := G) hG hfq qm_zero (by omega) (by omega)
    unfold rSum zSum
    generalize t.D = td at *
    subst hcs
    generalize e.v = v at *
    obtain ⟨a0, a1, a2, a3, a4, a5, a6, a7, rfl⟩ := eight hv8
    simp only [entD, I, List.map_cons, List.map_nil, List.cons_append, List.nil_append] at *
    refine pcr_byq ok10 hG (n := 98) (rv := [.cell 4 true 15, .tmp 5]) fun r hr => ?_; unfold c10 st0
    (have we1 := hpd; exact xwalkd1)
   | some p =>
    rw [hq] at h3
    have hpq := (ht.pre _ (getS_mem hq)).2
    dsimp only at h3 hpq ⊢
    have hm := RatT.pcr_mul (G := G) hG hfq hpq (by omega) (by omega)
    have hfq := qm_mul hfq hpq
    unfold pwr
    dsimp only
    by_cases c1 : pw < 1
    ·rw [if_pos (.inl c1)]
     unfold rSum zSum
     generalize t.D = td at *
     subst hcs
     generalize e.v = v at *
     obtain ⟨a0, a1, a2, a3, a4, a5, a6, a7, rfl⟩ := eight hv8
     simp only [entD, I, List.map_cons, List.map_nil, List.cons_append, List.nil_append] at *
     refine pcr_byq ok10 hG (n := 98) (rv := [.cell 4 true 15, .tmp 5]) fun r hr => ?_; unfold c10 st0
     (have we1 := hpd; exact xwalkd1)
    by_cases c2 : 15 < pw
    ·rw [if_pos (.inr c2)]
     unfold rSum zSum
     generalize t.D = td at *
     subst hcs
     generalize e.v = v at *
     obtain ⟨a0, a1, a2, a3, a4, a5, a6, a7, rfl⟩ := eight hv8
     simp only [entD, I, List.map_cons, List.map_nil, List.cons_append, List.nil_append] at *
     refine pcr_byq ok10 hG (n := 98) (rv := [.cell 4 true 15, .tmp 5]) fun r hr => ?_; unfold c10 st0
     (have we1 := hpd; exact xwalkd1)
    rw [if_neg (fun h => h.elim c1 c2)]
    have hfp := RatT.pcr_pow (G := G) hG hfq pw.toNat (by omega) (by omega)
    rw [show ((pw.toNat : Nat) : Int) = pw by omega] at hfp
    cases hh : e.h with
    | true =>
     rw [if_pos ⟨rfl, .inl hp⟩]
     unfold rSum zSum
     generalize t.D = td at *
     subst hcs
     generalize e.v = v at *
     obtain ⟨a0, a1, a2, a3, a4, a5, a6, a7, rfl⟩ := eight hv8
     simp only [entD, I, List.map_cons, List.map_nil, List.cons_append, List.nil_append, hh] at *
     refine pcr_byq ok10 hG (n := 98) (rv := [.cell 4 true 15, .tmp 5]) fun r hr => ?_; unfold c10 st0
     (have we1 := hpd; exact xwalkd1)
    | false =>
     rw [if_neg (fun h => Bool.noConfusion h.1)]
     cases hall : e.v.all (okn pw) with
     | false =>
      rw [if_neg (by decide)]
      rw [hall] at htm
      simp only [Bool.false_eq_true, if_false] at htm
      unfold rSum zSum
      clear hall
      simp only [z8, I, List.map_cons, List.map_nil] at htm
      generalize t.D = td at *
      subst hcs
      generalize e.v = v at *
      obtain ⟨a0, a1, a2, a3, a4, a5, a6, a7, rfl⟩ := eight hv8
      simp only [entD, I, List.map_cons, List.map_nil, List.cons_append, List.nil_append, hh] at *
      refine pcr_byq ok10 hG (n := 98) (rv := [.cell 4 true 15, .tmp 5]) fun r hr => ?_; unfold c10 st0
      (have we1 := hpd; exact xwalkd1)
     | true =>
      rw [if_pos rfl]
      rw [hall] at htm
      simp only [if_true] at htm
      unfold rSum Sum.D
      dsimp only
      have hw8 : (mulD e.v pw).length = 8 := by rw [mulD_len, hv8]
      generalize mulD e.v pw = w at *
      generalize (e.full * p) ^ pw.toNat = fp at *
      clear hall
      generalize t.D = td at *
      subst hcs
      generalize e.v = v at *
      obtain ⟨w0, w1, w2, w3, w4, w5, w6, w7, rfl⟩ := eight hw8
      obtain ⟨a0, a1, a2, a3, a4, a5, a6, a7, rfl⟩ := eight hv8
      simp only [entD, I, List.map_cons, List.map_nil, List.cons_append, List.nil_append, hh] at *
      refine pcr_byq ok10 hG (n := 98) (rv := [.cell 4 true 15, .tmp 5]) fun r hr => ?_; unfold c10 st0
      (have we1 := hpd; exact xwalkd1)
end Go.Proofs.YtgdbkigaaooifaaGreatDoorK.TabT
/-
 What atoms come to, plainly: a prefix; errors.
-/
namespace Go.Proofs.YtgdbkigaaooifaaGreatDoorK.TabT
open AI NatIr Dig NatT NumT RatT DimsT ConvT
theorem mul_npow (a b : Rat) : ∀ n : Nat, (a * b) ^ n = a ^ n * b ^ n
 | 0 => by rw [Rat.pow_zero, Rat.pow_zero, Rat.pow_zero]; exact (Rat.mul_one 1).symm
 | n + 1 => by
  rw [Rat.pow_succ, Rat.pow_succ, Rat.pow_succ, mul_npow a b n]
  grind
theorem goodD_mul {a : List Int} {k : Int} (h : a.all (okn k) = true) : goodD (mulD a k) = true := goodD_of fun i hi => by
 rw [mulD_len] at hi
 have hm : a.getD i 0 ∈ a := by rw [List.getD_eq_getElem?_getD, List.getElem?_eq_getElem hi]; exact List.getElem_mem hi
 have hx := List.all_eq_true.1 h _ hm
 rw [mulD_get hi]
 generalize a.getD i 0 = x at *
 unfold okn at hx
 simp only [Bool.or_eq_true, Bool.and_eq_true, decide_eq_true_eq, inD_iff] at hx
 rcases hx with rfl | hx
 ·omega
 ·exact hx.2
theorem pwr_err {a : At} {e : En} {p : Rat} {x : Int} (h : pwr a e p = .error x) : x ≠ 0 := by
 unfold pwr at h
 split at h
 ·cases h; decide
 ·split at h
  ·cases h; decide
  ·split at h
   ·cases h
   ·cases h; decide
theorem atS_err0 {t : Tab} {a : At} {x : Int} (h : atS t a = .error x) : x ≠ 0 := by
 unfold atS at h
 split at h
 ·cases h; decide
 ·split at h
  ·exact pwr_err h
  ·split at h
   ·cases h; decide
   ·exact pwr_err h
theorem pwr_ok {a : At} {e : En} {p : Rat} {s : Sum} (h : pwr a e p = .ok s) : 1 ≤ a.pw ∧ a.pw ≤ 15 ∧ (e.h = true → a.pre = ⟨#[]⟩ ∧ a.pw = 1) ∧ e.v.all (okn a.pw) = true ∧ s = ⟨mulD e.v a.pw, (e.full * p) ^ a.pw.toNat, e.o, e.h⟩ := by
 unfold pwr at h
 split at h
 ·cases h
 ·rename_i h1
  split at h
  ·cases h
  ·rename_i h2
   split at h
   ·rename_i h3
    cases h
    refine ⟨by omega, by omega, fun he => ?_, h3, rfl⟩
    refine ⟨Classical.byContradiction fun hp => h2 ⟨he, .inl hp⟩, Classical.byContradiction fun hp => h2 ⟨he, .inr hp⟩⟩
   ·cases h
theorem atS_none {t : Tab} {pre name : ByteArray} {pw : Int} {x : Int} (h : atS t ⟨⟨#[]⟩, name, pw⟩ = .error x) : ∃ y, y ≠ 0 ∧ atS t ⟨pre, name, pw⟩ = .error y := by
 cases hb : atS t ⟨pre, name, pw⟩ with
 | error y => exact ⟨y, atS_err0 hb, rfl⟩
 | ok s =>
  exfalso
  unfold atS at h hb
  dsimp only at h hb
  cases hn : getS name t.E with
  | none => rw [hn] at hb; cases hb
  | some e =>
   rw [hn] at h hb
   dsimp only at h hb
   rw [if_pos rfl] at h
   have key : ∀ p, pwr ⟨pre, name, pw⟩ e p = .ok s → False := fun p hp => by
    obtain ⟨h1, h2, h3, h4, _⟩ := pwr_ok hp
    dsimp only at h1 h2 h3 h4
    unfold pwr at h
    dsimp only at h
    rw [if_neg (by omega), if_neg (fun hc => hc.2.elim (fun hp => hp rfl) (fun hp => hp (h3 hc.1).2)), if_pos h4] at h
    cases h
   split at hb
   ·exact key _ hb
   ·split at hb
    ·cases hb
    ·exact key _ hb
theorem atS_pre {t : Tab} {pre name : ByteArray} {pw : Int} {s s' : Sum} (h : atS t ⟨⟨#[]⟩, name, pw⟩ = .ok s) (h' : atS t ⟨pre, name, pw⟩ = .ok s') (hp : pre ≠ ⟨#[]⟩) :
  1 ≤ pw ∧ pw ≤ 15 ∧ ∃ p, getS pre t.P = some p ∧ s'.v = s.v ∧ s'.f = s.f * p ^ pw.toNat := by
 unfold atS at h h'
 dsimp only at h h'
 cases hn : getS name t.E with
 | none => rw [hn] at h; cases h
 | some e =>
  rw [hn] at h h'
  dsimp only at h h'
  rw [if_pos rfl] at h
  rw [if_neg hp] at h'
  cases hq : getS pre t.P with
  | none => rw [hq] at h'; cases h'
  | some p =>
   rw [hq] at h'
   dsimp only at h'
   obtain ⟨a1, a2, _, _, rfl⟩ := pwr_ok h
   obtain ⟨_, _, _, _, rfl⟩ := pwr_ok h'
   refine ⟨a1, a2, p, rfl, rfl, ?_⟩
   dsimp only
   rw [Rat.mul_one, mul_npow]
theorem atS_qm {t : Tab} (ht : t.ok) {a : At} {s : Sum} (h : atS t a = .ok s) : s.v.length = 8 ∧ 0 < s.f ∧ goodD s.v = true ∧ Qm 181 s.f (QD s.f) ∧ Qm 8 s.o (QD s.o) := by
 unfold atS at h
 cases hn : getS a.name t.E with
 | none => rw [hn] at h; cases h
 | some e =>
  have he := ht.ent _ (getS_mem hn)
  rw [hn] at h
  dsimp only at h
  have key : ∀ p, 0 < p → Qm 4 p (QD p) → pwr a e p = .ok s → s.v.length = 8 ∧ 0 < s.f ∧ goodD s.v = true ∧ Qm 181 s.f (QD s.f) ∧ Qm 8 s.o (QD s.o) := fun p hp hq hs => by
   obtain ⟨h1, h2, _, h4, rfl⟩ := pwr_ok hs
   refine ⟨by rw [mulD_len]; exact he.v8, Rat.pow_pos (Rat.mul_pos he.pos hp), ?_, ?_, he.o1⟩
   ·exact goodD_mul h4
   ·have := qm_pow (qm_mul he.f1 hq) a.pw.toNat
    exact this.up (by omega)
  split at h
  ·exact key 1 (by decide) (qm_QD (by omega) (by decide) (by decide)) h
  ·cases hq : getS a.pre t.P with
   | none => rw [hq] at h; cases h
   | some p =>
    rw [hq] at h
    have := ht.pre _ (getS_mem hq)
    exact key p this.1 this.2 h
end Go.Proofs.YtgdbkigaaooifaaGreatDoorK.TabT
/-
 Package reduce: Of, plainly: a fold of what atoms come to.
-/
namespace Go.Proofs.YtgdbkigaaooifaaGreatDoorK.TabT
open AI NatIr Dig NatT NumT RatT DimsT ConvT
def ofStep (t : Tab) (n : Nat) (alone : Bool) (i : Nat) (a : At) (s : Sum) : Except Int Sum := match atS t a with
 | .error e => .error e
 | .ok x => if (x.h && !alone) = true then .error 6 else
  let v := if i < n then x.v else negD x.v
  let f := if i < n then x.f else x.f⁻¹
  if (goodD s.v && goodD v && goodD (addD s.v v)) = true then .ok ⟨addD s.v v, s.f * f, x.o, x.h⟩ else .error 5
def ofL (t : Tab) (n : Nat) (alone : Bool) : Nat → List At → Sum → Except Int Sum
 | _, [], s => .ok s
 | i, a :: l, s => match ofStep t n alone i a s with
  | .error e => .error e
  | .ok s => ofL t n alone (i + 1) l s
def ofS (t : Tab) (num den : List At) (c : Nat) : Except Int Sum := match ofL t num.length (decide (num.length = 1 ∧ den.length = 0 ∧ c = 1)) 0 (num ++ den) ⟨z8, 1, 0, false⟩ with
 | .error e => .error e
 | .ok s => if c = 0 then .error 4 else .ok { s with f := s.f * mkRat 1 c }
end Go.Proofs.YtgdbkigaaooifaaGreatDoorK.TabT
