/-
 Package reduce: Atom: what it computes.
-/
import Derived.Test.YtgdbkigaaooifaaGreatDoorKIrX
import Derived.Test.YtgdbkigaaooifaaGreatDoorKTabC
import Derived.Test.YtgdbkigaaooifaaGreatDoorKAtD
set_option linter.all false
set_option maxHeartbeats 0
namespace Go.Proofs.YtgdbkigaaooifaaGreatDoorK.TabT
open AI NatIr Dig NatT NumT RatT DimsT ConvT
attribute [local irreducible] awp awpOps
attribute [local go_sem] nl ZD
attribute [local go_sem] QD
attribute [local go_sem] not_true_eq_false not_false_eq_true eq_self decide_true
variable {G : World → Prop}
structure Sum where
 v : List Int
 f : Rat
 o : Rat
 h : Bool
def Sum.D (s : Sum) : D := .agg (I s.v ++ [.bool (ng s.f.num), nl s.f.num.natAbs, nl s.f.den, .bool (ng s.o.num), nl s.o.num.natAbs, nl s.o.den, .bool s.h])
def zSum : D := .agg [.int .i64 0, .int .i64 0, .int .i64 0, .int .i64 0, .int .i64 0, .int .i64 0, .int .i64 0, .int .i64 0, .bool false, .sl 0 [], .sl 0 [], .bool false, .sl 0 [], .sl 0 [], .bool false]
def rSum : Except Int Sum → D
 | .ok s => .tup [s.D, .int .i64 0]
 | .error e => .tup [zSum, .int .i64 e]
def pwr (a : At) (e : En) (p : Rat) : Except Int Sum :=
 if a.pw < 1 ∨ 15 < a.pw then .error 1 else if e.h = true ∧ (a.pre ≠ ⟨#[]⟩ ∨ a.pw ≠ 1) then .error 6
 else if e.v.all (okn a.pw) = true then .ok ⟨mulD e.v a.pw, (e.full * p) ^ a.pw.toNat, e.o, e.h⟩ else .error 5
def atS (t : Tab) (a : At) : Except Int Sum := match getS a.name t.E with
 | none => .error 3
 | some e => if a.pre = ⟨#[]⟩ then pwr a e 1 else match getS a.pre t.P with
  | none => .error 3
  | some p => pwr a e p
theorem ratZ_qm : Qm 1 0 ratZ := ⟨false, 0, 0, .sl 0 [], .sl 0 [], by omega, nm_in (a := []) rfl (ok_nil _) (by simp), nm_in (a := []) rfl (ok_nil _) (by simp), by rw [Rat.mkRat_zero], rfl⟩
theorem pcr_ratom (hG : Stable G) (t : Tab) (ht : t.ok) (a : At) : PCr Tryz.prog G 10 [t.D, a.D] (rSum (atS t a)) := by
 obtain ⟨pre, name, pw⟩ := a
 have h1 := pcr_tentry (G := G) hG t name
 have h2 := pcr_tsum (G := G) hG t ht name
 have h3 := pcr_tprefix (G := G) hG t pre
 unfold atS At.D
 dsimp only
 cases hn : getS name t.E with
 | none =>
  rw [hn] at h1 h2
  dsimp only at h1 h2 ⊢
  obtain ⟨cs, hcs⟩ : ∃ cs, t.D = .rp cs := ⟨_, rfl⟩
  unfold rSum zSum
  by_cases hp : pre = ⟨#[]⟩
  ·clear h3
   have hpd : decide (pre = ⟨#[]⟩) = true := decide_eq_true hp
   generalize t.D = td at *
   subst hcs
   simp only [entZ, sumZ, ratZ] at *
   refine pcr_byq ok10 hG (n := 98) (rv := [.cell 4 true 15, .tmp 5]) fun r hr => ?_; unfold c10 st0
   (have we1 := hpd; exact xwalkd1)
  ·have hpd : decide (pre = ⟨#[]⟩) = false := decide_eq_false hp
   cases hq : getS pre t.P with
   | none =>
    rw [hq] at h3
    dsimp only at h3
    have hm := RatT.pcr_mul (G := G) hG ratZ_qm qm_zero (by omega) (by omega)
    generalize t.D = td at *
    subst hcs
    simp only [entZ, sumZ, ratZ] at *
    refine pcr_byq ok10 hG (n := 98) (rv := [.cell 4 true 15, .tmp 5]) fun r hr => ?_; unfold c10 st0
    (have we1 := hpd; exact xwalkd1)
   | some p =>
    rw [hq] at h3
    dsimp only at h3
    have hm := RatT.pcr_mul (G := G) hG ratZ_qm (ht.pre _ (getS_mem hq)).2 (by omega) (by omega)
    generalize t.D = td at *
    subst hcs
    simp only [entZ, sumZ, ratZ] at *
    refine pcr_byq ok10 hG (n := 98) (rv := [.cell 4 true 15, .tmp 5]) fun r hr => ?_; unfold c10 st0
    (have we1 := hpd; exact xwalkd1)
 | some e =>
  rw [hn] at h1 h2
  have heok := ht.ent _ (getS_mem hn)
  dsimp only at h1 h2 heok ⊢
  have hv8 := heok.v8
  have hgd := heok.good
  have htm := DimsT.pcr_times (G := G) hG pw hv8
  rw [hgd, Bool.true_and] at htm
  simp only [mV] at htm
  have hfq := heok.f1
  obtain ⟨cs, hcs⟩ : ∃ cs, t.D = .rp cs := ⟨_, rfl⟩
  by_cases hp : pre = ⟨#[]⟩
  ·clear h3
   have hpd : decide (pre = ⟨#[]⟩) = true := decide_eq_true hp
   rw [if_pos hp]
   unfold pwr
   dsimp only
   rw [Rat.mul_one]
   by_cases c1 : pw < 1
   ·rw [if_pos (.inl c1)]
    unfold rSum zSum
    generalize t.D = td at *
    subst hcs
    generalize e.v = v at *
    obtain ⟨a0, a1, a2, a3, a4, a5, a6, a7, rfl⟩ := eight hv8
    simp only [entD, I, List.map_cons, List.map_nil, List.cons_append, List.nil_append] at *
    refine pcr_byq ok10 hG (n := 98) (rv := [.cell 4 true 15, .tmp 5]) fun r hr => ?_; unfold c10 st0
    (have we1 := hpd; exact xwalkd1)
   by_cases c2 : 15 < pw
   ·rw [if_pos (.inr c2)]
    unfold rSum zSum
    generalize t.D = td at *
    subst hcs
    generalize e.v = v at *
    obtain ⟨a0, a1, a2, a3, a4, a5, a6, a7, rfl⟩ := eight hv8
    simp only [entD, I, List.map_cons, List.map_nil, List.cons_append, List.nil_append] at *
    refine pcr_byq ok10 hG (n := 98) (rv := [.cell 4 true 15, .tmp 5]) fun r hr => ?_; unfold c10 st0
    (have we1 := hpd; exact xwalkd1)
   rw [if_neg (fun h => h.elim c1 c2)]
   have hfp := RatT.pcr_pow (G := G) hG hfq pw.toNat (by omega) (by omega)
   rw [show ((pw.toNat : Nat) : Int) = pw by omega] at hfp
   cases hh : e.h with
   | true =>
    by_cases c3 : pw = 1
    ·rw [if_neg (fun h => h.2.elim (fun h => h hp) (fun h => h c3))]
     cases hall : e.v.all (okn pw) with
     | false =>
      rw [if_neg (by decide)]
      rw [hall] at htm
      simp only [Bool.false_eq_true, if_false] at htm
      unfold rSum zSum
      clear hall
      simp only [z8, I, List.map_cons, List.map_nil] at htm
      generalize t.D = td at *
      subst hcs
      generalize e.v = v at *
      obtain ⟨a0, a1, a2, a3, a4, a5, a6, a7, rfl⟩ := eight hv8
      simp only [entD, I, List.map_cons, List.map_nil, List.cons_append, List.nil_append, hh] at *
      refine pcr_byq ok10 hG (n := 98) (rv := [.cell 4 true 15, .tmp 5]) fun r hr => ?_; unfold c10 st0
      (have we1 := hpd; exact xwalkd1)
     | true =>
      rw [if_pos rfl]
      rw [hall] at htm
      simp only [if_true] at htm
      unfold rSum Sum.D
      dsimp only
      have hw8 : (mulD e.v pw).length = 8 := by rw [mulD_len, hv8]
      generalize mulD e.v pw = w at *
      generalize (e.full) ^ pw.toNat = fp at *
      clear hall
      generalize t.D = td at *
      subst hcs
      generalize e.v = v at *
      obtain ⟨w0, w1, w2, w3, w4, w5, w6, w7, rfl⟩ := eight hw8
      obtain ⟨a0, a1, a2, a3, a4, a5, a6, a7, rfl⟩ := eight hv8
      simp only [entD, I, List.map_cons, List.map_nil, List.cons_append, List.nil_append, hh] at *
      refine pcr_byq ok10 hG (n := 98) (rv := [.cell 4 true 15, .tmp 5]) fun r hr => ?_; unfold c10 st0
      (have we1 := hpd; exact xwalkd1)
    ·rw [if_pos ⟨rfl, .inr c3⟩]
     unfold rSum zSum
     generalize t.D = td at *
     subst hcs
     generalize e.v = v at *
     obtain ⟨a0, a1, a2, a3, a4, a5, a6, a7, rfl⟩ := eight hv8
     simp only [entD, I, List.map_cons, List.map_nil, List.cons_append, List.nil_append, hh] at *
     refine pcr_byq ok10 hG (n := 98) (rv := [.cell 4 true 15, .tmp 5]) fun r hr => ?_; unfold c10 st0
     (have we1 := hpd; exact xwalkd1)
   | false =>
    rw [if_neg (fun h => Bool.noConfusion h.1)]
    cases hall : e.v.all (okn pw) with
    | false =>
     rw [if_neg (by decide)]
     rw [hall] at htm
     simp only [Bool.false_eq_true, if_false] at htm
     unfold rSum zSum
     clear hall
     simp only [z8, I, List.map_cons, List.map_nil] at htm
     generalize t.D = td at *
     subst hcs
     generalize e.v = v at *
     obtain ⟨a0, a1, a2, a3, a4, a5, a6, a7, rfl⟩ := eight hv8
     simp only [entD, I, List.map_cons, List.map_nil, List.cons_append, List.nil_append, hh] at *
     refine pcr_byq ok10 hG (n := 98) (rv := [.cell 4 true 15, .tmp 5]) fun r hr => ?_; unfold c10 st0
     (have we1 := hpd; exact xwalkd1)
    | true =>
     rw [if_pos rfl]
     rw [hall] at htm
     simp only [if_true] at htm
     unfold rSum Sum.D
     dsimp only
     have hw8 : (mulD e.v pw).length = 8 := by rw [mulD_len, hv8]
     generalize mulD e.v pw = w at *
     generalize (e.full) ^ pw.toNat = fp at *
     clear hall
     generalize t.D = td at *
     subst hcs
     generalize e.v = v at *
     obtain ⟨w0, w1, w2, w3, w4, w5, w6, w7, rfl⟩ := eight hw8
     obtain ⟨a0, a1, a2, a3, a4, a5, a6, a7, rfl⟩ := eight hv8
     simp only [entD, I, List.map_cons, List.map_nil, List.cons_append, List.nil_append, hh] at *
     refine pcr_byq ok10 hG (n := 98) (rv := [.cell 4 true 15, .tmp 5]) fun r hr => ?_; unfold c10 st0
     (have we1 := hpd; exact xwalkd1)
  ·have hpd : decide (pre = ⟨#[]⟩) = false := decide_eq_false hp
   rw [if_neg hp]
   cases hq : getS pre t.P with
   | none =>
    rw [hq] at h3
    dsimp only at h3 ⊢
    have hm := RatT.pcr_mul (G := G) hG hfq qm_zero (by omega) (by omega)
    unfold rSum zSum
    generalize t.D = td at *
    subst hcs
    generalize e.v = v at *
    obtain ⟨a0, a1, a2, a3, a4, a5, a6, a7, rfl⟩ := eight hv8
    simp only [entD, I, List.map_cons, List.map_nil, List.cons_append, List.nil_append] at *
    refine pcr_byq ok10 hG (n := 98) (rv := [.cell 4 true 15, .tmp 5]) fun r hr => ?_; unfold c10 st0
    (have we1 := hpd; exact xwalkd1)
   | some p =>
    rw [hq] at h3
    have hpq := (ht.pre _ (getS_mem hq)).2
    dsimp only at h3 hpq ⊢
    have hm := RatT.pcr_mul (G := G) hG hfq hpq (by omega) (by omega)
    have hfq := qm_mul hfq hpq
    unfold pwr
    dsimp only
    by_cases c1 : pw < 1
    ·rw [if_pos (.inl c1)]
     unfold rSum zSum
     generalize t.D = td at *
     subst hcs
     generalize e.v = v at *
     obtain ⟨a0, a1, a2, a3, a4, a5, a6, a7, rfl⟩ := eight hv8
     simp only [entD, I, List.map_cons, List.map_nil, List.cons_append, List.nil_append] at *
     refine pcr_byq ok10 hG (n := 98) (rv := [.cell 4 true 15, .tmp 5]) fun r hr => ?_; unfold c10 st0
     (have we1 := hpd; exact xwalkd1)
    by_cases c2 : 15 < pw
    ·rw [if_pos (.inr c2)]
     unfold rSum zSum
     generalize t.D = td at *
     subst hcs
     generalize e.v = v at *
     obtain ⟨a0, a1, a2, a3, a4, a5, a6, a7, rfl⟩ := eight hv8
     simp only [entD, I, List.map_cons, List.map_nil, List.cons_append, List.nil_append] at *
     refine pcr_byq ok10 hG (n := 98) (rv := [.cell 4 true 15, .tmp 5]) fun r hr => ?_; unfold c10 st0
     (have we1 := hpd; exact xwalkd1)
    rw [if_neg (fun h => h.elim c1 c2)]
    have hfp := RatT.pcr_pow (G := G) hG hfq pw.toNat (by omega) (by omega)
    rw [show ((pw.toNat : Nat) : Int) = pw by omega] at hfp
    cases hh : e.h with
    | true =>
     rw [if_pos ⟨rfl, .inl hp⟩]
     unfold rSum zSum
     generalize t.D = td at *
     subst hcs
     generalize e.v = v at *
     obtain ⟨a0, a1, a2, a3, a4, a5, a6, a7, rfl⟩ := eight hv8
     simp only [entD, I, List.map_cons, List.map_nil, List.cons_append, List.nil_append, hh] at *
     refine pcr_byq ok10 hG (n := 98) (rv := [.cell 4 true 15, .tmp 5]) fun r hr => ?_; unfold c10 st0
     (have we1 := hpd; exact xwalkd1)
    | false =>
     rw [if_neg (fun h => Bool.noConfusion h.1)]
     cases hall : e.v.all (okn pw) with
     | false =>
      rw [if_neg (by decide)]
      rw [hall] at htm
      simp only [Bool.false_eq_true, if_false] at htm
      unfold rSum zSum
      clear hall
      simp only [z8, I, List.map_cons, List.map_nil] at htm
      generalize t.D = td at *
      subst hcs
      generalize e.v = v at *
      obtain ⟨a0, a1, a2, a3, a4, a5, a6, a7, rfl⟩ := eight hv8
      simp only [entD, I, List.map_cons, List.map_nil, List.cons_append, List.nil_append, hh] at *
      refine pcr_byq ok10 hG (n := 98) (rv := [.cell 4 true 15, .tmp 5]) fun r hr => ?_; unfold c10 st0
      (have we1 := hpd; exact xwalkd1)
     | true =>
      rw [if_pos rfl]
      rw [hall] at htm
      simp only [if_true] at htm
      unfold rSum Sum.D
      dsimp only
      have hw8 : (mulD e.v pw).length = 8 := by rw [mulD_len, hv8]
      generalize mulD e.v pw = w at *
      generalize (e.full * p) ^ pw.toNat = fp at *
      clear hall
      generalize t.D = td at *
      subst hcs
      generalize e.v = v at *
      obtain ⟨w0, w1, w2, w3, w4, w5, w6, w7, rfl⟩ := eight hw8
      obtain ⟨a0, a1, a2, a3, a4, a5, a6, a7, rfl⟩ := eight hv8
      simp only [entD, I, List.map_cons, List.map_nil, List.cons_append, List.nil_append, hh] at *
      refine pcr_byq ok10 hG (n := 98) (rv := [.cell 4 true 15, .tmp 5]) fun r hr => ?_; unfold c10 st0
      (have we1 := hpd; exact xwalkd1)
end Go.Proofs.YtgdbkigaaooifaaGreatDoorK.TabT
