/-
 What atoms come to, plainly: a prefix; errors.
-/
import Derived.Test.YtgdbkigaaooifaaGreatDoorKRedA
set_option linter.all false
set_option maxHeartbeats 4000000
namespace Go.Proofs.YtgdbkigaaooifaaGreatDoorK.TabT
open AI NatIr Dig NatT NumT RatT DimsT ConvT
theorem mul_npow (a b : Rat) : ∀ n : Nat, (a * b) ^ n = a ^ n * b ^ n
 | 0 => by rw [Rat.pow_zero, Rat.pow_zero, Rat.pow_zero]; exact (Rat.mul_one 1).symm
 | n + 1 => by
  rw [Rat.pow_succ, Rat.pow_succ, Rat.pow_succ, mul_npow a b n]
  grind
theorem goodD_mul {a : List Int} {k : Int} (h : a.all (okn k) = true) : goodD (mulD a k) = true := goodD_of fun i hi => by
 rw [mulD_len] at hi
 have hm : a.getD i 0 ∈ a := by rw [List.getD_eq_getElem?_getD, List.getElem?_eq_getElem hi]; exact List.getElem_mem hi
 have hx := List.all_eq_true.1 h _ hm
 rw [mulD_get hi]
 generalize a.getD i 0 = x at *
 unfold okn at hx
 simp only [Bool.or_eq_true, Bool.and_eq_true, decide_eq_true_eq, inD_iff] at hx
 rcases hx with rfl | hx
 ·omega
 ·exact hx.2
theorem pwr_err {a : At} {e : En} {p : Rat} {x : Int} (h : pwr a e p = .error x) : x ≠ 0 := by
 unfold pwr at h
 split at h
 ·cases h; decide
 ·split at h
  ·cases h; decide
  ·split at h
   ·cases h
   ·cases h; decide
theorem atS_err0 {t : Tab} {a : At} {x : Int} (h : atS t a = .error x) : x ≠ 0 := by
 unfold atS at h
 split at h
 ·cases h; decide
 ·split at h
  ·exact pwr_err h
  ·split at h
   ·cases h; decide
   ·exact pwr_err h
theorem pwr_ok {a : At} {e : En} {p : Rat} {s : Sum} (h : pwr a e p = .ok s) : 1 ≤ a.pw ∧ a.pw ≤ 15 ∧ (e.h = true → a.pre = ⟨#[]⟩ ∧ a.pw = 1) ∧ e.v.all (okn a.pw) = true ∧ s = ⟨mulD e.v a.pw, (e.full * p) ^ a.pw.toNat, e.o, e.h⟩ := by
 unfold pwr at h
 split at h
 ·cases h
 ·rename_i h1
  split at h
  ·cases h
  ·rename_i h2
   split at h
   ·rename_i h3
    cases h
    refine ⟨by omega, by omega, fun he => ?_, h3, rfl⟩
    refine ⟨Classical.byContradiction fun hp => h2 ⟨he, .inl hp⟩, Classical.byContradiction fun hp => h2 ⟨he, .inr hp⟩⟩
   ·cases h
theorem atS_none {t : Tab} {pre name : ByteArray} {pw : Int} {x : Int} (h : atS t ⟨⟨#[]⟩, name, pw⟩ = .error x) : ∃ y, y ≠ 0 ∧ atS t ⟨pre, name, pw⟩ = .error y := by
 cases hb : atS t ⟨pre, name, pw⟩ with
 | error y => exact ⟨y, atS_err0 hb, rfl⟩
 | ok s =>
  exfalso
  unfold atS at h hb
  dsimp only at h hb
  cases hn : getS name t.E with
  | none => rw [hn] at hb; cases hb
  | some e =>
   rw [hn] at h hb
   dsimp only at h hb
   rw [if_pos rfl] at h
   have key : ∀ p, pwr ⟨pre, name, pw⟩ e p = .ok s → False := fun p hp => by
    obtain ⟨h1, h2, h3, h4, _⟩ := pwr_ok hp
    dsimp only at h1 h2 h3 h4
    unfold pwr at h
    dsimp only at h
    rw [if_neg (by omega), if_neg (fun hc => hc.2.elim (fun hp => hp rfl) (fun hp => hp (h3 hc.1).2)), if_pos h4] at h
    cases h
   split at hb
   ·exact key _ hb
   ·split at hb
    ·cases hb
    ·exact key _ hb
theorem atS_pre {t : Tab} {pre name : ByteArray} {pw : Int} {s s' : Sum} (h : atS t ⟨⟨#[]⟩, name, pw⟩ = .ok s) (h' : atS t ⟨pre, name, pw⟩ = .ok s') (hp : pre ≠ ⟨#[]⟩) :
  1 ≤ pw ∧ pw ≤ 15 ∧ ∃ p, getS pre t.P = some p ∧ s'.v = s.v ∧ s'.f = s.f * p ^ pw.toNat := by
 unfold atS at h h'
 dsimp only at h h'
 cases hn : getS name t.E with
 | none => rw [hn] at h; cases h
 | some e =>
  rw [hn] at h h'
  dsimp only at h h'
  rw [if_pos rfl] at h
  rw [if_neg hp] at h'
  cases hq : getS pre t.P with
  | none => rw [hq] at h'; cases h'
  | some p =>
   rw [hq] at h'
   dsimp only at h'
   obtain ⟨a1, a2, _, _, rfl⟩ := pwr_ok h
   obtain ⟨_, _, _, _, rfl⟩ := pwr_ok h'
   refine ⟨a1, a2, p, rfl, rfl, ?_⟩
   dsimp only
   rw [Rat.mul_one, mul_npow]
theorem atS_qm {t : Tab} (ht : t.ok) {a : At} {s : Sum} (h : atS t a = .ok s) : s.v.length = 8 ∧ 0 < s.f ∧ goodD s.v = true ∧ Qm 181 s.f (QD s.f) ∧ Qm 8 s.o (QD s.o) := by
 unfold atS at h
 cases hn : getS a.name t.E with
 | none => rw [hn] at h; cases h
 | some e =>
  have he := ht.ent _ (getS_mem hn)
  rw [hn] at h
  dsimp only at h
  have key : ∀ p, 0 < p → Qm 4 p (QD p) → pwr a e p = .ok s → s.v.length = 8 ∧ 0 < s.f ∧ goodD s.v = true ∧ Qm 181 s.f (QD s.f) ∧ Qm 8 s.o (QD s.o) := fun p hp hq hs => by
   obtain ⟨h1, h2, _, h4, rfl⟩ := pwr_ok hs
   refine ⟨by rw [mulD_len]; exact he.v8, Rat.pow_pos (Rat.mul_pos he.pos hp), ?_, ?_, he.o1⟩
   ·exact goodD_mul h4
   ·have := qm_pow (qm_mul he.f1 hq) a.pw.toNat
    exact this.up (by omega)
  split at h
  ·exact key 1 (by decide) (qm_QD (by omega) (by decide) (by decide)) h
  ·cases hq : getS a.pre t.P with
   | none => rw [hq] at h; cases h
   | some p =>
    rw [hq] at h
    have := ht.pre _ (getS_mem hq)
    exact key p this.1 this.2 h
end Go.Proofs.YtgdbkigaaooifaaGreatDoorK.TabT
