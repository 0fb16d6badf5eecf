/-
 Joined: RedM, RedL.
-/
import Derived.Test.YtoiepmpggabglaaGreatDoorKTa
import Derived.Test.YtoiepmpggabglaaGreatDoorKMm
import Derived.Test.YtoiepmpggabglaaGreatDoorKRb
set_option linter.all false
set_option maxHeartbeats 4000000
/-
 The laws' table, as a table of units (printed by tools/gen_met.py out of law/MetV).
-/
namespace Go.Proofs.YtoiepmpggabglaaGreatDoorK.TabT
open AI Dig NatT NumT RatT DimsT ConvT
open EvT (i6)
def ba (l : List Nat) : ByteArray := ⟨⟨l.map UInt8.ofNat⟩⟩
def nlv (X : Nat) : D := match X with | 0 => .sl 0 [] | X + 1 => .sl 1 [.int .u32 ((X + 1 : Nat) : Int)]
theorem nl_v {X : Nat} (h : X < 4294967296) : nl X = nlv X := by
 unfold nl
 cases X with
 | zero => rw [wd_zero]; rfl
 | succ X =>
  rw [wd_pos (by omega) (by omega), Nat.mod_eq_of_lt h, Nat.div_eq_of_lt h, wd_zero]
  rfl
def s32 (r : Rat) : Bool := Nat.blt r.num.natAbs 4294967296 && Nat.blt r.den 4294967296
theorem s32_nl {r : Rat} (h : s32 r = true) : nl r.num.natAbs = nlv r.num.natAbs ∧ nl r.den = nlv r.den := by
 simp only [s32, Bool.and_eq_true, Nat.blt_eq] at h
 exact ⟨nl_v h.1, nl_v h.2⟩
theorem s32_qm {L : Nat} {r : Rat} (h : s32 r = true) (h0 : 1 ≤ L) : Qm L r (QD r) := by
 simp only [s32, Bool.and_eq_true, Nat.blt_eq] at h
 have h1 : 4294967296 ^ 1 ≤ 4294967296 ^ L := Nat.pow_le_pow_right (by omega) h0
 exact qm_QD h0 (by omega) (by omega)
def QV (r : Rat) : D := .agg [.bool (ng r.num), nlv r.num.natAbs, nlv r.den]
def entV (s : ByteArray) (e : En) : D := .agg [.str s, .str e.id, .int .i64 e.base, .bool (ng e.f.num), nlv e.f.num.natAbs, nlv e.f.den, .bool (ng e.o.num), nlv e.o.num.natAbs, nlv e.o.den, .bool e.h]
def sumV (e : En) : D := .agg (I e.v ++ [.bool (ng e.full.num), nlv e.full.num.natAbs, nlv e.full.den])
def Tab.V (t : Tab) : AI.D := .rp [.sl t.names.length (t.names.map .str), .sl t.prefs.length (t.prefs.map .str), .mf (kvS (t.E.map fun p => (p.1, entV p.1 p.2))), .mf (kvS (t.E.map fun p => (p.1, sumV p.2))),
 .mf (kvS (t.P.map fun p => (p.1, QV p.2))), .mf (kvS (t.old.map fun p => (p.1, .str p.2))), t.nm, t.cl, .int .i64 t.bases]
theorem num_pos' {q : Rat} (h : (match q.num with | .ofNat (_ + 1) => true | _ => false) = true) : 0 < q := by
 have h1 : 0 < q.num := by
  cases hn : q.num with
  | ofNat n =>
   cases n with
   | zero => rw [hn] at h; cases h
   | succ n => exact Int.natCast_pos.2 (by omega)
  | negSucc n => rw [hn] at h; cases h
 rw [Rat.lt_iff_le_and_ne]
 refine ⟨Rat.num_nonneg.1 (by omega), fun e => ?_⟩
 rw [← e] at h1
 exact absurd h1 (by decide)
def En.chk (e : En) : Bool := Nat.beq e.v.length 8 && goodD e.v && (match e.full.num with | .ofNat (_ + 1) => true | _ => false) && s32 e.full && s32 e.o && s32 e.f
theorem En.chk_ok {e : En} (h : e.chk = true) : e.ok := by
 simp only [En.chk, Bool.and_eq_true] at h
 obtain ⟨⟨⟨⟨⟨h1, h2⟩, h3⟩, h4⟩, h5⟩, h6⟩ := h
 exact ⟨Nat.eq_of_beq_eq_true h1, h2, num_pos' h3, s32_qm h4 (by omega), s32_qm h5 (by omega)⟩
def Tab.chk (t : Tab) : Bool := t.E.all (fun p => p.2.chk) && t.P.all (fun p => (match p.2.num with | .ofNat (_ + 1) => true | _ => false) && s32 p.2)
theorem Tab.chk_ok {t : Tab} (h : t.chk = true) : t.ok ∧ t.D = t.V := by
 simp only [Tab.chk, Bool.and_eq_true, List.all_eq_true] at h
 refine ⟨⟨fun p hp => En.chk_ok (h.1 p hp), fun p hp => ?_⟩, ?_⟩
 ·obtain ⟨h3, h4⟩ := h.2 p hp
  exact ⟨num_pos' h3, s32_qm h4 (by omega)⟩
 ·have e1 : t.E.map (fun p => (p.1, entD p.1 p.2)) = t.E.map fun p => (p.1, entV p.1 p.2) := List.map_congr_left fun p hp => by
   have := h.1 p hp
   simp only [En.chk, Bool.and_eq_true] at this
   simp only [entD, entV, s32_nl this.2, s32_nl this.1.2]
  have e2 : t.E.map (fun p => (p.1, sumE p.2)) = t.E.map fun p => (p.1, sumV p.2) := List.map_congr_left fun p hp => by
   have := h.1 p hp
   simp only [En.chk, Bool.and_eq_true] at this
   simp only [sumE, sumV, s32_nl this.1.1.2]
  have e3 : t.P.map (fun p => (p.1, QD p.2)) = t.P.map fun p => (p.1, QV p.2) := List.map_congr_left fun p hp => by
   have := h.2 p hp
   simp only [QD, QV, s32_nl this.2]
  unfold Tab.D Tab.V
  rw [e1, e2, e3]
def mtab : Tab := ⟨[ba [109, 101, 116, 101, 114], ba [115, 101, 99, 111, 110, 100], ba [107, 101, 108, 118, 105, 110], ba [102, 111, 111, 116], ba [105, 110, 99, 104], ba [121, 97, 114, 100], ba [109, 105, 110, 117, 116, 101], ba [99, 101, 108, 115, 105, 117, 115], ba [102, 97, 104, 114, 101, 110, 104, 101, 105, 116]], [ba [107, 105, 108, 111], ba [109, 105, 108, 108, 105]],
 [(ba [109, 101, 116, 101, 114], ⟨ba [109, 101, 116, 101, 114], 0, ⟨1, 1, by decide, by decide⟩, ⟨0, 1, by decide, by decide⟩, false, [1, 0, 0, 0, 0, 0, 0, 0], ⟨1, 1, by decide, by decide⟩⟩),
  (ba [115, 101, 99, 111, 110, 100], ⟨ba [115, 101, 99, 111, 110, 100], 1, ⟨1, 1, by decide, by decide⟩, ⟨0, 1, by decide, by decide⟩, false, [0, 1, 0, 0, 0, 0, 0, 0], ⟨1, 1, by decide, by decide⟩⟩),
  (ba [107, 101, 108, 118, 105, 110], ⟨ba [107, 101, 108, 118, 105, 110], 2, ⟨1, 1, by decide, by decide⟩, ⟨0, 1, by decide, by decide⟩, false, [0, 0, 1, 0, 0, 0, 0, 0], ⟨1, 1, by decide, by decide⟩⟩),
  (ba [102, 111, 111, 116], ⟨ba [109, 101, 116, 101, 114], -1, ⟨381, 1250, by decide, by decide⟩, ⟨0, 1, by decide, by decide⟩, false, [1, 0, 0, 0, 0, 0, 0, 0], ⟨381, 1250, by decide, by decide⟩⟩),
  (ba [105, 110, 99, 104], ⟨ba [102, 111, 111, 116], -1, ⟨1, 12, by decide, by decide⟩, ⟨0, 1, by decide, by decide⟩, false, [1, 0, 0, 0, 0, 0, 0, 0], ⟨127, 5000, by decide, by decide⟩⟩),
  (ba [121, 97, 114, 100], ⟨ba [102, 111, 111, 116], -1, ⟨3, 1, by decide, by decide⟩, ⟨0, 1, by decide, by decide⟩, false, [1, 0, 0, 0, 0, 0, 0, 0], ⟨1143, 1250, by decide, by decide⟩⟩),
  (ba [109, 105, 110, 117, 116, 101], ⟨ba [115, 101, 99, 111, 110, 100], -1, ⟨60, 1, by decide, by decide⟩, ⟨0, 1, by decide, by decide⟩, false, [0, 1, 0, 0, 0, 0, 0, 0], ⟨60, 1, by decide, by decide⟩⟩),
  (ba [99, 101, 108, 115, 105, 117, 115], ⟨ba [107, 101, 108, 118, 105, 110], -1, ⟨1, 1, by decide, by decide⟩, ⟨5463, 20, by decide, by decide⟩, true, [0, 0, 1, 0, 0, 0, 0, 0], ⟨1, 1, by decide, by decide⟩⟩),
  (ba [102, 97, 104, 114, 101, 110, 104, 101, 105, 116], ⟨ba [107, 101, 108, 118, 105, 110], -1, ⟨5, 9, by decide, by decide⟩, ⟨45967, 180, by decide, by decide⟩, true, [0, 0, 1, 0, 0, 0, 0, 0], ⟨5, 9, by decide, by decide⟩⟩)],
 [(ba [107, 105, 108, 111], ⟨1000, 1, by decide, by decide⟩), (ba [109, 105, 108, 108, 105], ⟨1, 1000, by decide, by decide⟩)], [(ba [107, 112, 104], ba [107, 105, 108, 111, 109, 101, 116, 101, 114, 45, 112, 101, 114, 45, 115, 101, 99, 111, 110, 100])],
 .rp [.mf [.agg [i6 1, i6 0, i6 0, i6 0, i6 0, i6 0, i6 0, i6 0], .str (ba [108, 101, 110, 103, 116, 104]), .agg [i6 0, i6 1, i6 0, i6 0, i6 0, i6 0, i6 0, i6 0], .str (ba [116, 105, 109, 101]), .agg [i6 0, i6 0, i6 1, i6 0, i6 0, i6 0, i6 0, i6 0], .str (ba [116, 101, 109, 112, 101, 114, 97, 116, 117, 114, 101]), .agg [i6 1, i6 (-1), i6 0, i6 0, i6 0, i6 0, i6 0, i6 0], .str (ba [115, 112, 101, 101, 100]), .agg [i6 2, i6 0, i6 0, i6 0, i6 0, i6 0, i6 0, i6 0], .str (ba [97, 114, 101, 97])], .sl 5 [.str (ba [108, 101, 110, 103, 116, 104]), .str (ba [116, 105, 109, 101]), .str (ba [116, 101, 109, 112, 101, 114, 97, 116, 117, 114, 101]), .str (ba [115, 112, 101, 101, 100]), .str (ba [97, 114, 101, 97])]],
 .mf [.str (ba [108, 101, 110, 103, 116, 104]), .bool true, .str (ba [116, 105, 109, 101]), .bool true, .str (ba [116, 101, 109, 112, 101, 114, 97, 116, 117, 114, 101]), .bool true, .str (ba [115, 112, 101, 101, 100]), .bool true, .str (ba [97, 114, 101, 97]), .bool true], 3⟩
theorem mtab_chk : mtab.chk = true := by kernel_rfl
theorem mtab_V : mtab.V = EvT.metP := by kernel_rfl
theorem mtab_D : EvT.metP = mtab.D := by rw [(Tab.chk_ok mtab_chk).2, mtab_V]
end Go.Proofs.YtoiepmpggabglaaGreatDoorK.TabT
/-
 What a part comes to: how great it may be; lists of atoms as a law is handed them.
-/
namespace Go.Proofs.YtoiepmpggabglaaGreatDoorK.TabT
open AI NatIr Dig NatT NumT RatT DimsT ConvT
variable {G : World → Prop}
end Go.Proofs.YtoiepmpggabglaaGreatDoorK.TabT
