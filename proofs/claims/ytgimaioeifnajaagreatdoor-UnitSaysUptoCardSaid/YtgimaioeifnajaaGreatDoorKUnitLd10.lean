/-
  Texts of any length; Good, whatever the unit.
-/
import Derived.Test.YtgimaioeifnajaaGreatDoorKIrCubitref6
import Derived.Test.YtgimaioeifnajaaGreatDoorKIrX
import Derived.Test.YtgimaioeifnajaaGreatDoorKUnitLc10
set_option linter.all false
set_option maxHeartbeats 0
namespace Go.Proofs.YtgimaioeifnajaaGreatDoorK.LawT10
open AI NatIr Dig NatT LibT TabT Go.Lib
attribute [local irreducible] awp awpOps
attribute [local go_sem] not_true_eq_false not_false_eq_true eq_self decide_true decide_false beq_self_eq_true Int.reduceAdd nl List.getElem?_cons_zero List.getElem?_cons_succ
variable {G : World → Prop}
theorem unit_err' {k : Kn} {s : Wd} {e : Int} (hu : unitA k s = .error e) : e ≠ 0 := by
  intro h
  subst h
  unfold unitA splW at hu
  split at hu
  · rename_i h4
    split at h4
    · cases h4; cases hu
    · split at h4
      · cases h4
      · cases h4; cases hu
  · split at hu
    · cases hu
    · split at hu
      · cases hu
      · cases hu
theorem unit_big {k : Kn} {s : Wd} (h : 256 < s.size) : ∃ e, splW s = .error e ∧ unitA k s = .error e ∧ e ≠ 0 := by
  have h1 : ∃ e, splW s = .error e := by unfold splW; rw [if_pos h]; exact ⟨_, rfl⟩
  obtain ⟨e, h1⟩ := h1
  have h2 : unitA k s = .error e := by unfold unitA; rw [h1]
  exact ⟨e, h1, h2, unit_err' h2⟩
theorem pcr_wsplit_big (hG : Stable G) (s : Wd) (h : 256 < s.size) (hs : s.size ≤ 9223372036854775807) : PCr Tryz.prog G 24 [.str s] (rSpl (splW s)) := by
  unfold splW
  rw [if_pos h]
  unfold rSpl
  refine pcr_byq ok24 hG (n := 23) (rv := [.tmp 2, .tmp 3]) fun r hr => ?_; unfold c24 st0
  (exact xwalkd)
theorem pcr_rsplit_big (hG : Stable G) (s : Wd) (h : 256 < s.size) (hs : s.size ≤ 9223372036854775807) : PCr Tryz.prog G 32 [.str s] (rSpl (splW s)) := by
  unfold splW
  rw [if_pos h]
  unfold rSpl
  refine pcr_byq ok32 hG (n := 54) (rv := [.tmp 2, .tmp 3]) fun r hr => ?_; unfold c32 st0
  (exact xwalkd)
theorem pcr_uparseG (hG : Stable G) (hT : ∀ w, G w → Lib.TabIs Tryz.prog w "internal/strconv.uint64pow10" .u64 Lib.pow10Tab) (hM : ∀ w, G w → gMax w) (k : Kn) (s : Wd) (hn : k.names.length < 1000000) (hp : k.prefs.length < 1000000) (hs : s.size ≤ 9223372036854775807) : PCr Tryz.prog G 9 [k.D, .str s] (rUnit (unitA k s)) := by
  by_cases h : 256 < s.size
  · obtain ⟨e, h1, h2, he⟩ := unit_big (k := k) h
    have hsp := pcr_wsplit_big (G := G) hG s h hs
    rw [h1] at hsp
    rw [h2]
    unfold rSpl at hsp
    unfold rUnit Kn.D
    dsimp only at hsp ⊢
    clear h1 h2
    generalize k.names.map D.str = cN at *
    generalize k.prefs.map D.str = cP at *
    refine pcr_byq ok9 hG (n := 52) (rv := [.cell 4 true 1, .tmp 5]) fun r hr => ?_; unfold c9 st0
    (exact xwalkd)
  · exact pcr_uparse hG hT hM k s hn hp (by omega)
theorem pcr_rparseG (hG : Stable G) (k : Kn) (s : Wd) (hk : k.fits) (hs : s.size ≤ 9223372036854775807) : PCr Tryz.prog G 16 [k.D, .str s] (rUnitR (unitA k s)) := by
  by_cases h : 256 < s.size
  · obtain ⟨e, h1, h2, he⟩ := unit_big (k := k) h
    have hsp := pcr_rsplit_big (G := G) hG s h hs
    rw [h1] at hsp
    rw [h2]
    unfold rSpl at hsp
    unfold rUnitR Kn.D
    dsimp only at hsp ⊢
    clear h1 h2 hk
    generalize k.names.map D.str = cN at *
    generalize k.prefs.map D.str = cP at *
    refine pcr_byq ok16 hG (n := 48) (rv := [.tmp 4, .tmp 5]) fun r hr => ?_; unfold c16 st0
    (exact xwalkd)
  · exact pcr_rparse hG k s hk (by omega)
def ptG (p : Pt) : GP := ⟨p.num, p.den, wd 4294967296 p.c⟩
theorem gpsC_ptG (v : List Pt) : gpsC (v.map ptG) = ptsC v := by
  unfold gpsC ptsC
  rw [List.flatMap_map]
  rfl
theorem ptG_lens {v : List Pt} (hv : ∀ p ∈ v, p.ok) : ∀ g ∈ v.map ptG, g.num.length < 1000000 ∧ g.den.length < 1000000 ∧ g.x.length < 1000000 := fun g hg => by
  obtain ⟨p, hp, rfl⟩ := List.mem_map.1 hg
  have h := hv p hp
  have h1 := h.few
  have h2 := wd_length_le (B := 4294967296) (by omega) (Nat.lt_of_lt_of_le h.c20 (show 100000000000000000000 ≤ 4294967296 ^ 6 by decide))
  exact ⟨by show p.num.length < _; omega, by show p.den.length < _; omega, by show (wd 4294967296 p.c).length < _; omega⟩
def goodA (k : Kn) (u : List GP) : Bool := match unitA k (shU (u.map GP.pt)) with
  | .ok v => eqGPs u (v.map ptG)
  | .error _ => false
theorem pcr_ugoodG (hG : Stable G) (hT : ∀ w, G w → Lib.TabIs Tryz.prog w "internal/strconv.uint64pow10" .u64 Lib.pow10Tab) (hM : ∀ w, G w → gMax w) (k : Kn) (u : List GP) (hn : k.names.length < 1000000) (hp : k.prefs.length < 1000000) (hu : ∀ g ∈ u, g.may) (hul : u.length ≤ 1000) :
    PCr Tryz.prog G 14 [k.D, .agg [.sl u.length (gpsC u)]] (.bool (goodA k u)) := by
  have hs := pcr_ushowG (G := G) hG hT u hu hul
  have hsz := shU_size (mays_pt hu) (by rw [List.length_map]; exact hul) (u.map GP.pt).length
  rw [List.take_length] at hsz
  have hpa := pcr_uparseG (G := G) hG hT hM k (shU (u.map GP.pt)) hn hp (by omega)
  unfold goodA
  have hlu : ∀ g ∈ u, g.num.length < 1000000 ∧ g.den.length < 1000000 ∧ g.x.length < 1000000 := fun g hg => by
    have h := hu g hg
    have h1 := h.num
    have h2 := h.den
    have h3 := h.x6
    exact ⟨by omega, by omega, by omega⟩
  have hui := gpsC_imm u
  have hgl := gpsC_len u
  have hni := strs_imm k.names
  have hpi := strs_imm k.prefs
  cases h : unitA k (shU (u.map GP.pt)) with
  | error e =>
    have he := unit_err' h
    rw [h] at hpa
    unfold rUnit at hpa
    dsimp only at hpa ⊢
    clear h hu hlu hsz
    generalize shU (u.map GP.pt) = S at *
    unfold Kn.D at *
    refine pcr_byq ok14 hG (n := 23) (rv := [.tmp 4]) fun r hr => ?_; unfold c14 st0
    (have we1 := hui; have we2 := hni; have we3 := hpi; exact xwalkd3)
  | ok v =>
    obtain ⟨_, h2, _, h4, h5⟩ := unitA_ok h
    rw [h] at hpa
    unfold rUnit at hpa
    dsimp only at hpa ⊢
    have hq := pcr_equnitsG (G := G) hG u (v.map ptG) hlu (ptG_lens h4) (by omega) (by rw [List.length_map]; omega)
    rw [List.length_map, gpsC_ptG] at hq
    have hvi := ptsC_imm v
    have hvl := ptsC_len v
    generalize eqGPs u (v.map ptG) = q at *
    clear h hu hlu hsz
    generalize shU (u.map GP.pt) = S at *
    unfold Kn.D at *
    refine pcr_byq ok14 hG (n := 23) (rv := [.tmp 4]) fun r hr => ?_; unfold c14 st0
    (have we1 := hui; have we2 := hvi; have we3 := hni; have we4 := hpi; exact xwalkd4)
def goodX (g : GP) : Bool := decide (g.x = []) || decide (g.x.getD (g.x.length - 1) 0 ≠ 0)
theorem goodX_iff {l : List Int} (hl : ok 4294967296 l) {c : Nat} : (l = wd 4294967296 c) ↔ (vl 4294967296 l = c ∧ (l = [] ∨ l.getD (l.length - 1) 0 ≠ 0)) := by
  constructor
  · rintro rfl
    refine ⟨vl_wd (by omega) c, ?_⟩
    by_cases h0 : c = 0
    · subst h0; exact .inl (wd_zero _)
    · exact .inr (NatT.wd_last h0)
  · rintro ⟨rfl, h⟩
    refine eq_wd (by omega) hl fun x hx => ?_
    rcases h with h | h
    · rw [h] at hx; cases hx
    · rw [List.getLast?_eq_getElem?] at hx
      rw [List.getD_eq_getElem?_getD, hx] at h
      exact h
theorem eqAts_iff {l m : List At} : eqAts l m = true ↔ l = m := ⟨eqAts_eq, fun h => by rw [h, eqAts_self]⟩
theorem eqG_one {g : GP} (hg : ok 4294967296 g.x) (p : Pt) : eqGP g (ptG p) = ((decide (txt p.c = txt g.pt.c) && (eqAts p.num g.num && eqAts p.den g.den)) && goodX g) := by
  unfold eqGP ptG goodX
  rw [eqWs_eq, ← Bool.decide_or, Bool.eq_iff_iff]
  simp only [Bool.and_eq_true, decide_eq_true_eq, eqAts_iff]
  rw [goodX_iff hg]
  have h1 : (txt p.c = txt g.pt.c) ↔ vl 4294967296 g.x = p.c := ⟨fun h => (TabT.txt_inj h).symm, fun h => by rw [← h]; rfl⟩
  rw [h1]
  constructor
  · rintro ⟨a, b, c, d⟩
    exact ⟨⟨c, a.symm, b.symm⟩, d⟩
  · rintro ⟨⟨c, a, b⟩, d⟩
    exact ⟨a.symm, b.symm, c, d⟩
end Go.Proofs.YtgimaioeifnajaaGreatDoorK.LawT10
