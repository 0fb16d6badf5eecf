/-
  The document's own ParseUnit: what it computes.
-/
import Derived.Test.YtgimaioeifnajaaGreatDoorKIrCubitref6
import Derived.Test.YtgimaioeifnajaaGreatDoorKUniV
set_option linter.all false
set_option maxHeartbeats 0
namespace Go.Proofs.YtgimaioeifnajaaGreatDoorK.TabT
open AI NatIr Dig NatT LibT Go.Lib
attribute [local irreducible] awp awpOps
attribute [local go_sem] not_true_eq_false not_false_eq_true eq_self decide_true decide_false beq_self_eq_true Int.reduceAdd nl
variable {G : World → Prop}
def rptsC (u : List Pt) : List D := u.flatMap rpT
theorem rptsC_len (u : List Pt) : (rptsC u).length = u.length * 3 := by
  induction u with
  | nil => rfl
  | cons p u ih =>
    show (rptsC u).length + 1 + 1 + 1 = _
    rw [ih, List.length_cons]; omega
theorem rptsC_app (u v : List Pt) : rptsC (u ++ v) = rptsC u ++ rptsC v := by simp [rptsC]
theorem rptsC_imm (u : List Pt) : (rptsC u).all D.imm = true := by
  induction u with
  | nil => rfl
  | cons p u ih =>
    show (true && (true && (true && (rptsC u).all D.imm))) = true
    rw [ih]; rfl
theorem rptsC_get {u : List Pt} {i : Nat} (h : i < u.length) : ((rptsC u).drop (i * 3)).take 3 = rpT u[i] := by
  induction u generalizing i with
  | nil => cases h
  | cons p u ih =>
    cases i with
    | zero => rfl
    | succ i =>
      rw [show (i + 1) * 3 = i * 3 + 3 by omega]
      exact ih (by simpa using h)
def rUnitR : Except Int (List Pt) → D
  | .ok u => .tup [.sl u.length (rptsC u), .int .i64 0]
  | .error e => .tup [.sl 0 [], .int .i64 e]
theorem pcr_rparse (hG : Stable G) (k : Kn) (s : Wd) (hk : k.fits) (hs : s.size < 100000) : PCr Tryz.prog G 16 [k.D, .str s] (rUnitR (unitA k s)) := by
  have hsp := pcr_rsplit (G := G) hG s (by omega)
  have hpa := fun l h1 h2 => pcr_rpart (G := G) hG k l hk h1 h2
  have hn := hk.n
  have hp := hk.p
  clear hk
  unfold Kn.D at *
  unfold unitA
  generalize hcN : k.names.map D.str = cN at *
  generalize hcP : k.prefs.map D.str = cP at *
  have hwl := words_len (s := s)
  cases hw : splW s with
  | error e =>
    have he : e ≠ 0 := by
      unfold splW at hw
      split at hw
      · cases hw; decide
      · split at hw
        · cases hw
        · cases hw; decide
    rw [hw] at hsp
    unfold rSpl at hsp
    unfold rUnitR
    dsimp only at hsp ⊢
    refine pcr_byq ok16 hG (n := 48) (rv := [.tmp 4, .tmp 5]) fun r hr => ?_; unfold c16 st0
    (exact xwalkd)
  | ok l =>
    have hlw : l = words s := by
      unfold splW at hw
      split at hw
      · cases hw
      · split at hw
        · cases hw; rfl
        · cases hw
    rw [hw] at hsp
    unfold rSpl at hsp
    dsimp only at hsp ⊢
    rw [← hlw] at hwl
    have hcut := pcr_rcut (G := G) hG l wAnd (by omega)
    have hcl := cutW_len (w := wAnd) (l := l)
    have hcs : ∀ x ∈ cutW wAnd l, ∀ y ∈ x, y.size < 1000000 := cutA_sub (fun x hx => by cases hx) (fun y hy => by cases hy) (fun y hy => by have := hwl.1 y hy; omega)
    unfold wAnd at hcut
    rw [show (⟨#[97, 110, 100]⟩ : Wd) = wAnd from rfl] at hcut
    generalize hrs : cutW wAnd l = rs at *
    unfold wAnd at hcut
    have hrl : (rowsD rs).length = rs.length := rowsD_len rs
    have hri := rowsD_imm rs
    have hli := strs_imm l
    have hll : (l.map D.str).length = l.length := List.length_map ..
    clear hw hlw hrs
    by_cases h4 : 4 < rs.length
    · rw [if_pos h4]
      have hd : decide ((rs.length : Int) > 4) = true := decide_eq_true (by omega)
      unfold rUnitR
      dsimp only
      refine pcr_byq ok16 hG (n := 48) (rv := [.tmp 4, .tmp 5]) fun r hr => ?_; unfold c16 st0
      (have we1 := hd; exact xwalkd1)
    · rw [if_neg h4]
      have hd : decide ((rs.length : Int) > 4) = false := decide_eq_false (by omega)
      refine pcr_byq ok16 hG (n := 48) (rv := [.tmp 4, .tmp 5]) fun r hr => ?_; unfold c16 st0
      (have we1 := hd; refine xwalk1 ?_)
      refine awp_loop (fun j σ => ∃ (i : Nat) (acc : List Pt) (v : Nat), i ≤ rs.length ∧ j = rs.length - i ∧ acc.length ≤ i ∧ partsA k rs = (partsA k (rs.drop i)).map (fun r => acc ++ r) ∧
        σ = ⟨(putE (putE (putE (putE un0 (some 2) (.ptr 0 0 0)) (some 8) (.sl rs.length (rowsD rs))) (some 9) (.own 1 v 0 acc.length)) (some 10) (.int .i64 (i : Int))), [some (0, 43, 2, [.sl k.names.length cN, .sl k.prefs.length cP]), some (v, 71, 3, rptsC acc)]⟩) rs.length ?_ ⟨0, [], 0, Nat.zero_le _, rfl, Nat.le_refl _, ?_, rfl⟩ ?_
      · rw [show rptsC [] = [] from rfl, List.length_nil]
        refine Ent.trans (Ent.nils (s := 9) 71 3 rfl) (by simp) ?_
        refine (Ent.cutk 2 (less_put (less_put (less_put (less_put (less_un0 _) ?_) ?_) ?_) ?_) (by exact ⟨.inr rfl, .inr rfl, trivial⟩) (kb_put (kb_put (kb_put (kb_put (kb_un0 _) (by simp [kb])) (by simp [kb])) (by simp [kb])) (by simp [kb])) (by simp [kbH, kb.kbs, kb, kbs_W, kbs_SS]))
        iterate 4 (· exact xlqi)
      · rw [List.drop_zero]; cases partsA k rs <;> rfl
      rintro j σ1 ⟨i, acc, v, hi, rfl, hal, hpp, rfl⟩
      have hbl := rptsC_len acc
      by_cases hlt : i < rs.length
      · have hget := rowsD_get hlt
        have hmem : rs[i] ∈ rs := List.getElem_mem hlt
        have hpi := hpa rs[i] (by have := hcl rs[i] hmem; omega) (hcs rs[i] hmem)
        rw [partsA_step hlt] at hpp
        clear hpa hcl hcs hmem
        generalize rs[i] = w at *
        cases hpw : partA k w with
        | none =>
          rw [hpw] at hpi hpp
          dsimp only [Option.map_none] at hpp
          rw [hpp] at hr
          unfold rUnitR at hr
          dsimp only at hr
          obtain ⟨a, b, x, y, z, hx, hy, hpi⟩ := hpi
          (have we1 := hget; exact xwalkd1)
        | some p =>
          rw [hpw] at hpi hpp
          dsimp only at hpp
          have hpi : PCr _ _ _ _ _ := hpi
          have hacl : (acc ++ [p]).length = acc.length + 1 := by rw [List.length_append]; rfl
          have hac : rptsC acc ++ rpT p = rptsC (acc ++ [p]) := by rw [rptsC_app]; simp [rptsC]
          have hpp2 : partsA k rs = (partsA k (rs.drop (i + 1))).map (fun r => acc ++ [p] ++ r) := by
            rw [hpp]
            cases partsA k (rs.drop (i + 1)) with
            | none => rfl
            | some r => simp
          unfold rpT at hpi hac
          clear hpp
          (have we1 := hget; have we2 := hbl; have we3 := hac; refine xwalk3 ?_)
          refine ⟨rs.length - (i + 1), _, by omega, ?_, i + 1, acc ++ [p], v + 1, by omega, rfl, by omega, hpp2, rfl⟩
          rw [hacl]
          refine Ent.cutk 2 (less_put (less_put (less_put (less_put (less_un0 _) ?_) ?_) ?_) ?_) ⟨.inr rfl, .inr rfl, trivial⟩ (kb_put (kb_put (kb_put (kb_put (kb_un0 _) (by simp [kb])) (by simp [kb])) (by simp [kb])) (by simp [kb])) ⟨by simp [kb.kbs, kb], kbs_of_imm (rptsC_imm _), trivial⟩
          iterate 4 (· exact xlqi)
      · obtain rfl : i = rs.length := by omega
        rw [List.drop_length, partsA, Option.map_some, List.append_nil] at hpp
        rw [hpp] at hr
        unfold rUnitR at hr
        dsimp only at hr
        clear hpa hcl hcs
        have htk : (rptsC acc).take (acc.length * 3) = rptsC acc := List.take_of_length_le (by rw [rptsC_len]; omega)
        have hbi := rptsC_imm acc
        (have we1 := htk; have we2 := hbl; have we3 := hbi; exact xwalkd3)
end Go.Proofs.YtgimaioeifnajaaGreatDoorK.TabT
