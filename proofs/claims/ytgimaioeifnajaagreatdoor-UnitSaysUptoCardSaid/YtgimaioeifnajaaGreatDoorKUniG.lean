/-
  Package unit: Parse: what it computes.
-/
import Derived.Test.YtgimaioeifnajaaGreatDoorKIrX
import Derived.Test.YtgimaioeifnajaaGreatDoorKUniE
set_option linter.all false
set_option maxHeartbeats 0
namespace Go.Proofs.YtgimaioeifnajaaGreatDoorK.TabT
open AI NatIr Dig NatT LibT Go.Lib
attribute [local irreducible] awp awpOps
attribute [local go_sem] not_true_eq_false not_false_eq_true eq_self decide_true decide_false beq_self_eq_true Int.reduceAdd nl
variable {G : World → Prop}
def ptsC (u : List Pt) : List D := u.flatMap ptC
theorem ptsC_len (u : List Pt) : (ptsC u).length = u.length * 3 := by
  induction u with
  | nil => rfl
  | cons p u ih =>
    show (ptsC u).length + 1 + 1 + 1 = _
    rw [ih, List.length_cons]; omega
theorem ptsC_app (u v : List Pt) : ptsC (u ++ v) = ptsC u ++ ptsC v := by simp [ptsC]
theorem ptsC_imm (u : List Pt) : (ptsC u).all D.imm = true := by
  induction u with
  | nil => rfl
  | cons p u ih =>
    show (true && (true && (true && (ptsC u).all D.imm))) = true
    rw [ih]; rfl
theorem ptsC_get {u : List Pt} {i : Nat} (h : i < u.length) : ((ptsC u).drop (i * 3)).take 3 = ptC u[i] := by
  induction u generalizing i with
  | nil => cases h
  | cons p u ih =>
    cases i with
    | zero => rfl
    | succ i =>
      rw [show (i + 1) * 3 = i * 3 + 3 by omega]
      exact ih (by simpa using h)
def rUnit : Except Int (List Pt) → D
  | .ok u => .tup [.agg [.sl u.length (ptsC u)], .int .i64 0]
  | .error e => .tup [.agg [.sl 0 []], .int .i64 e]
theorem rowsD_get {rs : List (List Wd)} {i : Nat} (h : i < rs.length) : ((rowsD rs).drop i).take 1 = [.sl rs[i].length (rs[i].map .str)] := by
  unfold rowsD
  rw [← List.map_drop, ← List.map_take, List.drop_eq_getElem_cons h, List.take_succ_cons, List.take_zero]
  rfl
theorem cutA_sub {w : Wd} {P : Wd → Prop} : ∀ {l : List Wd} {done : List (List Wd)} {cur : List Wd}, (∀ x ∈ done, ∀ y ∈ x, P y) → (∀ y ∈ cur, P y) → (∀ y ∈ l, P y) → ∀ x ∈ cutA w done cur l, ∀ y ∈ x, P y
  | [], done, cur, h1, h2, _, x, hx => by
    rw [cutA] at hx
    rcases List.mem_append.1 hx with hx | hx
    · exact h1 x hx
    · rw [List.mem_singleton.1 hx]; exact h2
  | z :: l, done, cur, h1, h2, h3, x, hx => by
    rw [cutA] at hx
    have h4 : ∀ y ∈ l, P y := fun y hy => h3 y (List.mem_cons_of_mem _ hy)
    split at hx
    · refine cutA_sub (fun x hx => ?_) (fun y hy => by cases hy) h4 x hx
      rcases List.mem_append.1 hx with hx | hx
      · exact h1 x hx
      · rw [List.mem_singleton.1 hx]; exact h2
    · refine cutA_sub h1 (fun y hy => ?_) h4 x hx
      rcases List.mem_append.1 hy with hy | hy
      · exact h2 y hy
      · rw [List.mem_singleton.1 hy]; exact h3 z List.mem_cons_self
theorem partsA_step {k : Kn} {rs : List (List Wd)} {i : Nat} (h : i < rs.length) : partsA k (rs.drop i) = (match partA k rs[i] with | none => none | some p => (partsA k (rs.drop (i + 1))).map fun r => p :: r) := by
  rw [List.drop_eq_getElem_cons h, partsA]
  cases partA k rs[i] <;> rfl
def unitSt (cN cP : List D) (k : Kn) (rs : List (List Wd)) (i : Nat) (acc : List Pt) : St → Prop := fun σ =>
  (acc = [] ∧ σ = ⟨(putE (putE (putE (putE (putE (putE un0 (some 2) (.ptr 0 0 0)) (some 4) (.ptr 1 0 0)) (some 9) (.ptr 2 0 0)) (some 29) (.sl rs.length (rowsD rs))) (some 30) (.int .i64 (rs.length : Int))) (some 31) (.int .i64 (i : Int))), [some (0, 31, 2, [.sl k.names.length cN, .sl k.prefs.length cP]), some (0, 25, 1, [.nils]), some (0, 25, 1, [.nils])]⟩) ∨
  (acc ≠ [] ∧ ∃ v, σ = ⟨(putE (putE (putE (putE (putE (putE un0 (some 2) (.ptr 0 0 0)) (some 4) (.ptr 1 0 0)) (some 9) (.ptr 2 0 0)) (some 29) (.sl rs.length (rowsD rs))) (some 30) (.int .i64 (rs.length : Int))) (some 31) (.int .i64 (i : Int))), [some (0, 31, 2, [.sl k.names.length cN, .sl k.prefs.length cP]), some (0, 25, 1, [.nils]), some (0, 25, 1, [.own 5 v 0 acc.length]), none, none, some (v, 52, 3, ptsC acc)]⟩)
theorem pcr_uparse (hG : Stable G) (hT : ∀ w, G w → Lib.TabIs Tryz.prog w "internal/strconv.uint64pow10" .u64 Lib.pow10Tab) (hM : ∀ w, G w → gMax w) (k : Kn) (s : Wd) (hn : k.names.length < 1000000) (hp : k.prefs.length < 1000000) (hs : s.size < 100000) : PCr Tryz.prog G 9 [k.D, .str s] (rUnit (unitA k s)) := by
  have hsp := pcr_wsplit (G := G) hG hM s (by omega)
  have hpa := fun l h1 h2 => pcr_upart (G := G) hG hT k l hn hp h1 h2
  unfold Kn.D at *
  unfold unitA
  generalize hcN : k.names.map D.str = cN at *
  generalize hcP : k.prefs.map D.str = cP at *
  have hwl := words_len (s := s)
  cases hw : splW s with
  | error e =>
    have he : e ≠ 0 := by
      unfold splW at hw
      split at hw
      · cases hw; decide
      · split at hw
        · cases hw
        · cases hw; decide
    rw [hw] at hsp
    unfold rSpl at hsp
    unfold rUnit
    dsimp only at hsp ⊢
    refine pcr_byq ok9 hG (n := 52) (rv := [.cell 4 true 1, .tmp 5]) fun r hr => ?_; unfold c9 st0
    (exact xwalkd)
  | ok l =>
    have hlw : l = words s := by
      unfold splW at hw
      split at hw
      · cases hw
      · split at hw
        · cases hw; rfl
        · cases hw
    rw [hw] at hsp
    unfold rSpl at hsp
    dsimp only at hsp ⊢
    rw [← hlw] at hwl
    have hcut := pcr_wcut (G := G) hG l wAnd (by omega)
    have hcl := cutW_len (w := wAnd) (l := l)
    have hcs : ∀ x ∈ cutW wAnd l, ∀ y ∈ x, y.size < 1000000 := cutA_sub (fun x hx => by cases hx) (fun y hy => by cases hy) (fun y hy => by have := hwl.1 y hy; omega)
    unfold wAnd at hcut
    rw [show (⟨#[97, 110, 100]⟩ : Wd) = wAnd from rfl] at hcut
    generalize hrs : cutW wAnd l = rs at *
    unfold wAnd at hcut
    have hrl : (rowsD rs).length = rs.length := rowsD_len rs
    have hri := rowsD_imm rs
    have hli := strs_imm l
    have hll : (l.map D.str).length = l.length := List.length_map ..
    clear hw hlw hrs
    by_cases h4 : 4 < rs.length
    · rw [if_pos h4]
      have hd : decide ((rs.length : Int) > 4) = true := decide_eq_true (by omega)
      unfold rUnit
      dsimp only
      refine pcr_byq ok9 hG (n := 52) (rv := [.cell 4 true 1, .tmp 5]) fun r hr => ?_; unfold c9 st0
      (have we1 := hd; exact xwalkd1)
    · rw [if_neg h4]
      have hd : decide ((rs.length : Int) > 4) = false := decide_eq_false (by omega)
      refine pcr_byq ok9 hG (n := 52) (rv := [.cell 4 true 1, .tmp 5]) fun r hr => ?_; unfold c9 st0
      (have we1 := hd; refine xwalk1 ?_)
      refine awp_loop (fun j σ => ∃ i acc, i ≤ rs.length ∧ j = rs.length - i ∧ acc.length ≤ i ∧ partsA k rs = (partsA k (rs.drop i)).map (fun r => acc ++ r) ∧ unitSt cN cP k rs i acc σ) rs.length ?_ ⟨0, [], Nat.zero_le _, rfl, Nat.le_refl _, ?_, .inl ⟨rfl, rfl⟩⟩ ?_
      · refine (Ent.cutk 3 (less_put (less_put (less_put (less_put (less_put (less_put (less_un0 _) ?_) ?_) ?_) ?_) ?_) ?_) (by exact ⟨.inr rfl, .inr rfl, .inr rfl, trivial⟩) (kb_put (kb_put (kb_put (kb_put (kb_put (kb_put (kb_un0 _) (by simp [kb])) (by simp [kb])) (by simp [kb])) (by simp [kb])) (by simp [kb])) (by simp [kb])) (by simp [kbH, kb.kbs, kb, kbs_W, kbs_SS]))
        iterate 6 (· first | exact xlq | rfl | (simp only [go_sem, Nat.reduceEqDiff, Nat.reduceAdd, Nat.reduceLT, Nat.reduceMul, Nat.reduceLeDiff, reduceCtorEq, Int.reduceNeg, Int.reduceToNat]; exact congrArg (D.int .i64) (by omega)))
      · rw [List.drop_zero]; cases partsA k rs <;> rfl
      rintro j σ1 ⟨i, acc, hi, rfl, hal, hpp, hσ⟩
      by_cases hlt : i < rs.length
      · have hget := rowsD_get hlt
        have hmem : rs[i] ∈ rs := List.getElem_mem hlt
        have hpi := hpa rs[i] (by have := hcl rs[i] hmem; omega) (hcs rs[i] hmem)
        rw [partsA_step hlt] at hpp
        clear hpa hcl hcs hmem
        generalize rs[i] = w at *
        cases hpw : partA k w with
        | none =>
          rw [hpw] at hpi hpp
          dsimp only [Option.map_none] at hpp
          rw [hpp] at hr
          unfold rUnit at hr
          dsimp only at hr
          obtain ⟨a, b, c, x, y, z, hx, hy, hz, hpi⟩ := hpi
          rcases hσ with ⟨rfl, rfl⟩ | ⟨hne, v, rfl⟩
          · (have we1 := hget; exact xwalkd1)
          · (have we1 := hget; exact xwalkd1)
        | some p =>
          rw [hpw] at hpi hpp
          dsimp only at hpp
          have hpi : PCr _ _ _ _ _ := hpi
          have hacl : (acc ++ [p]).length = acc.length + 1 := by rw [List.length_append]; rfl
          have hac : ptsC acc ++ ptC p = ptsC (acc ++ [p]) := by rw [ptsC_app]; simp [ptsC]
          have hpp2 : partsA k rs = (partsA k (rs.drop (i + 1))).map (fun r => acc ++ [p] ++ r) := by
            rw [hpp]
            cases partsA k (rs.drop (i + 1)) with
            | none => rfl
            | some r => simp
          unfold ptC at hpi hac
          clear hpp
          have hbl := ptsC_len acc
          rcases hσ with ⟨rfl, rfl⟩ | ⟨hne, v, rfl⟩
          · (have we1 := hget; refine xwalk1 ?_)
            refine ⟨rs.length - (i + 1), _, by omega, ?_, i + 1, [p], by omega, rfl, by simp, hpp2, .inr ⟨by simp, 0, rfl⟩⟩
            refine Ent.cutk 6 (less_put (less_put (less_put (less_put (less_put (less_put (less_un0 _) ?_) ?_) ?_) ?_) ?_) ?_) ⟨.inr rfl, .inr rfl, .inr rfl, .inl rfl, .inl rfl, .inr rfl, trivial⟩ (kb_put (kb_put (kb_put (kb_put (kb_put (kb_put (kb_un0 _) (by simp [kb])) (by simp [kb])) (by simp [kb])) (by simp [kb])) (by simp [kb])) (by simp [kb])) ⟨by simp [kb.kbs, kb], by simp [kb.kbs, kb], by simp [kb.kbs, kb], kbs_of_imm (ptsC_imm _), trivial⟩
            iterate 6 (· first | exact xlq | rfl | (simp only [go_sem, Nat.reduceEqDiff, Nat.reduceAdd, Nat.reduceLT, Nat.reduceMul, Nat.reduceLeDiff, reduceCtorEq, Int.reduceNeg, Int.reduceToNat]; exact congrArg (D.int .i64) (by omega)))
          · (have we1 := hget; have we2 := hbl; have we3 := hac; refine xwalk3 ?_)
            refine ⟨rs.length - (i + 1), _, by omega, ?_, i + 1, acc ++ [p], by omega, rfl, by omega, hpp2, .inr ⟨by simp, v + 1, rfl⟩⟩
            rw [hacl]
            refine Ent.cutk 6 (less_put (less_put (less_put (less_put (less_put (less_put (less_un0 _) ?_) ?_) ?_) ?_) ?_) ?_) ⟨.inr rfl, .inr rfl, .inr rfl, .inr rfl, .inr rfl, .inr rfl, trivial⟩ (kb_put (kb_put (kb_put (kb_put (kb_put (kb_put (kb_un0 _) (by simp [kb])) (by simp [kb])) (by simp [kb])) (by simp [kb])) (by simp [kb])) (by simp [kb])) ⟨by simp [kb.kbs, kb], by simp [kb.kbs, kb], by simp [kb.kbs, kb], kbs_of_imm (ptsC_imm _), trivial⟩
            iterate 6 (· first | exact xlq | rfl | (simp only [go_sem, Nat.reduceEqDiff, Nat.reduceAdd, Nat.reduceLT, Nat.reduceMul, Nat.reduceLeDiff, reduceCtorEq, Int.reduceNeg, Int.reduceToNat]; exact congrArg (D.int .i64) (by omega)))
      · obtain rfl : i = rs.length := by omega
        rw [List.drop_length, partsA, Option.map_some, List.append_nil] at hpp
        rw [hpp] at hr
        unfold rUnit at hr
        dsimp only at hr
        clear hpa hcl hcs
        rcases hσ with ⟨rfl, rfl⟩ | ⟨hne, v, rfl⟩
        · rw [show ptsC [] = [] from rfl, List.length_nil] at hr
          (exact xwalkd)
        · have htk : (ptsC acc).take (acc.length * 3) = ptsC acc := List.take_of_length_le (by rw [ptsC_len]; omega)
          have hbl := ptsC_len acc
          have hbi := ptsC_imm acc
          (have we1 := htk; have we2 := hbl; have we3 := hbi; exact xwalkd3)
end Go.Proofs.YtgimaioeifnajaaGreatDoorK.TabT
