/-
 Joined: RedB, RedQ, RedD.
-/
import Derived.Test.YtgdbkigaaooifaaGreatDoorKIrLib
import Derived.Test.YtgdbkigaaooifaaGreatDoorKFz
import Derived.Test.YtgdbkigaaooifaaGreatDoorKP
import Derived.Test.YtgdbkigaaooifaaGreatDoorKTa
import Derived.Test.YtgdbkigaaooifaaGreatDoorKIrX
set_option linter.all false
set_option maxHeartbeats 0
/-
 slices.Grow and slices.Concat of atoms: what they compute.
-/
namespace Go.Proofs.YtgdbkigaaooifaaGreatDoorK.TabT
open AI NatIr
attribute [local irreducible] awp awpOps
attribute [local go_sem] not_true_eq_false not_false_eq_true eq_self decide_true Int.reduceAdd Int.zero_add
variable {G : World → Prop}
theorem pcg_grow0 : PCg Tryz.prog G 67 [.nils, .int .i64 0] [] .nils [] := by
 refine pcg_by (fn := Tryz.f67) (n := 27) (rv := [.tmp 4]) (by kernel_rfl) ok67 (by kernel_rfl) (by decide) (by kernel_rfl) (by simp) (by kernel_rfl) (by simp) (fun r hh hr hhe => ?_); unfold c67
 (refine xwalk ?_)
 subst hr hhe
 exact resg_ret (l := []) rfl rfl (by simp [kb]) (by simp [kbH])
theorem pcg_grow1 (n : Nat) (h0 : 0 < n) (hn : n < 1000000) : PCg Tryz.prog G 67 [.nils, .int .i64 n] [] (.own 0 0 0 0) [some (0, 43, 3, [])] := by
 refine pcg_by (fn := Tryz.f67) (n := 27) (rv := [.tmp 4]) (by kernel_rfl) ok67 (by kernel_rfl) (by decide) (by kernel_rfl) (by simp) (by kernel_rfl) (by simp) (fun r hh hr hhe => ?_); unfold c67
 (refine xwalk ?_)
 subst hr hhe
 exact resg_ret (l := []) rfl rfl (by simp [kb]) (by simp [kbH, kb.kbs, kb])
theorem pcr_concat0 (hG : Stable G) (n m : Nat) (cs ds : List D) (hc : cs.length = n * 3) (hd : ds.length = m * 3) (h1 : cs.all D.one = true) (h2 : ds.all D.one = true) (h3 : cs.all D.imm = true) (h4 : ds.all D.imm = true) (hn : n < 1000) (hm : m < 1000) (h0 : n + m = 0) :
  PCr Tryz.prog G 40 [.sl 2 [.sl n cs, .sl m ds]] (.sl (n + m) (cs ++ ds)) := by
 obtain ⟨N, hN⟩ : ∃ N, n + m = N := ⟨_, rfl⟩
 rw [hN] at h0 ⊢
 have enm : (n : Int) + (m : Int) = (N : Int) := by omega
 have hna := List.nil_append cs
 have hcd : (cs ++ ds).length = N * 3 := by rw [List.length_append, hc, hd, ← hN]; omega
 have hcm : (cs ++ ds).all D.imm = true := by rw [List.all_append, h3, h4]; rfl
 have htk : (cs ++ ds).take (N * 3) = cs ++ ds := List.take_of_length_le (by omega)
 refine pcr_byq ok40 hG (n := 36) (rv := [.tmp 2]) fun r hr => ?_; unfold c40 st0
 (refine xwalk ?_)
 refine awp_loop (fun k σ => (k = 2 ∧ σ = ⟨(putE (putE (putE (putE (putE un0 (some 0) (.sl 2 [.sl n cs, .sl m ds])) (some 3) (.int .i64 ((0 : Nat) : Int))) (some 9) (.sl 2 [.sl n cs, .sl m ds])) (some 10) (.int .i64 2)) (some 11) (.int .i64 0)), []⟩) ∨ (k = 1 ∧ σ = ⟨(putE (putE (putE (putE (putE un0 (some 0) (.sl 2 [.sl n cs, .sl m ds])) (some 3) (.int .i64 (n : Int))) (some 9) (.sl 2 [.sl n cs, .sl m ds])) (some 10) (.int .i64 2)) (some 11) (.int .i64 1)), []⟩) ∨ (k = 0 ∧ σ = ⟨(putE (putE (putE (putE (putE un0 (some 0) (.sl 2 [.sl n cs, .sl m ds])) (some 3) (.int .i64 (N : Int))) (some 9) (.sl 2 [.sl n cs, .sl m ds])) (some 10) (.int .i64 2)) (some 11) (.int .i64 2)), []⟩)) 2
  (Ent.env (less_put (less_put (less_put (less_put (less_put (less_un0 _) ?_) ?_) ?_) ?_) ?_)) (by exact .inl ⟨rfl, rfl⟩) ?_
 iterate 1 (· exact xlq)
 ·show _ = D.int .i64 ((0 : Nat) : Int)
  exact xlq
 iterate 3 (· first | exact xlq | rfl | (simp only [go_sem, Nat.reduceEqDiff, Nat.reduceAdd, Nat.reduceLT, Nat.reduceMul, Nat.reduceLeDiff, reduceCtorEq, Int.reduceNeg, Int.reduceToNat]; exact congrArg (D.int .i64) (by omega)))
 rintro k σ1 (⟨rfl, rfl⟩ | ⟨rfl, rfl⟩ | ⟨rfl, rfl⟩)
 ·(refine xwalk ?_)
  refine ⟨1, _, by omega, Ent.env (less_put (less_put (less_put (less_put (less_put (less_un0 _) ?_) ?_) ?_) ?_) ?_), .inr (.inl ⟨rfl, rfl⟩)⟩
  iterate 5 (· first | exact xlq | rfl | (simp only [go_sem, Nat.reduceEqDiff, Nat.reduceAdd, Nat.reduceLT, Nat.reduceMul, Nat.reduceLeDiff, reduceCtorEq, Int.reduceNeg, Int.reduceToNat]; exact congrArg (D.int .i64) (by omega)))
 ·(have we1 := enm; refine xwalk1 ?_)
  refine ⟨0, _, by omega, Ent.env (less_put (less_put (less_put (less_put (less_put (less_un0 _) ?_) ?_) ?_) ?_) ?_), .inr (.inr ⟨rfl, rfl⟩)⟩
  iterate 5 (· first | exact xlq | rfl | (simp only [go_sem, Nat.reduceEqDiff, Nat.reduceAdd, Nat.reduceLT, Nat.reduceMul, Nat.reduceLeDiff, reduceCtorEq, Int.reduceNeg, Int.reduceToNat]; exact congrArg (D.int .i64) (by omega)))
 ·(refine xwalk ?_)
  rw [show ((N : Nat) : Int) = 0 by omega]
  refine xcr [] (pcg_grow0 (G := G)) rfl (by simp [kb]) rfl trivial (by simp only [D.ren]; rfl) rfl ?_
  (refine xwalk ?_)
  refine awp_loop (fun k σ => (k = 2 ∧ σ = ⟨(putE (putE (putE (putE un0 (some 6) (.nils)) (some 25) (.sl 2 [.sl n cs, .sl m ds])) (some 26) (.int .i64 2)) (some 27) (.int .i64 0)), []⟩) ∨ (k = 1 ∧ σ = ⟨(putE (putE (putE (putE un0 (some 6) (.own 0 0 0 n)) (some 25) (.sl 2 [.sl n cs, .sl m ds])) (some 26) (.int .i64 2)) (some 27) (.int .i64 1)), [some (0, 43, 3, cs)]⟩) ∨ (k = 0 ∧ σ = ⟨(putE (putE (putE (putE un0 (some 6) (.own 0 1 0 N)) (some 25) (.sl 2 [.sl n cs, .sl m ds])) (some 26) (.int .i64 2)) (some 27) (.int .i64 2)), [some (1, 43, 3, cs ++ ds)]⟩)) 2 (Ent.env (less_put (less_put (less_put (less_put (less_un0 _) ?_) ?_) ?_) ?_)) (by exact .inl ⟨rfl, rfl⟩) ?_
  iterate 4 (· first | exact xlq | rfl | (simp only [go_sem, Nat.reduceEqDiff, Nat.reduceAdd, Nat.reduceLT, Nat.reduceMul, Nat.reduceLeDiff, reduceCtorEq, Int.reduceNeg, Int.reduceToNat]; exact congrArg (D.int .i64) (by omega)))
  rintro k σ1 (⟨rfl, rfl⟩ | ⟨rfl, rfl⟩ | ⟨rfl, rfl⟩)
  ·(have we1 := hc; have we2 := hna; have we3 := h1; refine xwalk3 ?_)
   refine ⟨1, _, by omega, Ent.env (less_put (less_put (less_put (less_put (less_un0 _) ?_) ?_) ?_) ?_), .inr (.inl ⟨rfl, rfl⟩)⟩
   iterate 4 (· first | exact xlq | rfl | (simp only [go_sem, Nat.reduceEqDiff, Nat.reduceAdd, Nat.reduceLT, Nat.reduceMul, Nat.reduceLeDiff, reduceCtorEq, Int.reduceNeg, Int.reduceToNat]; exact congrArg (D.int .i64) (by omega)))
  ·(have we1 := hd; have we2 := h2; have we3 := hN; refine xwalk3 ?_)
   refine ⟨0, _, by omega, Ent.env (less_put (less_put (less_put (less_put (less_un0 _) ?_) ?_) ?_) ?_), .inr (.inr ⟨rfl, rfl⟩)⟩
   iterate 4 (· first | exact xlq | rfl | (simp only [go_sem, Nat.reduceEqDiff, Nat.reduceAdd, Nat.reduceLT, Nat.reduceMul, Nat.reduceLeDiff, reduceCtorEq, Int.reduceNeg, Int.reduceToNat]; exact congrArg (D.int .i64) (by omega)))
  ·(have we1 := hcm; have we2 := htk; have we3 := hcd; exact xwalkd3)
theorem pcr_concat1 (hG : Stable G) (n m : Nat) (cs ds : List D) (hc : cs.length = n * 3) (hd : ds.length = m * 3) (h1 : cs.all D.one = true) (h2 : ds.all D.one = true) (h3 : cs.all D.imm = true) (h4 : ds.all D.imm = true) (hn : n < 1000) (hm : m < 1000) (h0 : 0 < n + m) :
  PCr Tryz.prog G 40 [.sl 2 [.sl n cs, .sl m ds]] (.sl (n + m) (cs ++ ds)) := by
 obtain ⟨N, hN⟩ : ∃ N, n + m = N := ⟨_, rfl⟩
 rw [hN] at h0 ⊢
 have enm : (n : Int) + (m : Int) = (N : Int) := by omega
 have hna := List.nil_append cs
 have hcd : (cs ++ ds).length = N * 3 := by rw [List.length_append, hc, hd, ← hN]; omega
 have hcm : (cs ++ ds).all D.imm = true := by rw [List.all_append, h3, h4]; rfl
 have htk : (cs ++ ds).take (N * 3) = cs ++ ds := List.take_of_length_le (by omega)
 refine pcr_byq ok40 hG (n := 36) (rv := [.tmp 2]) fun r hr => ?_; unfold c40 st0
 (refine xwalk ?_)
 refine awp_loop (fun k σ => (k = 2 ∧ σ = ⟨(putE (putE (putE (putE (putE un0 (some 0) (.sl 2 [.sl n cs, .sl m ds])) (some 3) (.int .i64 ((0 : Nat) : Int))) (some 9) (.sl 2 [.sl n cs, .sl m ds])) (some 10) (.int .i64 2)) (some 11) (.int .i64 0)), []⟩) ∨ (k = 1 ∧ σ = ⟨(putE (putE (putE (putE (putE un0 (some 0) (.sl 2 [.sl n cs, .sl m ds])) (some 3) (.int .i64 (n : Int))) (some 9) (.sl 2 [.sl n cs, .sl m ds])) (some 10) (.int .i64 2)) (some 11) (.int .i64 1)), []⟩) ∨ (k = 0 ∧ σ = ⟨(putE (putE (putE (putE (putE un0 (some 0) (.sl 2 [.sl n cs, .sl m ds])) (some 3) (.int .i64 (N : Int))) (some 9) (.sl 2 [.sl n cs, .sl m ds])) (some 10) (.int .i64 2)) (some 11) (.int .i64 2)), []⟩)) 2
  (Ent.env (less_put (less_put (less_put (less_put (less_put (less_un0 _) ?_) ?_) ?_) ?_) ?_)) (by exact .inl ⟨rfl, rfl⟩) ?_
 iterate 1 (· exact xlq)
 ·show _ = D.int .i64 ((0 : Nat) : Int)
  exact xlq
 iterate 3 (· first | exact xlq | rfl | (simp only [go_sem, Nat.reduceEqDiff, Nat.reduceAdd, Nat.reduceLT, Nat.reduceMul, Nat.reduceLeDiff, reduceCtorEq, Int.reduceNeg, Int.reduceToNat]; exact congrArg (D.int .i64) (by omega)))
 rintro k σ1 (⟨rfl, rfl⟩ | ⟨rfl, rfl⟩ | ⟨rfl, rfl⟩)
 ·(refine xwalk ?_)
  refine ⟨1, _, by omega, Ent.env (less_put (less_put (less_put (less_put (less_put (less_un0 _) ?_) ?_) ?_) ?_) ?_), .inr (.inl ⟨rfl, rfl⟩)⟩
  iterate 5 (· first | exact xlq | rfl | (simp only [go_sem, Nat.reduceEqDiff, Nat.reduceAdd, Nat.reduceLT, Nat.reduceMul, Nat.reduceLeDiff, reduceCtorEq, Int.reduceNeg, Int.reduceToNat]; exact congrArg (D.int .i64) (by omega)))
 ·(have we1 := enm; refine xwalk1 ?_)
  refine ⟨0, _, by omega, Ent.env (less_put (less_put (less_put (less_put (less_put (less_un0 _) ?_) ?_) ?_) ?_) ?_), .inr (.inr ⟨rfl, rfl⟩)⟩
  iterate 5 (· first | exact xlq | rfl | (simp only [go_sem, Nat.reduceEqDiff, Nat.reduceAdd, Nat.reduceLT, Nat.reduceMul, Nat.reduceLeDiff, reduceCtorEq, Int.reduceNeg, Int.reduceToNat]; exact congrArg (D.int .i64) (by omega)))
 ·(refine xwalk ?_)
  refine xcr [0] (pcg_grow1 (G := G) N h0 (by omega)) rfl (by simp [kb]) rfl trivial (by simp only [D.ren, List.getD_cons_zero]; rfl) (by simp only [List.map_cons, List.map_nil, renB]; rfl) ?_
  (refine xwalk ?_)
  refine awp_loop (fun k σ => (k = 2 ∧ σ = ⟨(putE (putE (putE (putE un0 (some 6) (.own 0 0 0 0)) (some 25) (.sl 2 [.sl n cs, .sl m ds])) (some 26) (.int .i64 2)) (some 27) (.int .i64 0)), [some (0, 43, 3, [])]⟩) ∨ (k = 1 ∧ σ = ⟨(putE (putE (putE (putE un0 (some 6) (.own 0 1 0 n)) (some 25) (.sl 2 [.sl n cs, .sl m ds])) (some 26) (.int .i64 2)) (some 27) (.int .i64 1)), [some (1, 43, 3, cs)]⟩) ∨ (k = 0 ∧ σ = ⟨(putE (putE (putE (putE un0 (some 6) (.own 0 2 0 N)) (some 25) (.sl 2 [.sl n cs, .sl m ds])) (some 26) (.int .i64 2)) (some 27) (.int .i64 2)), [some (2, 43, 3, cs ++ ds)]⟩)) 2 (Ent.env (less_put (less_put (less_put (less_put (less_un0 _) ?_) ?_) ?_) ?_)) (by exact .inl ⟨rfl, rfl⟩) ?_
  iterate 4 (· first | exact xlq | rfl | (simp only [go_sem, Nat.reduceEqDiff, Nat.reduceAdd, Nat.reduceLT, Nat.reduceMul, Nat.reduceLeDiff, reduceCtorEq, Int.reduceNeg, Int.reduceToNat]; exact congrArg (D.int .i64) (by omega)))
  rintro k σ1 (⟨rfl, rfl⟩ | ⟨rfl, rfl⟩ | ⟨rfl, rfl⟩)
  ·(have we1 := hc; have we2 := hna; have we3 := h1; refine xwalk3 ?_)
   refine ⟨1, _, by omega, Ent.env (less_put (less_put (less_put (less_put (less_un0 _) ?_) ?_) ?_) ?_), .inr (.inl ⟨rfl, rfl⟩)⟩
   iterate 4 (· first | exact xlq | rfl | (simp only [go_sem, Nat.reduceEqDiff, Nat.reduceAdd, Nat.reduceLT, Nat.reduceMul, Nat.reduceLeDiff, reduceCtorEq, Int.reduceNeg, Int.reduceToNat]; exact congrArg (D.int .i64) (by omega)))
  ·(have we1 := hd; have we2 := h2; have we3 := hN; refine xwalk3 ?_)
   refine ⟨0, _, by omega, Ent.env (less_put (less_put (less_put (less_put (less_un0 _) ?_) ?_) ?_) ?_), .inr (.inr ⟨rfl, rfl⟩)⟩
   iterate 4 (· first | exact xlq | rfl | (simp only [go_sem, Nat.reduceEqDiff, Nat.reduceAdd, Nat.reduceLT, Nat.reduceMul, Nat.reduceLeDiff, reduceCtorEq, Int.reduceNeg, Int.reduceToNat]; exact congrArg (D.int .i64) (by omega)))
  ·(have we1 := hcm; have we2 := htk; have we3 := hcd; exact xwalkd3)
theorem pcr_concat (hG : Stable G) (n m : Nat) (cs ds : List D) (hc : cs.length = n * 3) (hd : ds.length = m * 3) (h1 : cs.all D.one = true) (h2 : ds.all D.one = true) (h3 : cs.all D.imm = true) (h4 : ds.all D.imm = true) (hn : n < 1000) (hm : m < 1000) :
  PCr Tryz.prog G 40 [.sl 2 [.sl n cs, .sl m ds]] (.sl (n + m) (cs ++ ds)) := by
 rcases Nat.eq_zero_or_pos (n + m) with h | h
 ·exact pcr_concat0 hG n m cs ds hc hd h1 h2 h3 h4 hn hm h
 ·exact pcr_concat1 hG n m cs ds hc hd h1 h2 h3 h4 hn hm h
end Go.Proofs.YtgdbkigaaooifaaGreatDoorK.TabT
/-
 Package reduce: Of, plainly: what is below is what would be above, turned about; a number below divides.
-/
namespace Go.Proofs.YtgdbkigaaooifaaGreatDoorK.TabT
open AI NatIr Dig NatT NumT RatT DimsT ConvT
def stepB (t : Tab) (up alone : Bool) (a : At) (s : Sum) : Except Int Sum := match atS t a with
 | .error e => .error e
 | .ok x => if (x.h && !alone) = true then .error 6 else
  let v := if up = true then x.v else negD x.v
  let f := if up = true then x.f else x.f⁻¹
  if (goodD s.v && goodD v && goodD (addD s.v v)) = true then .ok ⟨addD s.v v, s.f * f, x.o, x.h⟩ else .error 5
def foldB (t : Tab) (up alone : Bool) : List At → Sum → Except Int Sum
 | [], s => .ok s
 | a :: l, s => match stepB t up alone a s with
  | .error e => .error e
  | .ok s => foldB t up alone l s
theorem ofStep_up {t : Tab} {n i : Nat} {al : Bool} {a : At} {s : Sum} (h : i < n) : ofStep t n al i a s = stepB t true al a s := by
 unfold ofStep stepB
 cases atS t a with
 | error e => rfl
 | ok x => simp only [h, if_true]
theorem ofStep_dn {t : Tab} {n i : Nat} {al : Bool} {a : At} {s : Sum} (h : ¬ i < n) : ofStep t n al i a s = stepB t false al a s := by
 unfold ofStep stepB
 cases atS t a with
 | error e => rfl
 | ok x => simp only [h, if_false, Bool.false_eq_true]
theorem ofL_up {t : Tab} {n : Nat} {al : Bool} : ∀ {l : List At} {i : Nat} {s : Sum}, i + l.length ≤ n → ofL t n al i l s = foldB t true al l s
 | [], _, _, _ => rfl
 | a :: l, i, s, h => by
  rw [List.length_cons] at h
  rw [ofL, foldB, ofStep_up (by omega)]
  cases stepB t true al a s with
  | error e => rfl
  | ok s => exact ofL_up (by omega)
theorem ofL_dn {t : Tab} {n : Nat} {al : Bool} : ∀ {l : List At} {i : Nat} {s : Sum}, n ≤ i → ofL t n al i l s = foldB t false al l s
 | [], _, _, _ => rfl
 | a :: l, i, s, h => by
  rw [ofL, foldB, ofStep_dn (by omega)]
  cases stepB t false al a s with
  | error e => rfl
  | ok s => exact ofL_dn (by omega)
structure Sum.ok (s : Sum) (K : Nat) : Prop where
 v8 : s.v.length = 8
 gd : goodD s.v = true
 f0 : 0 < s.f
 f1 : Qm K s.f (QD s.f)
 o1 : Qm 8 s.o (QD s.o)
def s0 : Sum := ⟨z8, 1, 0, false⟩
theorem s0_ok : s0.ok 1 := ⟨rfl, by decide, by decide, qm_QD (by omega) (by decide) (by decide), qm_QD (by omega) (by decide) (by decide)⟩
theorem stepB_ok {t : Tab} (ht : t.ok) {up al : Bool} {a : At} {s s' : Sum} {K : Nat} (hs : s.ok K) (h : stepB t up al a s = .ok s') : s'.ok (K + 181) ∧ (al = false → s'.h = false) := by
 unfold stepB at h
 cases hx : atS t a with
 | error e => rw [hx] at h; cases h
 | ok x =>
  rw [hx] at h
  dsimp only at h
  obtain ⟨x8, x0, xg, xf, xo⟩ := atS_qm ht hx
  have hf : 0 < (if up = true then x.f else x.f⁻¹) ∧ Qm 181 (if up = true then x.f else x.f⁻¹) (QD (if up = true then x.f else x.f⁻¹)) := by
   cases up with
   | true => exact ⟨x0, xf⟩
   | false => exact ⟨Rat.inv_pos.2 x0, qm_inv xf⟩
  generalize (if up = true then x.f else x.f⁻¹) = f at *
  generalize (if up = true then x.v else negD x.v) = v at *
  by_cases hh : (x.h && !al) = true
  ·rw [if_pos hh] at h; cases h
  ·rw [if_neg hh] at h
   by_cases hg : (goodD s.v && goodD v && goodD (addD s.v v)) = true
   ·rw [if_pos hg] at h
    rw [Bool.and_eq_true] at hg
    cases h
    refine ⟨⟨?_, hg.2, Rat.mul_pos hs.f0 hf.1, qm_mul hs.f1 hf.2, xo⟩, fun ha => ?_⟩
    ·dsimp only
     rw [addD_len, hs.v8]
    ·subst ha
     dsimp only
     cases hxh : x.h with
     | false => rfl
     | true => rw [hxh] at hh; exact absurd rfl hh
   ·rw [if_neg hg] at h; cases h
theorem stepB_err {t : Tab} {up al : Bool} {a : At} {s : Sum} {e : Int} (h : stepB t up al a s = .error e) : e ≠ 0 := by
 unfold stepB at h
 cases hx : atS t a with
 | error y => rw [hx] at h; cases h; exact atS_err0 hx
 | ok x =>
  rw [hx] at h
  dsimp only at h
  generalize (if up = true then x.f else x.f⁻¹) = f at *
  generalize (if up = true then x.v else negD x.v) = v at *
  by_cases hh : (x.h && !al) = true
  ·rw [if_pos hh] at h; cases h; decide
  ·rw [if_neg hh] at h
   by_cases hg : (goodD s.v && goodD v && goodD (addD s.v v)) = true
   ·rw [if_pos hg] at h; cases h
   ·rw [if_neg hg] at h; cases h; decide
theorem foldB_ok {t : Tab} (ht : t.ok) {up al : Bool} : ∀ {l : List At} {s s' : Sum} {K : Nat}, s.ok K → foldB t up al l s = .ok s' → s'.ok (K + 181 * l.length) ∧ (al = false → s.h = false → s'.h = false)
 | [], s, s', K, hs, h => by cases h; exact ⟨hs, fun _ h => h⟩
 | a :: l, s, s', K, hs, h => by
  rw [foldB] at h
  cases h1 : stepB t up al a s with
  | error e => rw [h1] at h; cases h
  | ok s1 =>
   rw [h1] at h
   obtain ⟨h2, h3⟩ := stepB_ok ht hs h1
   obtain ⟨h4, h5⟩ := foldB_ok ht h2 h
   refine ⟨?_, fun ha _ => h5 ha (h3 ha)⟩
   rw [List.length_cons, show K + 181 * (l.length + 1) = K + 181 + 181 * l.length by omega]
   exact h4
theorem add_mul {a b : List Int} {k : Int} (h : a.length = b.length) : addD (mulD a k) (mulD b k) = mulD (addD a b) k := by
 refine ext8 (by rw [addD_len, mulD_len, mulD_len, addD_len]) fun i hi => ?_
 rw [addD_len, mulD_len] at hi
 rw [addD_get (by rw [mulD_len]; exact hi), mulD_get hi, mulD_get (by omega), mulD_get (by rw [addD_len]; exact hi), addD_get hi, Int.add_mul]
theorem good_neg {a : List Int} : goodD (mulD a (-1)) = goodD a := by
 rw [Bool.eq_iff_iff]
 refine ⟨fun h => ?_, neg_good⟩
 have := neg_good h
 rwa [neg_neg] at this
structure Turned (s s' : Sum) : Prop where
 v : s'.v = mulD s.v (-1)
 f : s'.f = s.f⁻¹
 h : s.h = false ∧ s'.h = false
theorem step_turn {t : Tab} (ht : t.ok) {a : At} {s s' : Sum} {K : Nat} (hs : s.ok K) (hr : Turned s s') : (∃ e, e ≠ 0 ∧ stepB t true false a s = .error e ∧ stepB t false false a s' = .error e) ∨ ∃ r r', stepB t true false a s = .ok r ∧ stepB t false false a s' = .ok r' ∧ Turned r r' := by
 unfold stepB
 cases hx : atS t a with
 | error e => exact .inl ⟨e, atS_err0 hx, rfl, rfl⟩
 | ok x =>
  obtain ⟨x8, x0, xg, xf, xo⟩ := atS_qm ht hx
  dsimp only
  simp only [if_true, if_false, Bool.false_eq_true, Bool.not_false, Bool.and_true]
  cases hh : x.h with
  | true => exact .inl ⟨6, by decide, rfl, rfl⟩
  | false =>
   have e1 : goodD s'.v = goodD s.v := by rw [hr.v, good_neg]
   have e2 : addD s'.v (negD x.v) = mulD (addD s.v x.v) (-1) := by rw [hr.v, negD_good xg, add_mul (by rw [hs.v8, x8])]
   rw [e1, e2, good_neg, negD_good xg, good_neg]
   simp only [Bool.false_eq_true, if_false]
   by_cases hg : (goodD s.v && goodD x.v && goodD (addD s.v x.v)) = true
   ·rw [if_pos hg, if_pos hg]
    refine .inr ⟨_, _, rfl, rfl, rfl, ?_, rfl, rfl⟩
    dsimp only
    rw [hr.f, Rat.inv_mul_rev, Rat.mul_comm]
   ·rw [if_neg hg, if_neg hg]
    exact .inl ⟨5, by decide, rfl, rfl⟩
theorem fold_turn {t : Tab} (ht : t.ok) : ∀ {l : List At} {s s' : Sum} {K : Nat}, s.ok K → Turned s s' → (∃ e, e ≠ 0 ∧ foldB t true false l s = .error e ∧ foldB t false false l s' = .error e) ∨ ∃ r r', foldB t true false l s = .ok r ∧ foldB t false false l s' = .ok r' ∧ Turned r r'
 | [], s, s', K, hs, hr => .inr ⟨s, s', rfl, rfl, hr⟩
 | a :: l, s, s', K, hs, hr => by
  rw [foldB, foldB]
  rcases step_turn ht (a := a) hs hr with ⟨e, h0, h1, h2⟩ | ⟨r, r', h1, h2, h3⟩
  ·rw [h1, h2]; exact .inl ⟨e, h0, rfl, rfl⟩
  ·rw [h1, h2]; exact fold_turn ht (stepB_ok ht hs h1).1 h3
theorem one_alone {t : Tab} (ht : t.ok) {up : Bool} {a : At} {x : Sum} (hx : atS t a = .ok x) : (x.h = false → stepB t up true a s0 = stepB t up false a s0) ∧ (x.h = true → stepB t up false a s0 = .error 6 ∧ ∃ s, stepB t up true a s0 = .ok s ∧ s.h = true) := by
 obtain ⟨x8, x0, xg, xf, xo⟩ := atS_qm ht hx
 unfold stepB
 rw [hx]
 dsimp only
 constructor
 ·intro hh
  rw [hh]; rfl
 ·intro hh
  rw [hh]
  refine ⟨rfl, ?_⟩
  have hv : goodD (if up = true then x.v else negD x.v) = true := by
   cases up with
   | true => exact xg
   | false => exact goodD_negD x8
  have h8 : (if up = true then x.v else negD x.v).length = 8 := by
   cases up with
   | true => exact x8
   | false => exact negD_len x8
  have hz : addD s0.v (if up = true then x.v else negD x.v) = (if up = true then x.v else negD x.v) := by
   generalize (if up = true then x.v else negD x.v) = v at *
   refine ext8 (by rw [addD_len, h8]; rfl) fun i hi => ?_
   rw [addD_len] at hi
   rw [addD_get hi, show s0.v = z8 from rfl]
   have h8i : i < 8 := hi
   rw [show z8.getD i 0 = 0 by match i, h8i with | 0, _ | 1, _ | 2, _ | 3, _ | 4, _ | 5, _ | 6, _ | 7, _ => rfl]
   omega
  rw [hz, hv, show goodD s0.v = true from by decide]
  exact ⟨_, rfl, rfl⟩
theorem ofS_num {t : Tab} {l : List At} {c : Nat} (hc : c ≠ 0) : ofS t l [] c = (match foldB t true (decide (l.length = 1 ∧ c = 1)) l s0 with | .error e => .error e | .ok s => .ok { s with f := s.f * mkRat 1 c }) := by
 unfold ofS
 rw [List.append_nil, ofL_up (by omega)]
 simp only [List.length_nil, true_and, if_neg hc]
 rfl
theorem ofS_den {t : Tab} {l : List At} (h : 1 ≤ l.length) : ofS t [] l 1 = (match foldB t false false l s0 with | .error e => .error e | .ok s => .ok { s with f := s.f * mkRat 1 1 }) := by
 unfold ofS
 rw [List.nil_append, ofL_dn (by simp)]
 have : decide (([] : List At).length = 1 ∧ l.length = 0 ∧ 1 = 1) = false := decide_eq_false (fun h => by simp at h)
 rw [this]
 simp only [if_neg Nat.one_ne_zero]
 rfl
theorem mk11 : mkRat 1 1 = 1 := by decide
theorem alone_or {t : Tab} (ht : t.ok) {l : List At} {c : Nat} : foldB t true (decide (l.length = 1 ∧ c = 1)) l s0 = foldB t true false l s0 ∨ ∃ s, foldB t true (decide (l.length = 1 ∧ c = 1)) l s0 = .ok s ∧ s.h = true ∧ ∀ up, foldB t up false l s0 = .error 6 := by
 by_cases h1 : l.length = 1 ∧ c = 1
 ·rw [decide_eq_true h1]
  obtain ⟨a, rfl⟩ : ∃ a, l = [a] := by
   match l, h1.1 with
   | [a], _ => exact ⟨a, rfl⟩
  cases hx : atS t a with
  | error e =>
   left
   rw [foldB, foldB]
   unfold stepB
   rw [hx]
  | ok x =>
   cases hh : x.h with
   | false =>
    left
    rw [foldB, foldB, (one_alone ht hx).1 hh]
    cases stepB t true false a s0 <;> rfl
   | true =>
    obtain ⟨_, s, h3, h4⟩ := (one_alone ht (up := true) hx).2 hh
    right
    refine ⟨s, ?_, h4, fun up => ?_⟩
    ·rw [foldB, h3]; rfl
    ·rw [foldB, ((one_alone ht (up := up) hx).2 hh).1]
 ·rw [decide_eq_false h1]; exact .inl rfl
theorem of_per {t : Tab} (ht : t.ok) {l : List At} (h : 1 ≤ l.length) :
  (∃ e, e ≠ 0 ∧ ofS t l [] 1 = .error e ∧ ofS t [] l 1 = .error e) ∨ (∃ s, ofS t l [] 1 = .ok s ∧ s.h = true ∧ ofS t [] l 1 = .error 6) ∨
  ∃ s s', ofS t l [] 1 = .ok s ∧ ofS t [] l 1 = .ok s' ∧ s.h = false ∧ s'.h = false ∧ s'.v = negD s.v ∧ s'.f = s.f⁻¹ := by
 rw [ofS_num (by decide), ofS_den h]
 have base : (∃ e, e ≠ 0 ∧ foldB t true false l s0 = .error e ∧ foldB t false false l s0 = .error e) ∨ ∃ r r', foldB t true false l s0 = .ok r ∧ foldB t false false l s0 = .ok r' ∧ Turned r r' :=
  fold_turn ht s0_ok ⟨by decide, by rw [show s0.f = 1 from rfl]; grind, rfl, rfl⟩
 rcases alone_or ht (l := l) (c := 1) with e | ⟨s, h3, h4, h5⟩
 ·rw [e]
  rcases base with ⟨e, h0, h1, h2⟩ | ⟨r, r', h1, h2, h3⟩
  ·rw [h1, h2]; exact .inl ⟨e, h0, rfl, rfl⟩
  ·rw [h1, h2]
   have hg := (foldB_ok ht s0_ok h1).1.gd
   refine .inr (.inr ⟨_, _, rfl, rfl, h3.h.1, h3.h.2, ?_, ?_⟩)
   ·dsimp only
    rw [negD_good hg, h3.v]
   ·dsimp only
    rw [mk11, Rat.mul_one, Rat.mul_one, h3.f]
 ·rw [h3, h5 false]
  exact .inr (.inl ⟨_, rfl, h4, rfl⟩)
theorem of_const {t : Tab} (ht : t.ok) {l : List At} {c : Nat} (hc : 2 ≤ c) :
  (∃ e, e ≠ 0 ∧ ofS t l [] 1 = .error e ∧ ofS t l [] c = .error e) ∨ (∃ s, ofS t l [] 1 = .ok s ∧ s.h = true ∧ ofS t l [] c = .error 6) ∨
  ∃ s s', ofS t l [] 1 = .ok s ∧ ofS t l [] c = .ok s' ∧ s.h = false ∧ s'.h = false ∧ s'.v = s.v ∧ s.f = s'.f * mkRat c 1 := by
 rw [ofS_num (by decide), ofS_num (by omega)]
 rw [show decide (l.length = 1 ∧ c = 1) = false from decide_eq_false (by omega)]
 rcases alone_or ht (l := l) (c := 1) with e | ⟨s, h3, h4, h5⟩
 ·rw [e]
  cases hf : foldB t true false l s0 with
  | error e =>
   have key : ∀ {l : List At} {s : Sum}, foldB t true false l s = .error e → e ≠ 0 := by
    intro l
    induction l with
    | nil => intro s h; cases h
    | cons a l ih =>
     intro s h
     rw [foldB] at h
     cases h1 : stepB t true false a s with
     | error x =>
      rw [h1] at h
      cases h
      exact stepB_err h1
     | ok s1 => rw [h1] at h; exact ih h
   exact .inl ⟨e, key hf, rfl, rfl⟩
  | ok s =>
   have hh := (foldB_ok ht s0_ok hf).2 rfl rfl
   refine .inr (.inr ⟨_, _, rfl, rfl, hh, hh, rfl, ?_⟩)
   dsimp only
   rw [mk11, Rat.mul_one, Rat.mul_assoc, Rat.mkRat_mul_mkRat]
   rw [show mkRat (1 * (c : Int)) (c * 1) = 1 from ?_, Rat.mul_one]
   rw [Int.one_mul, Nat.mul_one]
   have := Rat.mkRat_mul_left (n := 1) (d := 1) (a := c) (by omega)
   rw [← mk11]
   simpa using this
 ·rw [h3, h5 true]
  exact .inr (.inl ⟨_, rfl, h4, rfl⟩)
end Go.Proofs.YtgdbkigaaooifaaGreatDoorK.TabT
/-
 Package reduce: Of: what it computes.
-/
namespace Go.Proofs.YtgdbkigaaooifaaGreatDoorK.TabT
open AI NatIr Dig NatT NumT RatT DimsT ConvT
attribute [local irreducible] awp awpOps
attribute [local go_sem] nl ZD
attribute [local go_sem] QD
attribute [local go_sem] not_true_eq_false not_false_eq_true eq_self decide_true beq_self_eq_true
variable {G : World → Prop}
theorem ofL_step {t : Tab} {n : Nat} {al : Bool} {L : List At} {i : Nat} {s : Sum} (h : i < L.length) : ofL t n al i (L.drop i) s = (match ofStep t n al i L[i] s with | .error e => .error e | .ok s => ofL t n al (i + 1) (L.drop (i + 1)) s) := by
 rw [List.drop_eq_getElem_cons h, ofL]
 cases ofStep t n al i L[i] s <;> rfl
theorem ofStep_sum {t : Tab} (ht : t.ok) {n i : Nat} {al : Bool} {a : At} {s s' : Sum} {K : Nat} (hs : s.ok K) (h : ofStep t n al i a s = .ok s') : s'.ok (K + 181) := by
 by_cases hi : i < n
 ·rw [ofStep_up hi] at h; exact (stepB_ok ht hs h).1
 ·rw [ofStep_dn hi] at h; exact (stepB_ok ht hs h).1
@[local simp] theorem kb_nl (k X : Nat) : kb k (nl X) := by unfold nl; simp [kb]
def zC : List D := [.int .i64 0, .int .i64 0, .int .i64 0, .int .i64 0, .int .i64 0, .int .i64 0, .int .i64 0, .int .i64 0, .bool false, .nils, .nils, .bool false, .nils, .nils, .bool false]
theorem pcr_rof (hG : Stable G) (t : Tab) (ht : t.ok) (num den : List At) (hnl : num.length ≤ 12) (hdl : den.length ≤ 12) {c : Nat} {x : List Int} {q : Nat} (hq : q = x.length) (hx : ok 4294967296 x) (hxv : vl 4294967296 x = c) (hxl : x.length ≤ 6) (hc0 : c ≠ 0) :
  PCr Tryz.prog G 16 [t.D, .agg [.sl num.length (atsC num), .sl den.length (atsC den), .sl q (W x)]] (rSum (ofS t num den c)) := by
 have hcn : Nm 6 c (.agg [.sl q (W x)]) := ⟨x, q, hq, hx, hxv, hxl, rfl⟩
 obtain ⟨rc, hcmp, hr1⟩ : ∃ r : Int, PCr Tryz.prog G 39 [.agg [.sl q (W x)], N 1] (.int .i64 r) ∧ (r = 0 ↔ c = 1) := by
  refine ⟨_, pcr_cmpN (G := G) hG hcn (nm_N (X := 1) (L := 1) (by omega)) (by omega) (by omega), ?_⟩
  unfold cmpN
  split
  ·omega
  ·split
   ·omega
   ·omega
 have ho1 := NatT.pcr_of (G := G) hG 1 (by omega)
 have hi1 := RatT.pcr_int (G := G) hG 1 (by omega) (by omega)
 have hi0 := RatT.pcr_int (G := G) hG 0 (by omega) (by omega)
 rw [show ((1 : Int) : Rat) = 1 from rfl] at hi1
 rw [show ((0 : Int) : Rat) = 0 from rfl] at hi0
 have hz1 := NumT.pcr_of (G := G) hG 1 (by omega) (by omega)
 have hro := RatT.pcr_of (G := G) hG (b := false) (nm_N (X := 1) (L := 1) (by omega)) hcn hc0 (by omega) (by omega)
 rw [show sg false 1 = 1 from rfl] at hro
 have hqc : Qm 6 (mkRat 1 c) (QD (mkRat 1 c)) := qm_le (by omega) (by omega) hcn.lt
 have hcon := pcr_concat (G := G) hG num.length den.length (atsC num) (atsC den) (atsC_len _) (atsC_len _) (atsC_one _) (atsC_one _) (atsC_imm _) (atsC_imm _) (by omega) (by omega)
 obtain ⟨al, hal⟩ : ∃ al, decide (num.length = 1 ∧ den.length = 0 ∧ c = 1) = al := ⟨_, rfl⟩
 rw [← atsC_app, ← List.length_append] at hcon
 have hof : ofS t num den c = (match ofL t num.length al 0 (num ++ den) s0 with | .error e => .error e | .ok s => .ok { s with f := s.f * mkRat 1 c }) := by
  unfold ofS
  rw [hal]
  simp only [if_neg hc0]
  rfl
 rw [hof]
 have hLl : (num ++ den).length = num.length + den.length := List.length_append
 have hCl := atsC_len (num ++ den)
 have hga : ∀ {i : Nat} (h : i < (num ++ den).length), ((atsC (num ++ den)).drop (i * 3)).take 3 = [.str (num ++ den)[i].pre, .str (num ++ den)[i].name, .int .i64 (num ++ den)[i].pw] := fun h => atsC_get h
 have hatom : ∀ a, PCr Tryz.prog G 10 [t.D, .agg [.str a.pre, .str a.name, .int .i64 a.pw]] (rSum (atS t a)) := fun a => pcr_ratom (G := G) hG t ht a
 have himN := atsC_imm num
 have himD := atsC_imm den
 clear hof
 obtain ⟨cs, hcs⟩ : ∃ cs, t.D = .rp cs := ⟨_, rfl⟩
 generalize t.D = td at *
 subst hcs
 generalize hL : num ++ den = L at *
 generalize num.length = n at *
 generalize den.length = m at *
 generalize atsC num = cN at *
 generalize atsC den = cE at *
 refine pcr_byq ok16 hG (n := 122) (rv := [.cell 4 true 15, .tmp 5]) fun r hr => ?_; unfold c16 st0
 refine xctl ?_
 refine xrg ?_
 refine xctl1 ?_
 refine awp_seq_mid (fun σ => σ = ⟨(putE (putE (putE (putE (putE un0 (some 0) (.rp cs)) (some 3) (.ptr 0 0 0)) (some 4) (.ptr 1 0 0)) (some 5) (.int .i64 0)) (some 6) (.bool al)), [some (0, 55, 3, [.sl n cN, .sl m cE, .sl q (W x)]), some (0, 38, 15, zC)]⟩) ?_ ?_
 ·rintro σ rfl
  unfold zC
  simp only [QD] at *
  (refine xwalk ?_)
  refine awp_loop (fun k σ => ∃ (i : Nat) (v0 v1 v2 v3 v4 v5 v6 v7 : Int) (f o : Rat) (h : Bool), i ≤ L.length ∧ k = L.length - i ∧ Sum.ok ⟨[v0, v1, v2, v3, v4, v5, v6, v7], f, o, h⟩ (181 * i + 1) ∧ ofL t n al i (L.drop i) ⟨[v0, v1, v2, v3, v4, v5, v6, v7], f, o, h⟩ = ofL t n al 0 L s0 ∧
   σ = ⟨(putE (putE (putE (putE (putE (putE (putE (putE un0 (some 0) (.rp cs)) (some 3) (.ptr 0 0 0)) (some 4) (.ptr 1 0 0)) (some 6) (.bool al)) (some 7) (.ptr 2 0 0)) (some 41) (.sl L.length (atsC L))) (some 42) (.int .i64 (L.length : Int))) (some 43) (.int .i64 (i : Int))), [some (0, 55, 3, [.sl n cN, .sl m cE, .sl q (W x)]), some (0, 38, 15, [.int .i64 0, .int .i64 0, .int .i64 0, .int .i64 0, .int .i64 0, .int .i64 0, .int .i64 0, .int .i64 0, .bool false, .nils, .nils, .bool false, .nils, .nils, .bool false]),
    some (0, 38, 15, [.int .i64 v0, .int .i64 v1, .int .i64 v2, .int .i64 v3, .int .i64 v4, .int .i64 v5, .int .i64 v6, .int .i64 v7, .bool (ng f.num), nl f.num.natAbs, nl f.den, .bool (ng o.num), nl o.num.natAbs, nl o.den, .bool h])]⟩) L.length
   ?_ ⟨0, 0, 0, 0, 0, 0, 0, 0, 0, 1, 0, false, Nat.zero_le _, rfl, s0_ok, rfl, rfl⟩ ?_
  ·refine (Ent.cutk 3 (less_put (less_put (less_put (less_put (less_put (less_put (less_put (less_put (less_un0 _) ?_) ?_) ?_) ?_) ?_) ?_) ?_) ?_) (by exact ⟨.inr rfl, .inr rfl, .inr rfl, trivial⟩) (kb_put (kb_put (kb_put (kb_put (kb_put (kb_put (kb_put (kb_put (kb_un0 _) (by simp [kb])) (by simp [kb])) (by simp [kb])) (by simp [kb])) (by simp [kb])) (by simp [kb])) (by simp [kb])) (by simp [kb])) (by simp [kbH, kb.kbs, kb, kbs_W, kbs_SS]))
   iterate 8 (· first | exact xlq | rfl | (simp only [go_sem, Nat.reduceEqDiff, Nat.reduceAdd, Nat.reduceLT, Nat.reduceMul, Nat.reduceLeDiff, reduceCtorEq, Int.reduceNeg, Int.reduceToNat]; exact congrArg (D.int .i64) (by omega)))
  rintro k σ1 ⟨i, v0, v1, v2, v3, v4, v5, v6, v7, f, o, h, hi, rfl, hok, hfold, rfl⟩
  by_cases hlt : i < L.length
  ·have hstep := ofL_step (t := t) (n := n) (al := al) (s := ⟨[v0, v1, v2, v3, v4, v5, v6, v7], f, o, h⟩) hlt
   rw [hfold] at hstep
   have hta := hga hlt
   have ha := hatom L[i]
   obtain ⟨⟨pre, name, pw⟩, hLi⟩ : ∃ a, L[i] = a := ⟨_, rfl⟩
   rw [hLi] at ha hta hstep
   dsimp only at ha hta
   have hok2 : ∀ s', ofStep t n al i ⟨pre, name, pw⟩ ⟨[v0, v1, v2, v3, v4, v5, v6, v7], f, o, h⟩ = .ok s' → s'.ok (181 * (i + 1) + 1) := fun s' hs => by
    have := ofStep_sum ht hok hs
    rwa [show 181 * i + 1 + 181 = 181 * (i + 1) + 1 by omega] at this
   have hf1 := hok.f1
   dsimp only at hf1
   unfold ofStep at hstep hok2
   cases hat : atS t ⟨pre, name, pw⟩ with
   | error e =>
    have he := atS_err0 hat
    rw [hat] at ha hstep
    dsimp only at hstep
    rw [hstep] at hr
    dsimp only at hr
    unfold rSum zSum at ha hr
    clear hstep hok2 hfold hok hatom hga
    (have we1 := hta; exact xwalkd1)
   | ok s =>
    obtain ⟨x8, x0, xg, xf, xo⟩ := atS_qm ht hat
    rw [hat] at ha hstep hok2
    obtain ⟨sv, sf, so, sh⟩ := s
    dsimp only at hstep hok2 x8 x0 xg xf xo
    unfold rSum Sum.D at ha
    dsimp only at ha
    have hneg := DimsT.pcr_neg (G := G) hG x8
    rw [show (if goodD sv && sv.all (okn (-1)) then mulD sv (-1) else z8) = negD sv from rfl] at hneg
    have hn8 := negD_len x8
    have hinv := RatT.pcr_inv (G := G) hG xf (by omega) (fun e => by rw [e] at x0; exact absurd x0 (by decide))
    have hv8 : ([v0, v1, v2, v3, v4, v5, v6, v7] : List Int).length = 8 := rfl
    by_cases hsa : (sh && !al) = true
    ·rw [if_pos hsa] at hstep
     dsimp only at hstep
     rw [hstep] at hr
     dsimp only at hr
     unfold rSum zSum at hr
     rw [Bool.and_eq_true, Bool.not_eq_true'] at hsa
     obtain ⟨rfl, rfl⟩ := hsa
     clear hstep hok2 hfold hok hatom hga hneg hinv
     obtain ⟨a0, a1, a2, a3, a4, a5, a6, a7, rfl⟩ := eight x8
     simp only [I, List.map_cons, List.map_nil, List.cons_append, List.nil_append] at ha
     (have we1 := hta; exact xwalkd1)
    ·rw [if_neg hsa] at hstep hok2
     have hsb : sh = false ∨ (sh = true ∧ al = true) := by cases sh <;> cases al <;> simp at hsa ⊢
     clear hsa
     by_cases hin : i < n
     ·simp only [if_pos hin] at hstep hok2
      have hadd := DimsT.pcr_add (G := G) hG hv8 x8
      have hmul := RatT.pcr_mul (G := G) hG hf1 xf (by omega) (by omega)
      have hw8 : (addD [v0, v1, v2, v3, v4, v5, v6, v7] sv).length = 8 := by rw [addD_len]; rfl
      cases hcd : (goodD [v0, v1, v2, v3, v4, v5, v6, v7] && goodD sv && goodD (addD [v0, v1, v2, v3, v4, v5, v6, v7] sv)) with
      | false =>
       rw [hcd] at hadd hstep
       simp only [Bool.false_eq_true, if_false] at hstep
       rw [hstep] at hr
       dsimp only at hr
       unfold rSum zSum at hr
       simp only [mV, Bool.false_eq_true, if_false, z8, I, List.map_cons, List.map_nil] at hadd
       clear hstep hok2 hfold hok hatom hga hcd hw8
       obtain ⟨a0, a1, a2, a3, a4, a5, a6, a7, rfl⟩ := eight x8
       simp only [I, List.map_cons, List.map_nil, List.cons_append, List.nil_append] at *
       rcases hsb with rfl | ⟨rfl, rfl⟩
       ·(have we1 := hta; exact xwalkd1)
       ·(have we1 := hta; exact xwalkd1)
      | true =>
       rw [hcd] at hadd hstep hok2
       simp only [if_true] at hstep hok2
       simp only [mV, if_true] at hadd
       have hok3 := hok2 _ rfl
       clear hok2 hfold hok hatom hcd
       generalize addD [v0, v1, v2, v3, v4, v5, v6, v7] sv = w at *
       obtain ⟨w0, w1, w2, w3, w4, w5, w6, w7, rfl⟩ := eight hw8
       obtain ⟨a0, a1, a2, a3, a4, a5, a6, a7, rfl⟩ := eight x8
       simp only [I, List.map_cons, List.map_nil, List.cons_append, List.nil_append] at ha hadd hneg
       rcases hsb with rfl | ⟨rfl, rfl⟩
       ·(have we1 := hta; refine xwalk1 ?_)
        refine ⟨L.length - (i + 1), _, by omega, ?_, i + 1, w0, w1, w2, w3, w4, w5, w6, w7, _, _, _, by omega, rfl, hok3, hstep.symm, rfl⟩
        refine (Ent.cutk 3 (less_put (less_put (less_put (less_put (less_put (less_put (less_put (less_put (less_un0 _) ?_) ?_) ?_) ?_) ?_) ?_) ?_) ?_) (by exact ⟨.inr rfl, .inr rfl, .inr rfl, trivial⟩) (kb_put (kb_put (kb_put (kb_put (kb_put (kb_put (kb_put (kb_put (kb_un0 _) (by simp [kb])) (by simp [kb])) (by simp [kb])) (by simp [kb])) (by simp [kb])) (by simp [kb])) (by simp [kb])) (by simp [kb])) (by simp [kbH, kb.kbs, kb, kbs_W, kbs_SS]))
        iterate 8 (· first | exact xlq | rfl | (simp only [go_sem, Nat.reduceEqDiff, Nat.reduceAdd, Nat.reduceLT, Nat.reduceMul, Nat.reduceLeDiff, reduceCtorEq, Int.reduceNeg, Int.reduceToNat]; exact congrArg (D.int .i64) (by omega)))
       ·(have we1 := hta; refine xwalk1 ?_)
        refine ⟨L.length - (i + 1), _, by omega, ?_, i + 1, w0, w1, w2, w3, w4, w5, w6, w7, _, _, _, by omega, rfl, hok3, hstep.symm, rfl⟩
        refine (Ent.cutk 3 (less_put (less_put (less_put (less_put (less_put (less_put (less_put (less_put (less_un0 _) ?_) ?_) ?_) ?_) ?_) ?_) ?_) ?_) (by exact ⟨.inr rfl, .inr rfl, .inr rfl, trivial⟩) (kb_put (kb_put (kb_put (kb_put (kb_put (kb_put (kb_put (kb_put (kb_un0 _) (by simp [kb])) (by simp [kb])) (by simp [kb])) (by simp [kb])) (by simp [kb])) (by simp [kb])) (by simp [kb])) (by simp [kb])) (by simp [kbH, kb.kbs, kb, kbs_W, kbs_SS]))
        iterate 8 (· first | exact xlq | rfl | (simp only [go_sem, Nat.reduceEqDiff, Nat.reduceAdd, Nat.reduceLT, Nat.reduceMul, Nat.reduceLeDiff, reduceCtorEq, Int.reduceNeg, Int.reduceToNat]; exact congrArg (D.int .i64) (by omega)))
     ·simp only [if_neg hin] at hstep hok2
      have hadd := DimsT.pcr_add (G := G) hG hv8 hn8
      have hmul := RatT.pcr_mul (G := G) hG hf1 (qm_inv xf) (by omega) (by omega)
      have hw8 : (addD [v0, v1, v2, v3, v4, v5, v6, v7] (negD sv)).length = 8 := by rw [addD_len]; rfl
      cases hcd : (goodD [v0, v1, v2, v3, v4, v5, v6, v7] && goodD (negD sv) && goodD (addD [v0, v1, v2, v3, v4, v5, v6, v7] (negD sv))) with
      | false =>
       rw [hcd] at hadd hstep
       simp only [Bool.false_eq_true, if_false] at hstep
       rw [hstep] at hr
       dsimp only at hr
       unfold rSum zSum at hr
       simp only [mV, Bool.false_eq_true, if_false, z8, I, List.map_cons, List.map_nil] at hadd
       clear hstep hok2 hfold hok hatom hga hcd hw8
       generalize addD [v0, v1, v2, v3, v4, v5, v6, v7] (negD sv) = w at *
       generalize negD sv = nv at *
       obtain ⟨b0, b1, b2, b3, b4, b5, b6, b7, rfl⟩ := eight hn8
       obtain ⟨a0, a1, a2, a3, a4, a5, a6, a7, rfl⟩ := eight x8
       simp only [I, List.map_cons, List.map_nil, List.cons_append, List.nil_append] at *
       rcases hsb with rfl | ⟨rfl, rfl⟩
       ·(have we1 := hta; exact xwalkd1)
       ·(have we1 := hta; exact xwalkd1)
      | true =>
       rw [hcd] at hadd hstep hok2
       simp only [if_true] at hstep hok2
       simp only [mV, if_true] at hadd
       have hok3 := hok2 _ rfl
       clear hok2 hfold hok hatom hcd
       generalize addD [v0, v1, v2, v3, v4, v5, v6, v7] (negD sv) = w at *
       generalize negD sv = nv at *
       obtain ⟨b0, b1, b2, b3, b4, b5, b6, b7, rfl⟩ := eight hn8
       obtain ⟨w0, w1, w2, w3, w4, w5, w6, w7, rfl⟩ := eight hw8
       obtain ⟨a0, a1, a2, a3, a4, a5, a6, a7, rfl⟩ := eight x8
       simp only [I, List.map_cons, List.map_nil, List.cons_append, List.nil_append] at ha hadd hneg
       rcases hsb with rfl | ⟨rfl, rfl⟩
       ·(have we1 := hta; refine xwalk1 ?_)
        refine ⟨L.length - (i + 1), _, by omega, ?_, i + 1, w0, w1, w2, w3, w4, w5, w6, w7, _, _, _, by omega, rfl, hok3, hstep.symm, rfl⟩
        refine (Ent.cutk 3 (less_put (less_put (less_put (less_put (less_put (less_put (less_put (less_put (less_un0 _) ?_) ?_) ?_) ?_) ?_) ?_) ?_) ?_) (by exact ⟨.inr rfl, .inr rfl, .inr rfl, trivial⟩) (kb_put (kb_put (kb_put (kb_put (kb_put (kb_put (kb_put (kb_put (kb_un0 _) (by simp [kb])) (by simp [kb])) (by simp [kb])) (by simp [kb])) (by simp [kb])) (by simp [kb])) (by simp [kb])) (by simp [kb])) (by simp [kbH, kb.kbs, kb, kbs_W, kbs_SS]))
        iterate 8 (· first | exact xlq | rfl | (simp only [go_sem, Nat.reduceEqDiff, Nat.reduceAdd, Nat.reduceLT, Nat.reduceMul, Nat.reduceLeDiff, reduceCtorEq, Int.reduceNeg, Int.reduceToNat]; exact congrArg (D.int .i64) (by omega)))
       ·(have we1 := hta; refine xwalk1 ?_)
        refine ⟨L.length - (i + 1), _, by omega, ?_, i + 1, w0, w1, w2, w3, w4, w5, w6, w7, _, _, _, by omega, rfl, hok3, hstep.symm, rfl⟩
        refine (Ent.cutk 3 (less_put (less_put (less_put (less_put (less_put (less_put (less_put (less_put (less_un0 _) ?_) ?_) ?_) ?_) ?_) ?_) ?_) ?_) (by exact ⟨.inr rfl, .inr rfl, .inr rfl, trivial⟩) (kb_put (kb_put (kb_put (kb_put (kb_put (kb_put (kb_put (kb_put (kb_un0 _) (by simp [kb])) (by simp [kb])) (by simp [kb])) (by simp [kb])) (by simp [kb])) (by simp [kb])) (by simp [kb])) (by simp [kb])) (by simp [kbH, kb.kbs, kb, kbs_W, kbs_SS]))
        iterate 8 (· first | exact xlq | rfl | (simp only [go_sem, Nat.reduceEqDiff, Nat.reduceAdd, Nat.reduceLT, Nat.reduceMul, Nat.reduceLeDiff, reduceCtorEq, Int.reduceNeg, Int.reduceToNat]; exact congrArg (D.int .i64) (by omega)))
  ·have hie : i = L.length := by omega
   subst hie
   rw [List.drop_length, ofL] at hfold
   rw [← hfold] at hr
   dsimp only at hr
   have hmul := RatT.pcr_mul (G := G) hG hok.f1 hqc (by omega) (by omega)
   unfold rSum Sum.D at hr
   simp only [I, List.map_cons, List.map_nil, List.cons_append, List.nil_append] at hr
   clear hfold hatom hga
   (exact xwalkd)
 ·have hal' := hal
  by_cases hn1 : n = 1
  ·subst hn1
   by_cases hm0 : m = 0
   ·subst hm0
    by_cases hc1 : c = 1
    ·rw [decide_eq_true ⟨rfl, rfl, hc1⟩] at hal
     subst hal
     obtain rfl : rc = 0 := hr1.2 hc1
     (refine xwalk ?_)
     refine ⟨_, Nat.zero_le _, ?_, rfl⟩
     unfold zC
     refine (Ent.cutk 2 (less_put (less_put (less_put (less_put (less_put (less_un0 _) ?_) ?_) ?_) ?_) ?_) (by exact ⟨.inr rfl, .inr rfl, trivial⟩) (kb_put (kb_put (kb_put (kb_put (kb_put (kb_un0 _) (by simp [kb])) (by simp [kb])) (by simp [kb])) (by simp [kb])) (by simp [kb])) (by simp [kbH, kb.kbs, kb, kbs_W, kbs_SS]))
     iterate 5 (· first | exact xlq | rfl | (simp only [go_sem, Nat.reduceEqDiff, Nat.reduceAdd, Nat.reduceLT, Nat.reduceMul, Nat.reduceLeDiff, reduceCtorEq, Int.reduceNeg, Int.reduceToNat]; exact congrArg (D.int .i64) (by omega)))
    ·rw [decide_eq_false (fun h => hc1 h.2.2)] at hal
     subst hal
     have hr0 : ¬ rc = 0 := fun e => hc1 (hr1.1 e)
     have hrb : (rc == 0) = false := by simpa using hr0
     (have we1 := hrb; refine xwalk1 ?_)
     refine ⟨_, Nat.zero_le _, ?_, rfl⟩
     unfold zC
     refine (Ent.cutk 2 (less_put (less_put (less_put (less_put (less_put (less_un0 _) ?_) ?_) ?_) ?_) ?_) (by exact ⟨.inr rfl, .inr rfl, trivial⟩) (kb_put (kb_put (kb_put (kb_put (kb_put (kb_un0 _) (by simp [kb])) (by simp [kb])) (by simp [kb])) (by simp [kb])) (by simp [kb])) (by simp [kbH, kb.kbs, kb, kbs_W, kbs_SS]))
     iterate 5 (· first | exact xlq | rfl | (simp only [go_sem, Nat.reduceEqDiff, Nat.reduceAdd, Nat.reduceLT, Nat.reduceMul, Nat.reduceLeDiff, reduceCtorEq, Int.reduceNeg, Int.reduceToNat]; exact congrArg (D.int .i64) (by omega)))
   ·rw [decide_eq_false (fun h => hm0 h.2.1)] at hal
    subst hal
    have hmb : ((m : Int) == 0) = false := by simpa using hm0
    (have we1 := hmb; refine xwalk1 ?_)
    refine ⟨_, Nat.zero_le _, ?_, rfl⟩
    unfold zC
    refine (Ent.cutk 2 (less_put (less_put (less_put (less_put (less_put (less_un0 _) ?_) ?_) ?_) ?_) ?_) (by exact ⟨.inr rfl, .inr rfl, trivial⟩) (kb_put (kb_put (kb_put (kb_put (kb_put (kb_un0 _) (by simp [kb])) (by simp [kb])) (by simp [kb])) (by simp [kb])) (by simp [kb])) (by simp [kbH, kb.kbs, kb, kbs_W, kbs_SS]))
    iterate 5 (· first | exact xlq | rfl | (simp only [go_sem, Nat.reduceEqDiff, Nat.reduceAdd, Nat.reduceLT, Nat.reduceMul, Nat.reduceLeDiff, reduceCtorEq, Int.reduceNeg, Int.reduceToNat]; exact congrArg (D.int .i64) (by omega)))
  ·rw [decide_eq_false (fun h => hn1 h.1)] at hal
   subst hal
   have hnb : ((n : Int) == 1) = false := by simp; omega
   (have we1 := hnb; refine xwalk1 ?_)
   refine ⟨_, Nat.zero_le _, ?_, rfl⟩
   unfold zC
   refine (Ent.cutk 2 (less_put (less_put (less_put (less_put (less_put (less_un0 _) ?_) ?_) ?_) ?_) ?_) (by exact ⟨.inr rfl, .inr rfl, trivial⟩) (kb_put (kb_put (kb_put (kb_put (kb_put (kb_un0 _) (by simp [kb])) (by simp [kb])) (by simp [kb])) (by simp [kb])) (by simp [kb])) (by simp [kbH, kb.kbs, kb, kbs_W, kbs_SS]))
   iterate 5 (· first | exact xlq | rfl | (simp only [go_sem, Nat.reduceEqDiff, Nat.reduceAdd, Nat.reduceLT, Nat.reduceMul, Nat.reduceLeDiff, reduceCtorEq, Int.reduceNeg, Int.reduceToNat]; exact congrArg (D.int .i64) (by omega)))
end Go.Proofs.YtgdbkigaaooifaaGreatDoorK.TabT
