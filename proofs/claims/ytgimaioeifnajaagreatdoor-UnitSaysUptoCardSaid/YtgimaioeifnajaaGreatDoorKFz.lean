/-
  Joined: Frz, Callr.
-/
import Derived.Test.YtgimaioeifnajaaGreatDoorKAc
set_option linter.all false
set_option maxHeartbeats 4000000
/-
  The abstract interpreter, part 23: rows that are read for the last time, though the call goes on: they are frozen.
-/
namespace Go.Proofs.YtgimaioeifnajaaGreatDoorK.AI
open Go.RowKit

def FrC (H : Nat → Blk) (ks : List Nat) (d d' : D) : Prop := d' = .un ∨ d' = d ∨ ∃ k ks0, resD H k d = some (d', ks0) ∧ ∀ x ∈ ks0, x ∈ ks
def FrL (H : Nat → Blk) (ks : List Nat) : List D → List D → Prop
  | [], [] => True
  | d :: l, d' :: l' => FrC H ks d d' ∧ FrL H ks l l'
  | _, _ => False
def FrB (H : Nat → Blk) (ks : List Nat) (x y : Blk) : Prop := y = x ∨ ∃ ver t sz cs cs', x = some (ver, t, sz, cs) ∧ y = some (ver, t, sz, cs') ∧ sz ≠ 0 ∧ FrL H ks cs cs'
def FrH (H : Nat → Blk) (ks : List Nat) : Nat → List Blk → List Blk → Prop
  | _, [], [] => True
  | b, x :: l, y :: m => (y = none ∨ (b ∉ ks ∧ FrB H ks x y)) ∧ FrH H ks (b + 1) l m
  | _, _, _ => False
theorem frL_get {H : Nat → Blk} {ks : List Nat} : ∀ {l m : List D}, FrL H ks l m → m.length = l.length ∧ ∀ (j : Nat) d', m[j]? = some d' → ∃ d, l[j]? = some d ∧ FrC H ks d d'
  | [], [], _ => ⟨rfl, fun j d' h => by simp at h⟩
  | d :: l, d' :: m, h => by
    obtain ⟨h1, h2⟩ := frL_get h.2
    refine ⟨by simp [h1], fun j x hx => ?_⟩
    cases j with
    | zero => simp at hx; subst hx; exact ⟨d, rfl, h.1⟩
    | succ j => exact h2 j x (by simpa using hx)
  | [], _ :: _, h => h.elim
  | _ :: _, [], h => h.elim
theorem frH_get {H : Nat → Blk} {ks : List Nat} : ∀ {l m : List Blk} {i : Nat}, FrH H ks i l m → m.length = l.length ∧ ∀ b, hv m b = none ∨ (i + b ∉ ks ∧ FrB H ks (hv l b) (hv m b))
  | [], [], i, _ => ⟨rfl, fun b => .inl rfl⟩
  | x :: l, y :: m, i, h => by
    obtain ⟨h1, h2⟩ := frH_get h.2
    refine ⟨by simp [h1], fun b => ?_⟩
    cases b with
    | zero => exact h.1
    | succ b =>
      have := h2 b
      rw [show i + (b + 1) = i + 1 + b by omega]
      exact this
  | [], _ :: _, _, h => h.elim
  | _ :: _, [], _, h => h.elim
section
variable {P : Program} {R R' : Nat → Nat → Bnd} {S : Nat → Prop} {base : Nat → Prop} {w : World} {H H' : Nat → Blk}
theorem AOf.frl {ks : List Nat} (hle : ∀ b, H' b = none ∨ (b ∉ ks ∧ FrB H ks (H b) (H' b))) {g : Nat} (h : AOf S R H' g) : AOf S R (AI.frz H ks) g := by
  rcases h with h | ⟨b, ver, t, sz, cs, cap, sz', hb, hR⟩
  · exact .inl h
  · rcases hle b with e | ⟨hk, e⟩
    · rw [e] at hb; cases hb
    · rcases e with e | ⟨ver', t', sz2, cs2, cs', h1, h2, _, _⟩
      · exact .inr ⟨b, ver, t, sz, cs, cap, sz', by rw [AI.frz, if_neg hk, ← e]; exact hb, hR⟩
      · rw [h2] at hb
        cases hb
        exact .inr ⟨b, ver, t, sz, cs2, cap, sz', by rw [AI.frz, if_neg hk]; exact h1, hR⟩
theorem FrC.rep {ks : List Nat} {v : Value} {d d' : D} (hr : HRel R S base w H) (hA : ∀ g, AOf S R H' g → AOf S R (AI.frz H ks) g) (h : Rep R (AOf S R H) w v d) (hf : FrC H ks d d') : Rep R (AOf S R H') w v d' := by
  rcases hf with rfl | rfl | ⟨k, ks0, h1, h2⟩
  · exact .imm (.un _)
  · exact h.mono (fun _ _ _ => rfl) (fun g _ hg => ⟨fun h => hg (hA g h).frz, Same.refl _ g⟩)
  · exact .imm ((resD_ok hr k v d d' ks0 h h1 ks h2).weak hA)
theorem HRel.frl {ks : List Nat} (hr : HRel R S base w H) (hle : ∀ b, H' b = none ∨ (b ∉ ks ∧ FrB H ks (H b) (H' b))) : HRel R S base w H' where
  blk := fun b => by
    have hA : ∀ g, AOf S R H' g → AOf S R (AI.frz H ks) g := fun g => AOf.frl hle
    have hb := hr.blk b
    rcases hle b with e | ⟨hk, e⟩
    · rw [e]; exact trivial
    · rcases e with e | ⟨ver, t, sz, cs, cs', h1, h2, h0, h3⟩
      · rw [e]
        cases hH : H b with
        | none => exact trivial
        | some x =>
          obtain ⟨v, t, s, cs⟩ := x
          rw [hH] at hb
          rcases hb with h | ⟨g, cap, vs, h1, h2, h3, h4, h5, h6, h7⟩ | ⟨g, es, c, kvs, h1, h2, h3, h4, h5, h6, h7⟩
          · exact .inl h
          · exact .inr (.inl ⟨g, cap, vs, h1, h2, h3, h4, h5, h6, fun j d hj => (h7 j d hj).mono (fun _ _ _ => rfl) (fun g _ hg => ⟨fun h => hg (hA g h).frz, Same.refl _ g⟩)⟩)
          · exact .inr (.inr ⟨g, es, c, kvs, h1, h2, h3, h4, h5, h6, fun j d hj => (h7 j d hj).mono (fun _ _ _ => rfl) (fun g _ hg => ⟨fun h => hg (hA g h).frz, Same.refl _ g⟩)⟩)
      · rw [h1] at hb
        rw [h2]
        obtain ⟨hl, hg⟩ := frL_get h3
        rcases hb with h | ⟨g, cap, vs, g1, g2, g3, g4, g5, g6, g7⟩ | ⟨g, es, c, kvs, g1, g2, g3, g4, g5, g6, g7⟩
        · refine .inl ⟨h.1, List.eq_nil_of_length_eq_zero ?_⟩
          rw [hl, h.2]; rfl
        · refine .inr (.inl ⟨g, cap, vs, g1, g2, g3, g4, g5, by rw [hl]; exact g6, fun j d' hj => ?_⟩)
          obtain ⟨d, hd, hf⟩ := hg j d' hj
          exact hf.rep hr hA (g7 j d hd)
        · exact absurd g2 h0
  vers := fun b ver t sz cs h => by
    rcases hle b with e | ⟨hk, e⟩
    · rw [e] at h; cases h
    · rcases e with e | ⟨ver', t', sz', cs0, cs', h1, h2, _, _⟩
      · rw [e] at h; exact hr.vers b ver t sz cs h
      · rw [h2] at h; cases h
        exact hr.vers b ver t sz cs0 h1
  inj := fun b b' ver ver' t t' sz sz' cs cs' g cap cap' s s' h h' => by
    have key : ∀ b ver t sz cs, H' b = some (ver, t, sz, cs) → ∃ cs0, H b = some (ver, t, sz, cs0) := fun b ver t sz cs h => by
      rcases hle b with e | ⟨hk, e⟩
      · rw [e] at h; cases h
      · rcases e with e | ⟨ver', t', sz', cs0, cs', h1, h2, _, _⟩
        · rw [e] at h; exact ⟨cs, h⟩
        · rw [h2] at h; cases h
          exact ⟨cs0, h1⟩
    obtain ⟨c0, k0⟩ := key _ _ _ _ _ h
    obtain ⟨c1, k1⟩ := key _ _ _ _ _ h'
    exact hr.inj b b' ver ver' t t' sz sz' c0 c1 g cap cap' s s' k0 k1
  ext := hr.ext
  bnd := hr.bnd
theorem Ent.frz {env env' : Nat → D} {h h' : List Blk} (ks : List Nat) (he : ∀ t, FrC (hv h) ks (env t) (env' t)) (hh : FrH (hv h) ks 0 h h') : Ent ⟨env, h⟩ ⟨env', h'⟩ := fun n G R S w0 w a hlm hm hf => by
  obtain ⟨hl, hg⟩ := frH_get hh
  have hg' : ∀ b, hv h' b = none ∨ (b ∉ ks ∧ FrB (hv h) ks (hv h b) (hv h' b)) := fun b => by
    have := hg b
    rwa [Nat.zero_add] at this
  refine ⟨R, ⟨hm.hrel.frl hg', ⟨hm.srel.nod, hm.srel.len, fun t => ?_⟩, hm.below, hm.kin, hm.g, hm.gk, hm.r0m, hm.keepR⟩, fun b v hb => hf b v (by show h.length ≤ b; rw [← hl]; exact hb)⟩
  exact (he t).rep hm.hrel (fun g => AOf.frl hg') (hm.srel.rep t)
theorem frc_un0 {H : Nat → Blk} {ks : List Nat} (env : Nat → D) : ∀ t, FrC H ks (env t) (un0 t) := fun _ => .inl rfl
theorem frc_put {H : Nat → Blk} {ks : List Nat} {env env' : Nat → D} {t : Nat} {d : D} (h : ∀ t, FrC H ks (env t) (env' t)) (hd : FrC H ks (env t) d) : ∀ t', FrC H ks (env t') (putE env' (some t) d t') := fun t' => by
  unfold putE
  split
  · rename_i e; cases e; exact hd
  · exact h t'
theorem FrC.same {H : Nat → Blk} {ks : List Nat} {d d' : D} (h : d = d') : FrC H ks d d' := .inr (.inl h.symm)
theorem FrC.res {H : Nat → Blk} {ks ks0 : List Nat} {d e d' : D} (k : Nat) (he : d = e) (h : resD H k e = some (d', ks0)) (hk : ∀ x ∈ ks0, x ∈ ks) : FrC H ks d d' := by subst he; exact .inr (.inr ⟨k, ks0, h, hk⟩)
end
end Go.Proofs.YtgimaioeifnajaaGreatDoorK.AI
/-
  A call that is handed own blocks which name one another: a step of a walk.
-/
namespace Go.Proofs.YtgimaioeifnajaaGreatDoorK.AI
open Go.RowKit
section
variable {P : Program} {G : World → Prop}
theorem xcr {K : Tr → St → Prop} {tr : Tr} {l : List IOper} {env : Nat → D} {hp hp' : List Blk} {dst : Option Nat} {f : FuncId} {args : List Opd} (κ : List Nat) {xs ys : List D} {h h' h2 : List Blk} {r r' : D} {ws : List (Nat × Blk)} {gu : Option (Option Nat × Bool)} (hg : PCg P G f xs h r h')
    (hx : ys = xs.map (D.ren κ)) (hs : ∀ d ∈ xs, kb κ.length d) (hb : (κ.take h.length).map (hv hp) = h.map (renB κ)) (hk0 : kbH κ.length h) (hr : r.ren κ = r') (hw : h'.map (renB κ) = h2)
    (hk : awpOps P G K l ((ws.map (·.1), κ.take h.length) :: tr) ⟨putE env dst r', hp'⟩)
    (hnew : ∀ b ∈ κ.drop h.length, hp.length ≤ b ∧ hp.length ∈ κ.drop h.length := by simp)
    (hgu : wantedI env gu = some true := by rfl) (ha : args.map (getO env) = ys := by simp (disch := omega) only [go_sem, Nat.reduceEqDiff, Nat.reduceAdd, Nat.reduceLT, Nat.reduceMul, Nat.reduceLeDiff, reduceCtorEq, Int.reduceNeg, Int.reduceToNat] <;> rfl) (hn : κ.Nodup := by decide) (hl : h'.length = κ.length := by rfl) (hle : h.length ≤ κ.length := by simp)
    (hz : κ.zip h2 = ws := by simp only [List.zip_cons_cons, List.zip_nil_left, List.zip_nil_right]; rfl) (hh : setH hp ws = hp' := by simp (disch := omega) only [go_sem, Nat.reduceEqDiff, Nat.reduceAdd, Nat.reduceLT, Nat.reduceMul, Nat.reduceLeDiff, reduceCtorEq, Int.reduceNeg, Int.reduceToNat]; rfl) :
    awpOps P G K (⟨dst, .call f args, gu⟩ :: l) tr ⟨env, hp⟩ := by
  subst hw hh hx
  exact ops_callr κ hg hgu ha hs hn hl hle hb hnew hk0 hr hz hk
end
end Go.Proofs.YtgimaioeifnajaaGreatDoorK.AI
