/-
  The last row of a row of rows: told as it is from now on.
-/
import Derived.Test.YtgimaioeifnajaaGreatDoorKFz
set_option linter.all false
set_option maxHeartbeats 4000000
namespace Go.Proofs.YtgimaioeifnajaaGreatDoorK.AI
open Go.RowKit
theorem FrL.same (H : Nat → Blk) (ks : List Nat) : ∀ l, FrL H ks l l
  | [] => trivial
  | _ :: l => ⟨.inr (.inl rfl), FrL.same H ks l⟩
theorem FrL.app {H : Nat → Blk} {ks : List Nat} {l l' : List D} (h : FrL H ks l l') : ∀ a : List D, FrL H ks (a ++ l) (a ++ l')
  | [] => h
  | _ :: a => ⟨.inr (.inl rfl), FrL.app h a⟩
theorem FrH.none {H : Nat → Blk} {ks : List Nat} : ∀ (l : List Blk) (b : Nat), FrH H ks b l (l.map fun _ => none)
  | [], _ => trivial
  | _ :: l, b => ⟨.inl rfl, FrH.none l (b + 1)⟩
theorem Less.frc {H : Nat → Blk} {ks : List Nat} {env env' : Nat → D} (h : Less env env') (t : Nat) : FrC H ks (env t) (env' t) := by
  rcases h t with e | e
  · exact .inl e
  · exact .inr (.inl e)
theorem ent_lastA {env env' : Nat → D} {v t : Nat} {ds : List D} {x : D} {rest : List Blk} (he : Less env env') (hk : ∀ t, kb 1 (env' t)) (hd : kb.kbs 1 (ds ++ [.sl 0 [], x])) :
    Ent ⟨env, some (v, t, 1, ds ++ [.nils, x]) :: rest⟩ ⟨env', [some (v, t, 1, ds ++ [.sl 0 [], x])]⟩ := by
  refine Ent.trans (σ' := ⟨env', some (v, t, 1, ds ++ [.sl 0 [], x]) :: rest.map fun _ => none⟩) (Ent.frz [] (fun t => he.frc t) ⟨.inr ⟨by simp, .inr ⟨v, t, 1, _, _, rfl, rfl, by omega, FrL.app (l := [.nils, x]) (l' := [.sl 0 [], x]) ⟨.res 1 rfl (by simp only [resD]) (fun _ h => h), .same rfl, trivial⟩ ds⟩⟩, FrH.none rest 1⟩) (by simp) ?_
  exact Ent.cutk 1 (fun _ => .inr rfl) ⟨.inr rfl, trivial⟩ hk ⟨hd, trivial⟩
theorem resD_own2 {x y : Blk} {u t' n k : Nat} {cs : List D} {rest : List Blk} (hn : cs.length = n) (hi : cs.all D.imm = true) : resD (hv (x :: y :: some (u, t', 1, cs) :: rest)) (k + 1) (.own 2 u 0 n) = some (.sl n cs, [2]) := by
  have hb : hv (x :: y :: some (u, t', 1, cs) :: rest) 2 = some (u, t', 1, cs) := rfl
  simp only [resD, hb, Nat.zero_mul, Nat.mul_one, Nat.zero_add, List.drop_zero]
  rw [if_pos ⟨trivial, by omega⟩, List.take_of_length_le (by omega)]
  unfold resD.resL
  rw [if_pos hi]
  rfl
theorem ent_lastB {env env' : Nat → D} {v t u t' n : Nat} {ds cs : List D} {x : D} {y : Blk} {rest : List Blk} (hn : cs.length = n) (hi : cs.all D.imm = true) (he : Less env env') (hk : ∀ t, kb 1 (env' t)) (hd : kb.kbs 1 (ds ++ [.sl n cs, x])) :
    Ent ⟨env, some (v, t, 1, ds ++ [.own 2 u 0 n, x]) :: y :: some (u, t', 1, cs) :: rest⟩ ⟨env', [some (v, t, 1, ds ++ [.sl n cs, x])]⟩ := by
  refine Ent.trans (σ' := ⟨env', some (v, t, 1, ds ++ [.sl n cs, x]) :: none :: none :: rest.map fun _ => none⟩) (Ent.frz [2] (fun t => he.frc t) ⟨.inr ⟨by simp, .inr ⟨v, t, 1, _, _, rfl, rfl, by omega, FrL.app (l := [.own 2 u 0 n, x]) (l' := [.sl n cs, x]) ⟨.res 1 rfl (resD_own2 (k := 0) hn hi) (fun _ h => h), .same rfl, trivial⟩ ds⟩⟩, .inl rfl, .inl rfl, FrH.none rest 3⟩) (by simp) ?_
  exact Ent.cutk 1 (fun _ => .inr rfl) ⟨.inr rfl, trivial⟩ hk ⟨hd, trivial⟩
theorem go_app {H : Nat → Blk} {k : Nat} {l l' : List D} {ks : List Nat} (h : resD.go H (k + 1) l = some (l', ks)) : ∀ {a : List D}, a.all D.imm = true → resD.go H (k + 1) (a ++ l) = some (a ++ l', ks)
  | [], _ => h
  | d :: a, hi => by
    rw [List.all_cons, Bool.and_eq_true] at hi
    have hd : resD H (k + 1) d = some (d, []) := by
      have := hi.1
      cases d <;> first | (simp only [resD]; done) | (simp [D.imm] at this; done)
    rw [List.cons_append, resD.go, hd, Option.bind_some, go_app h hi.2]
    rfl
end Go.Proofs.YtgimaioeifnajaaGreatDoorK.AI
