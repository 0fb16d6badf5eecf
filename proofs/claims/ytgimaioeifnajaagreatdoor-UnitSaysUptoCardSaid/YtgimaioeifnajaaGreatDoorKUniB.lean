/-
  Package word: Cut: what it computes.
-/
import Derived.Test.YtgimaioeifnajaaGreatDoorKIrX
import Derived.Test.YtgimaioeifnajaaGreatDoorKUniA
set_option linter.all false
set_option maxHeartbeats 0
namespace Go.Proofs.YtgimaioeifnajaaGreatDoorK.TabT
open AI NatIr Dig NatT LibT Go.Lib
attribute [local irreducible] awp awpOps
attribute [local go_sem] not_true_eq_false not_false_eq_true eq_self decide_true decide_false beq_self_eq_true Int.reduceAdd
variable {G : World → Prop}
theorem kbs_app {k : Nat} {b : List D} (hb : kb.kbs k b) : ∀ {a : List D}, a.all D.imm = true → kb.kbs k (a ++ b)
  | [], _ => hb
  | d :: a, h => by
    rw [List.all_cons, Bool.and_eq_true] at h
    have h1 : kb.kbs k [d] := kbs_of_imm (by rw [List.all_cons, h.1]; rfl)
    simp only [kb.kbs] at h1
    rw [List.cons_append]
    simp only [kb.kbs]
    exact ⟨h1.1, kbs_app hb h.2⟩
def cutS (l : List Wd) (at' : Wd) (i : Nat) (done : List (List Wd)) (cur : List Wd) (v : Nat) : St → Prop := fun σ =>
  (cur = [] ∧ σ = ⟨(putE (putE (putE (putE (putE (putE un0 (some 0) (.sl l.length (l.map .str))) (some 1) (.str at')) (some 5) (.own 0 v 0 (done.length + 1))) (some 10) (.sl l.length (l.map .str))) (some 11) (.int .i64 (l.length : Int))) (some 12) (.int .i64 (i : Int))), [some (v, 29, 1, rowsD done ++ [.nils])]⟩) ∨
  (cur ≠ [] ∧ ∃ u, σ = ⟨(putE (putE (putE (putE (putE (putE un0 (some 0) (.sl l.length (l.map .str))) (some 1) (.str at')) (some 5) (.own 0 v 0 (done.length + 1))) (some 10) (.sl l.length (l.map .str))) (some 11) (.int .i64 (l.length : Int))) (some 12) (.int .i64 (i : Int))), [some (v, 29, 1, rowsD done ++ [.own 2 u 0 cur.length]), none, some (u, 9, 1, cur.map .str)]⟩)
theorem pcr_wcut (hG : Stable G) (l : List Wd) (at' : Wd) (hl : l.length < 1000000) : PCr Tryz.prog G 25 [.sl l.length (l.map .str), .str at'] (.sl (cutW at' l).length (rowsD (cutW at' l))) := by
  have hll : (l.map D.str).length = l.length := List.length_map ..
  refine pcr_byq ok25 hG (n := 37) (rv := [.tmp 4]) fun r hr => ?_; unfold c25 st0
  (refine xwalk ?_)
  refine awp_loop (fun k σ => ∃ i done cur v, i ≤ l.length ∧ k = l.length - i ∧ done.length ≤ i ∧ cur.length ≤ i ∧ cutA at' done cur (l.drop i) = cutW at' l ∧ cutS l at' i done cur v σ) l.length ?_ ⟨0, [], [], 0, Nat.zero_le _, rfl, Nat.le_refl _, Nat.le_refl _, rfl, .inl ⟨rfl, rfl⟩⟩ ?_
  · refine Ent.env (less_put (less_put (less_put (less_put (less_put (less_put (less_un0 _) ?_) ?_) ?_) ?_) ?_) ?_)
    iterate 6 (· first | exact xlq | rfl | (simp only [go_sem, Nat.reduceEqDiff, Nat.reduceAdd, Nat.reduceLT, Nat.reduceMul, Nat.reduceLeDiff, reduceCtorEq, Int.reduceNeg, Int.reduceToNat]; exact congrArg (D.int .i64) (by omega)))
  rintro k σ1 ⟨i, done, cur, v, hi, rfl, hdl, hcl, hcut, hσ⟩
  by_cases hlt : i < l.length
  · have hget := strs_get1 hlt
    rw [List.drop_eq_getElem_cons hlt, cutA] at hcut
    have hdl2 := rowsD_len done
    have hdi := rowsD_imm done
    have hdo := rowsD_one done
    generalize l[i] = w at *
    by_cases hw : w = at'
    · rw [if_pos hw] at hcut
      have hwd : decide (w = at') = true := decide_eq_true hw
      have hone : ([D.nils] : List D).all D.one = true := rfl
      obtain ⟨done', hd'⟩ : ∃ d, done ++ [cur] = d := ⟨_, rfl⟩
      have hdl' : done'.length = done.length + 1 := by rw [← hd', List.length_append]; rfl
      have hrow' : rowsD done' ++ [D.nils] = rowsD done ++ [.sl cur.length (cur.map .str), .nils] := by rw [← hd', rowsD_app, List.append_assoc]; rfl
      rw [hd'] at hcut
      have hkb : kb.kbs 1 (rowsD done ++ [.sl cur.length (cur.map .str), .nils]) := kbs_app (by simp [kb.kbs, kb]) hdi
      rcases hσ with ⟨rfl, rfl⟩ | ⟨hne, u, rfl⟩
      · have hlen : (rowsD done ++ [D.nils]).length = done.length + 1 := by rw [List.length_append, hdl2]; rfl
        have happ : rowsD done ++ [D.nils] ++ [D.nils] = rowsD done ++ [D.nils, D.nils] := by rw [List.append_assoc]; rfl
        clear hcl hd'
        (have we1 := hget; have we2 := hwd; have we3 := hlen; have we4 := hone; have we5 := happ; refine xwalk5 ?_)
        refine ⟨l.length - (i + 1), _, by omega, ?_, i + 1, done', [], v + 1, by omega, rfl, by omega, by simp, hcut, .inl ⟨rfl, rfl⟩⟩
        rw [hrow', hdl']
        refine ent_lastA (less_put (less_put (less_put (less_put (less_put (less_put (less_un0 _) ?_) ?_) ?_) ?_) ?_) ?_) (kb_put (kb_put (kb_put (kb_put (kb_put (kb_put (kb_un0 _) (by simp [kb])) (by simp [kb])) (by simp [kb])) (by simp [kb])) (by simp [kb])) (by simp [kb])) hkb
        iterate 6 (· first | exact xlq | rfl | (simp only [go_sem, Nat.reduceEqDiff, Nat.reduceAdd, Nat.reduceLT, Nat.reduceMul, Nat.reduceLeDiff, reduceCtorEq, Int.reduceNeg, Int.reduceToNat]; exact congrArg (D.int .i64) (by omega)))
      · have hlen : (rowsD done ++ [D.own 2 u 0 cur.length]).length = done.length + 1 := by rw [List.length_append, hdl2]; rfl
        have happ : rowsD done ++ [D.own 2 u 0 cur.length] ++ [D.nils] = rowsD done ++ [D.own 2 u 0 cur.length, D.nils] := by rw [List.append_assoc]; rfl
        have hcn : (cur.map D.str).length = cur.length := List.length_map ..
        have hci := strs_imm cur
        clear hd'
        (have we1 := hget; have we2 := hwd; have we3 := hlen; have we4 := hone; have we5 := happ; refine xwalk5 ?_)
        refine ⟨l.length - (i + 1), _, by omega, ?_, i + 1, done', [], v + 1, by omega, rfl, by omega, by simp, hcut, .inl ⟨rfl, rfl⟩⟩
        rw [hrow', hdl']
        refine ent_lastB hcn hci (less_put (less_put (less_put (less_put (less_put (less_put (less_un0 _) ?_) ?_) ?_) ?_) ?_) ?_) (kb_put (kb_put (kb_put (kb_put (kb_put (kb_put (kb_un0 _) (by simp [kb])) (by simp [kb])) (by simp [kb])) (by simp [kb])) (by simp [kb])) (by simp [kb])) hkb
        iterate 6 (· first | exact xlq | rfl | (simp only [go_sem, Nat.reduceEqDiff, Nat.reduceAdd, Nat.reduceLT, Nat.reduceMul, Nat.reduceLeDiff, reduceCtorEq, Int.reduceNeg, Int.reduceToNat]; exact congrArg (D.int .i64) (by omega)))
    · rw [if_neg hw] at hcut
      have hwd : decide (w = at') = false := decide_eq_false hw
      have hn1 : (done.length : Int) + 1 - 1 = (done.length : Int) := by omega
      have hn2 : ((done.length : Nat) : Int).toNat = done.length := by omega
      have hone : ([D.str w] : List D).all D.one = true := rfl
      have hcl' : (cur ++ [w]).length = cur.length + 1 := by rw [List.length_append]; rfl
      rcases hσ with ⟨rfl, rfl⟩ | ⟨hne, u, rfl⟩
      · have hlen : (rowsD done ++ [D.nils]).length = done.length + 1 := by rw [List.length_append, hdl2]; rfl
        have hg : (rowsD done ++ [D.nils]).getD done.length .un = D.nils := by rw [List.getD_eq_getElem?_getD, ← hdl2, List.getElem?_concat_length]; rfl
        have hst : (rowsD done ++ [D.nils]).set done.length (D.own 2 0 0 1) = rowsD done ++ [D.own 2 0 0 1] := by rw [← hdl2, List.set_append_right _ _ (Nat.le_refl _), Nat.sub_self]; rfl
        (have we1 := hget; have we2 := hwd; have we3 := hlen; have we4 := hn1; have we5 := hg; have we6 := hst; refine xwalk6 ?_)
        refine ⟨l.length - (i + 1), _, by omega, ?_, i + 1, done, [w], v, by omega, rfl, by omega, by simp, hcut, .inr ⟨by simp, 0, rfl⟩⟩
        refine Ent.cutk 3 (less_put (less_put (less_put (less_put (less_put (less_put (less_un0 _) ?_) ?_) ?_) ?_) ?_) ?_) ⟨.inr rfl, .inl rfl, .inr rfl, trivial⟩ (kb_put (kb_put (kb_put (kb_put (kb_put (kb_put (kb_un0 _) (by simp [kb])) (by simp [kb])) (by simp [kb])) (by simp [kb])) (by simp [kb])) (by simp [kb])) ⟨kbs_app (by simp [kb.kbs, kb]) hdi, by simp [kb.kbs, kb], trivial⟩
        iterate 6 (· first | exact xlq | rfl | (simp only [go_sem, Nat.reduceEqDiff, Nat.reduceAdd, Nat.reduceLT, Nat.reduceMul, Nat.reduceLeDiff, reduceCtorEq, Int.reduceNeg, Int.reduceToNat]; exact congrArg (D.int .i64) (by omega)))
      · have hlen : (rowsD done ++ [D.own 2 u 0 cur.length]).length = done.length + 1 := by rw [List.length_append, hdl2]; rfl
        have hg : (rowsD done ++ [D.own 2 u 0 cur.length]).getD done.length .un = D.own 2 u 0 cur.length := by rw [List.getD_eq_getElem?_getD, ← hdl2, List.getElem?_concat_length]; rfl
        have hst : (rowsD done ++ [D.own 2 u 0 cur.length]).set done.length (D.own 2 (u + 1) 0 (cur.length + 1)) = rowsD done ++ [D.own 2 (u + 1) 0 (cur.length + 1)] := by rw [← hdl2, List.set_append_right _ _ (Nat.le_refl _), Nat.sub_self]; rfl
        have hcn : (cur.map D.str).length = cur.length := List.length_map ..
        (have we1 := hget; have we2 := hwd; have we3 := hlen; have we4 := hn1; have we5 := hg; have we6 := hst; have we7 := hcn; refine xwalk7 ?_)
        have hmap : (cur ++ [w]).map D.str = cur.map D.str ++ [D.str w] := by rw [List.map_append]; rfl
        refine ⟨l.length - (i + 1), _, by omega, ?_, i + 1, done, cur ++ [w], v, by omega, rfl, by omega, by omega, hcut, .inr ⟨by simp, u + 1, rfl⟩⟩
        rw [hmap, hcl']
        refine Ent.cutk 3 (less_put (less_put (less_put (less_put (less_put (less_put (less_un0 _) ?_) ?_) ?_) ?_) ?_) ?_) ⟨.inr rfl, .inl rfl, .inr rfl, trivial⟩ (kb_put (kb_put (kb_put (kb_put (kb_put (kb_put (kb_un0 _) (by simp [kb])) (by simp [kb])) (by simp [kb])) (by simp [kb])) (by simp [kb])) (by simp [kb])) ⟨kbs_app (by simp [kb.kbs, kb]) hdi, kbs_app (by simp [kb.kbs, kb]) (strs_imm cur), trivial⟩
        iterate 6 (· first | exact xlq | rfl | (simp only [go_sem, Nat.reduceEqDiff, Nat.reduceAdd, Nat.reduceLT, Nat.reduceMul, Nat.reduceLeDiff, reduceCtorEq, Int.reduceNeg, Int.reduceToNat]; exact congrArg (D.int .i64) (by omega)))
  · obtain rfl : i = l.length := by omega
    rw [List.drop_length, cutA] at hcut
    rw [← hcut] at hr
    have hdl2 := rowsD_len done
    have hdi := rowsD_imm done
    have hlen' : (done ++ [cur]).length = done.length + 1 := by rw [List.length_append]; rfl
    have hrow' : rowsD (done ++ [cur]) = rowsD done ++ [.sl cur.length (cur.map .str)] := by rw [rowsD_app]; rfl
    rw [hlen', hrow'] at hr
    rcases hσ with ⟨rfl, rfl⟩ | ⟨hne, u, rfl⟩
    · have hlen : (rowsD done ++ [D.nils]).length = done.length + 1 := by rw [List.length_append, hdl2]; rfl
      have htk : (rowsD done ++ [D.nils]).take (done.length + 1) = rowsD done ++ [D.nils] := List.take_of_length_le (by omega)
      have hall : (rowsD done ++ [D.nils]).all D.imm = false := by rw [List.all_append, hdi]; rfl
      have hgo : ∀ (H : Nat → Blk) (k : Nat), resD.go H (k + 1) (rowsD done ++ [D.nils]) = some (rowsD done ++ [D.sl 0 []], []) := fun H k => go_app (by simp only [resD.go, resD, Option.bind_some, Option.map_some]; rfl) hdi
      clear hcl hlen' hrow'
      (have we1 := hlen; have we2 := htk; have we3 := hall; have we4 := hgo; exact xwalkd4)
    · have hlen : (rowsD done ++ [D.own 2 u 0 cur.length]).length = done.length + 1 := by rw [List.length_append, hdl2]; rfl
      have htk : (rowsD done ++ [D.own 2 u 0 cur.length]).take (done.length + 1) = rowsD done ++ [D.own 2 u 0 cur.length] := List.take_of_length_le (by omega)
      have hall : (rowsD done ++ [D.own 2 u 0 cur.length]).all D.imm = false := by rw [List.all_append, hdi]; rfl
      have hgo : ∀ (x y : Blk) (k : Nat), resD.go (hv [x, y, some (u, 9, 1, cur.map D.str)]) (k + 1) (rowsD done ++ [D.own 2 u 0 cur.length]) = some (rowsD done ++ [D.sl cur.length (cur.map D.str)], [2]) := fun x y k => go_app (by
        simp only [resD.go, resD_own2 (k := k) (List.length_map ..) (strs_imm cur), Option.bind_some, Option.map_some]; rfl) hdi
      clear hlen' hrow'
      (have we1 := hlen; have we2 := htk; have we3 := hall; have we4 := hgo; exact xwalkd4)
end Go.Proofs.YtgimaioeifnajaaGreatDoorK.TabT
