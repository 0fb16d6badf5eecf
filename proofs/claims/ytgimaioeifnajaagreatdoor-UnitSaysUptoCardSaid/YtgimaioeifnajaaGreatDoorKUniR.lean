/-
  The document's own Cut, Num, power: what they compute.
-/
import Derived.Test.YtgimaioeifnajaaGreatDoorKIrCubitref6
import Derived.Test.YtgimaioeifnajaaGreatDoorKUniQ
import Derived.Test.YtgimaioeifnajaaGreatDoorKRe
set_option linter.all false
set_option maxHeartbeats 0
namespace Go.Proofs.YtgimaioeifnajaaGreatDoorK.AI
open Go.RowKit
theorem resD_own1 {x : Blk} {u t' n k : Nat} {cs : List D} {rest : List Blk} (hn : cs.length = n) (hi : cs.all D.imm = true) : resD (hv (x :: some (u, t', 1, cs) :: rest)) (k + 1) (.own 1 u 0 n) = some (.sl n cs, [1]) := by
  have hb : hv (x :: some (u, t', 1, cs) :: rest) 1 = some (u, t', 1, cs) := rfl
  simp only [resD, hb, Nat.zero_mul, Nat.mul_one, Nat.zero_add, List.drop_zero]
  rw [if_pos ⟨trivial, by omega⟩, List.take_of_length_le (by omega)]
  unfold resD.resL
  rw [if_pos hi]
  rfl
theorem ent_lastC {env env' : Nat → D} {v t u t' n : Nat} {ds cs : List D} {rest : List Blk} (hn : cs.length = n) (hi : cs.all D.imm = true) (he : Less env env') (hk : ∀ t, kb 1 (env' t)) (hd : kb.kbs 1 (ds ++ [.sl n cs])) :
    Ent ⟨env, some (v, t, 1, ds ++ [.own 1 u 0 n]) :: some (u, t', 1, cs) :: rest⟩ ⟨env', [some (v, t, 1, ds ++ [.sl n cs])]⟩ := by
  refine Ent.trans (σ' := ⟨env', some (v, t, 1, ds ++ [.sl n cs]) :: none :: rest.map fun _ => none⟩) (Ent.frz [1] (fun t => he.frc t) ⟨.inr ⟨by simp, .inr ⟨v, t, 1, _, _, rfl, rfl, by omega, FrL.app (l := [.own 1 u 0 n]) (l' := [.sl n cs]) ⟨.res 1 rfl (resD_own1 (k := 0) hn hi) (fun _ h => h), trivial⟩ ds⟩⟩, .inl rfl, FrH.none rest 2⟩) (by simp) ?_
  exact Ent.cutk 1 (fun _ => .inr rfl) ⟨.inr rfl, trivial⟩ hk ⟨hd, trivial⟩
end Go.Proofs.YtgimaioeifnajaaGreatDoorK.AI
namespace Go.Proofs.YtgimaioeifnajaaGreatDoorK.TabT
open AI NatIr Dig NatT LibT Go.Lib
attribute [local irreducible] awp awpOps
attribute [local go_sem] V_getD V_set V_take V_drop V_imm V_one V_app V_app1 V_repl V_get1 V_length M List.length_append
attribute [local go_sem] not_true_eq_false not_false_eq_true eq_self decide_true decide_false beq_self_eq_true Int.reduceAdd nl
variable {G : World → Prop}
theorem pcr_rcut (hG : Stable G) (l : List Wd) (at' : Wd) (hl : l.length < 1000000) : PCr Tryz.prog G 33 [.sl l.length (l.map .str), .str at'] (.sl (cutW at' l).length (rowsD (cutW at' l))) := by
  have hll : (l.map D.str).length = l.length := List.length_map ..
  refine pcr_byq ok33 hG (n := 43) (rv := [.tmp 4]) fun r hr => ?_; unfold c33 st0
  (refine xwalk ?_)
  refine awp_loop (fun k σ => ∃ i done cur v, i ≤ l.length ∧ k = l.length - i ∧ done.length ≤ i ∧ cur.length ≤ i ∧ cutA at' done cur (l.drop i) = cutW at' l ∧
    ((cur = [] ∧ σ = ⟨(putE (putE (putE (putE un0 (some 0) (.sl l.length (l.map .str))) (some 1) (.str at')) (some 5) (.own 0 v 0 (done.length + 1))) (some 6) (.int .i64 (i : Int))), [some (v, 29, 1, rowsD done ++ [.nils])]⟩) ∨
     (cur ≠ [] ∧ σ = ⟨(putE (putE (putE (putE un0 (some 0) (.sl l.length (l.map .str))) (some 1) (.str at')) (some 5) (.own 0 v 0 (done.length + 1))) (some 6) (.int .i64 (i : Int))), [some (v, 29, 1, rowsD done ++ [.sl cur.length (cur.map .str)])]⟩))) l.length ?_ ⟨0, [], [], 0, Nat.zero_le _, rfl, Nat.le_refl _, Nat.le_refl _, rfl, .inl ⟨rfl, rfl⟩⟩ ?_
  · refine Ent.env (less_put (less_put (less_put (less_put (less_un0 _) ?_) ?_) ?_) ?_)
    iterate 4 (· exact xlqi)
  rintro k σ1 ⟨i, done, cur, v, hi, rfl, hdl, hcl, hcut, hσ⟩
  have hdl2 := rowsD_len done
  have hdi := rowsD_imm done
  have hdo := rowsD_one done
  have hcn : (cur.map D.str).length = cur.length := List.length_map ..
  have hci := strs_imm cur
  have hco := strs_one cur
  by_cases hlt : i < l.length
  · have hget := strs_get1 hlt
    rw [List.drop_eq_getElem_cons hlt, cutA] at hcut
    generalize l[i] = w at *
    by_cases hw : w = at'
    · rw [if_pos hw] at hcut
      have hwd : decide (w = at') = true := decide_eq_true hw
      have hone : ([D.nils] : List D).all D.one = true := rfl
      obtain ⟨done', hd'⟩ : ∃ d, done ++ [cur] = d := ⟨_, rfl⟩
      have hdl' : done'.length = done.length + 1 := by rw [← hd', List.length_append]; rfl
      have hrow' : rowsD done' ++ [D.nils] = rowsD done ++ [.sl cur.length (cur.map .str), .nils] := by rw [← hd', rowsD_app, List.append_assoc]; rfl
      rw [hd'] at hcut
      have hkb : kb.kbs 1 (rowsD done ++ [.sl cur.length (cur.map .str), .nils]) := kbs_app (by simp [kb.kbs, kb]) hdi
      rcases hσ with ⟨rfl, rfl⟩ | ⟨hne, rfl⟩
      · have hlen : (rowsD done ++ [D.nils]).length = done.length + 1 := by rw [List.length_append, hdl2]; rfl
        have happ : rowsD done ++ [D.nils] ++ [D.nils] = rowsD done ++ [D.nils, D.nils] := by rw [List.append_assoc]; rfl
        clear hcl hd'
        (have we1 := hget; have we2 := hwd; have we3 := hlen; have we4 := hone; have we5 := happ; refine xwalk5 ?_)
        refine ⟨l.length - (i + 1), _, by omega, ?_, i + 1, done', [], v + 1, by omega, rfl, by omega, by simp, hcut, .inl ⟨rfl, rfl⟩⟩
        rw [hrow', hdl']
        refine ent_lastA (less_put (less_put (less_put (less_put (less_un0 _) ?_) ?_) ?_) ?_) (kb_put (kb_put (kb_put (kb_put (kb_un0 _) (by simp [kb])) (by simp [kb])) (by simp [kb])) (by simp [kb])) hkb
        iterate 4 (· exact xlqi)
      · have hlen : (rowsD done ++ [D.sl cur.length (cur.map .str)]).length = done.length + 1 := by rw [List.length_append, hdl2]; rfl
        have happ : rowsD done ++ [D.sl cur.length (cur.map .str)] ++ [D.nils] = rowsD done ++ [D.sl cur.length (cur.map .str), D.nils] := by rw [List.append_assoc]; rfl
        clear hd'
        (have we1 := hget; have we2 := hwd; have we3 := hlen; have we4 := hone; have we5 := happ; refine xwalk5 ?_)
        refine ⟨l.length - (i + 1), _, by omega, ?_, i + 1, done', [], v + 1, by omega, rfl, by omega, by simp, hcut, .inl ⟨rfl, rfl⟩⟩
        rw [hrow', hdl']
        refine Ent.cutk 1 (less_put (less_put (less_put (less_put (less_un0 _) ?_) ?_) ?_) ?_) ⟨.inr rfl, trivial⟩ (kb_put (kb_put (kb_put (kb_put (kb_un0 _) (by simp [kb])) (by simp [kb])) (by simp [kb])) (by simp [kb])) ⟨hkb, trivial⟩
        iterate 4 (· exact xlqi)
    · rw [if_neg hw] at hcut
      have hwd : decide (w = at') = false := decide_eq_false hw
      have hn1 : (done.length : Int) + 1 - 1 = (done.length : Int) := by omega
      have hcl' : (cur ++ [w]).length = cur.length + 1 := by rw [List.length_append]; rfl
      have hmap : (cur ++ [w]).map D.str = cur.map D.str ++ [D.str w] := by rw [List.map_append]; rfl
      have hkb : kb.kbs 1 (rowsD done ++ [.sl (cur ++ [w]).length ((cur ++ [w]).map .str)]) := kbs_app (by simp [kb.kbs, kb]) hdi
      rcases hσ with ⟨rfl, rfl⟩ | ⟨hne, rfl⟩
      · have hlen : (rowsD done ++ [D.nils]).length = done.length + 1 := by rw [List.length_append, hdl2]; rfl
        have hg : (rowsD done ++ [D.nils]).getD done.length .un = D.nils := by rw [List.getD_eq_getElem?_getD, ← hdl2, List.getElem?_concat_length]; rfl
        have hst : ∀ y, (rowsD done ++ [D.nils]).set done.length y = rowsD done ++ [y] := fun y => by rw [← hdl2, List.set_append_right _ _ (Nat.le_refl _), Nat.sub_self]; rfl
        (have we1 := hget; have we2 := hwd; have we3 := hlen; have we4 := hn1; have we5 := hg; have we6 := hst; refine xwalk6 ?_)
        refine ⟨l.length - (i + 1), _, by omega, ?_, i + 1, done, [w], v, by omega, rfl, by omega, by simp, hcut, .inr ⟨by simp, rfl⟩⟩
        refine ent_lastC (cs := [.str w]) rfl rfl (less_put (less_put (less_put (less_put (less_un0 _) ?_) ?_) ?_) ?_) (kb_put (kb_put (kb_put (kb_put (kb_un0 _) (by simp [kb])) (by simp [kb])) (by simp [kb])) (by simp [kb])) hkb
        iterate 4 (· exact xlqi)
      · have hlen : (rowsD done ++ [D.sl cur.length (cur.map .str)]).length = done.length + 1 := by rw [List.length_append, hdl2]; rfl
        have hg : (rowsD done ++ [D.sl cur.length (cur.map .str)]).getD done.length .un = D.sl cur.length (cur.map .str) := by rw [List.getD_eq_getElem?_getD, ← hdl2, List.getElem?_concat_length]; rfl
        have hst : ∀ y, (rowsD done ++ [D.sl cur.length (cur.map .str)]).set done.length y = rowsD done ++ [y] := fun y => by rw [← hdl2, List.set_append_right _ _ (Nat.le_refl _), Nat.sub_self]; rfl
        (have we1 := hget; have we2 := hwd; have we3 := hlen; have we4 := hn1; have we5 := hg; have we6 := hst; have we7 := hcn; have we8 := hco; refine xwalk8 ?_)
        refine ⟨l.length - (i + 1), _, by omega, ?_, i + 1, done, cur ++ [w], v, by omega, rfl, by omega, by omega, hcut, .inr ⟨by simp, rfl⟩⟩
        rw [hmap, hcl'] at hkb ⊢
        have hk1 : (cur.map D.str ++ [D.str w]).length = cur.length + 1 := by rw [List.length_append, hcn]; rfl
        have hk2 : (cur.map D.str ++ [D.str w]).all D.imm = true := by rw [List.all_append, hci]; rfl
        refine ent_lastC hk1 hk2 (less_put (less_put (less_put (less_put (less_un0 _) ?_) ?_) ?_) ?_) (kb_put (kb_put (kb_put (kb_put (kb_un0 _) (by simp [kb])) (by simp [kb])) (by simp [kb])) (by simp [kb])) hkb
        iterate 4 (· exact xlqi)
  · obtain rfl : i = l.length := by omega
    rw [List.drop_length, cutA] at hcut
    rw [← hcut] at hr
    have hlen' : (done ++ [cur]).length = done.length + 1 := by rw [List.length_append]; rfl
    have hrow' : rowsD (done ++ [cur]) = rowsD done ++ [.sl cur.length (cur.map .str)] := by rw [rowsD_app]; rfl
    rw [hlen', hrow'] at hr
    rcases hσ with ⟨rfl, rfl⟩ | ⟨hne, rfl⟩
    · have hlen : (rowsD done ++ [D.nils]).length = done.length + 1 := by rw [List.length_append, hdl2]; rfl
      have htk : (rowsD done ++ [D.nils]).take (done.length + 1) = rowsD done ++ [D.nils] := List.take_of_length_le (by omega)
      have hall : (rowsD done ++ [D.nils]).all D.imm = false := by rw [List.all_append, hdi]; rfl
      have hgo : ∀ (H : Nat → Blk) (k : Nat), resD.go H (k + 1) (rowsD done ++ [D.nils]) = some (rowsD done ++ [D.sl 0 []], []) := fun H k => go_app (by simp only [resD.go, resD, Option.bind_some, Option.map_some]; rfl) hdi
      clear hcl hlen' hrow'
      (have we1 := hlen; have we2 := htk; have we3 := hall; have we4 := hgo; exact xwalkd4)
    · have hlen : (rowsD done ++ [D.sl cur.length (cur.map .str)]).length = done.length + 1 := by rw [List.length_append, hdl2]; rfl
      have htk : (rowsD done ++ [D.sl cur.length (cur.map .str)]).take (done.length + 1) = rowsD done ++ [D.sl cur.length (cur.map .str)] := List.take_of_length_le (by omega)
      have hall : (rowsD done ++ [D.sl cur.length (cur.map .str)]).all D.imm = true := by rw [List.all_append, hdi]; rfl
      clear hlen' hrow'
      (have we1 := hlen; have we2 := htk; have we3 := hall; exact xwalkd3)
theorem pcr_rnum (hG : Stable G) (n : Nat) (hn : n < 16) : PCr Tryz.prog G 112 [.int .i64 n] (.str ⟨(itoa (n : Int)).toArray⟩) := by
  have h1 := RefT.pcr_rsmall (G := G) hG n (by omega)
  have h2 := RefT.pcr_rtext (G := G) hG n (by have := wd_length_le (B := 10000) (n := n) (k := 1) (by omega) (by omega); omega)
  rw [itoa, if_neg (by omega), Int.toNat_natCast]
  have hw : ((n : Int) % 18446744073709551616) = n := by omega
  refine pcr_byq ok112 hG (n := 7) (rv := [.tmp 2]) fun r hr => ?_; unfold c112 st0
  (have we1 := hw; exact xwalkd1)
def rpw (s : Wd) : Nat := if powW s = 1 then 0 else powW s
end Go.Proofs.YtgimaioeifnajaaGreatDoorK.TabT
