/-
  Joined: Call, Run, Frame, Foot, Aw, Reg, Draw, Code, Eval.
-/
import Derived.Test.YtgimaioeifnajaaGreatDoorKAa
import Derived.Orders
set_option linter.all false
set_option maxHeartbeats 4000000
/-
  The abstract interpreter, part 11: builtins, calls of Go functions (PCr: what a function's contract is), reading own blocks for the last time (resD).
-/
namespace Go.Proofs.YtgimaioeifnajaaGreatDoorK.AI
open Go.RowKit

def PCr (P : Program) (G : World → Prop) (f : FuncId) (xs : List D) (r : D) : Prop :=
  ∀ (w : World) (S : Nat → Prop) (vs : Array Value), G w → (∀ g, S g → g < w.heap.size) → vs.size = xs.length → (∀ i d, xs[i]? = some d → RepI S w (vs.getD i undef) d) →
    Calls P f vs w fun e w' => ∃ v, e = .returned v ∧ RepI S w' v r ∧ Below w.heap.size w w'

def D.imm : D → Bool
  | .own .. | .ptr .. | .agg _ | .tup _ | .nils | .fn .. | .mo .. | .mp _ => false
  | _ => true
def resD (H : Nat → Blk) : Nat → D → Option (D × List Nat)
  | 0, _ => none
  | k + 1, .own b ver off n => match H b with
    | some (v, _, sz, cs) => if v = ver ∧ off * sz + n * sz ≤ cs.length then (resL k ((cs.drop (off * sz)).take (n * sz))).map fun p => (.sl n p.1, b :: p.2) else none
    | none => none
  | k + 1, .ptr b ver off => match H b with
    | some (v, _, _, cs) => if v = ver then (resL k (cs.drop off)).map fun p => (.rp p.1, b :: p.2) else none
    | none => none
  | _ + 1, .nils => some (.sl 0 [], [])
  | k + 1, .agg cs => (resL k cs).map fun p => (.agg p.1, p.2)
  | k + 1, .tup cs => (resL k cs).map fun p => (.tup p.1, p.2)
  | k + 1, .fn f cs => (resL k cs).map fun p => (.fn f p.1, p.2)
  | k + 1, .mo b ver => match H b with
    | some (v, _, _, [.mp kvs]) => if v = ver then (resL k kvs).map fun p => (.mf p.1, b :: p.2) else none
    | _ => none
  | _ + 1, d => some (d, [])
  where
  resL (k : Nat) (cs : List D) : Option (List D × List Nat) := if cs.all D.imm then some (cs, []) else go k cs
  go (k : Nat) : List D → Option (List D × List Nat)
    | [] => some ([], [])
    | d :: l => (resD H k d).bind fun p => (go k l).map fun q => (p.1 :: q.1, p.2 ++ q.2)
section
variable {P : Program} {R : Nat → Nat → Bnd} {S : Nat → Prop} {base : Nat → Prop} {w : World} {H : Nat → Blk} {nk : Nat} {ρ : Operand → Value} {env : Nat → D}

theorem Rep.imm_inv {A : Nat → Prop} {v : Value} {d : D} (h : Rep R A w v d) (hi : d.imm = true) : RepI A w v d := by
  cases h with
  | imm h => exact h
  | agg => simp [D.imm] at hi
  | tup => simp [D.imm] at hi
  | own => simp [D.imm] at hi
  | ownn => simp [D.imm] at hi
  | ptr => simp [D.imm] at hi
  | fn => simp [D.imm] at hi
  | mo => simp [D.imm] at hi
theorem resD_ok (hr : HRel R S base w H) : ∀ (k : Nat) (v : Value) (d d' : D) (ks : List Nat), Rep R (AOf S R H) w v d → resD H k d = some (d', ks) → ∀ ks', (∀ x ∈ ks, x ∈ ks') → RepI (AOf S R (frz H ks')) w v d' := by
  intro k
  induction k with
  | zero => intro v d d' ks _ h; simp [resD] at h
  | succ k ih =>
    have go : ∀ (cs ds : List D) (ks : List Nat) (vs : List Value), resD.go H k cs = some (ds, ks) → (∀ j d, cs[j]? = some d → Rep R (AOf S R H) w (vs.getD j undef) d) → ∀ ks', (∀ x ∈ ks, x ∈ ks') →
        ds.length = cs.length ∧ ∀ j d, ds[j]? = some d → RepI (AOf S R (frz H ks')) w (vs.getD j undef) d := by
      intro cs
      induction cs with
      | nil => intro ds ks vs h hv ks' hk; simp [resD.go] at h; obtain ⟨rfl, rfl⟩ := h; simp
      | cons c l ihl =>
        intro ds ks vs h hv ks' hk
        simp only [resD.go, Option.bind_eq_some_iff, Option.map_eq_some_iff, Prod.mk.injEq] at h
        obtain ⟨⟨d1, k1⟩, h1, ⟨l2, k2⟩, h2, rfl, rfl⟩ := h
        have hd := ih _ _ _ _ (hv 0 c rfl) h1 ks' (fun x hx => hk x (List.mem_append.2 (.inl hx)))
        obtain ⟨hl, hrest⟩ := ihl l2 k2 vs.tail h2 (fun j d hj => by have := hv (j + 1) d (by simpa using hj); simpa [List.getD, List.getElem?_tail] using this) ks' (fun x hx => hk x (List.mem_append.2 (.inr hx)))
        refine ⟨by simp [hl], fun j d hj => ?_⟩
        cases j with
        | zero => simp at hj; subst hj; exact hd
        | succ j => have := hrest j d (by simpa using hj); simpa [List.getD, List.getElem?_tail] using this
    have lst : ∀ (cs ds : List D) (ks : List Nat) (vs : List Value), resD.resL H k cs = some (ds, ks) → (∀ j d, cs[j]? = some d → Rep R (AOf S R H) w (vs.getD j undef) d) → ∀ ks', (∀ x ∈ ks, x ∈ ks') →
        ds.length = cs.length ∧ ∀ j d, ds[j]? = some d → RepI (AOf S R (frz H ks')) w (vs.getD j undef) d := by
      intro cs ds ks vs h hv ks' hk
      unfold resD.resL at h
      split at h
      · rename_i hall
        cases h
        refine ⟨rfl, fun j d hj => ?_⟩
        exact ((hv j d hj).imm_inv (List.all_eq_true.1 hall d (List.mem_of_getElem? hj))).weak (fun g hg => hg.frz)
      · exact go cs ds ks vs h hv ks' hk
    -- an own block that is read for the last time
    intro v d d' ks h hd ks' hk
    cases d with
    | own b ver off n =>
      simp only [resD] at hd
      split at hd
      · rename_i v' t' sz cs hb
        split at hd
        · rename_i hc
          obtain ⟨rfl, hle⟩ := hc
          simp only [Option.map_eq_some_iff, Prod.mk.injEq] at hd
          obtain ⟨⟨ds, k1⟩, h1, rfl, rfl⟩ := hd
          rcases h.own_inv with ⟨hR, rfl, rfl, rfl⟩ | ⟨g, cap, sz', o, hR, h0s, ho, hn, rfl⟩
          · have : ds = [] := by
              have := (lst _ ds k1 [] h1 (fun j d hj => by simp at hj) k1 (fun _ h => h)).1
              exact List.eq_nil_of_length_eq_zero (by simpa using this)
            subst this
            exact .sl none 0 0 [] 0 0 (fun _ => undef) (Nat.le_refl _) (Nat.zero_le _) (fun h => absurd rfl h) (fun h => absurd rfl h) (fun j d hj => by simp at hj) (fun j d hj => by simp at hj)
          · obtain ⟨vs, rfl, hbg, hw, hvs, hcap, hcl, hrep⟩ := hr.at hb hR h0s
            have hcells : ∀ j d, ((cs.drop (off * sz')).take (n * sz'))[j]? = some d → Rep R (AOf S R H) w ((vs.toList.drop (off * sz')).getD j undef) d := fun j d hj => by
              rw [List.getElem?_take] at hj
              split at hj
              · rw [List.getElem?_drop] at hj
                have := hrep _ _ hj
                have e : (vs.toList.drop (off * sz')).getD j undef = vs.getD (off * sz' + j) undef := by
                  rw [List.getD_eq_getElem?_getD, List.getElem?_drop, Array.getD_eq_getD_getElem?]; simp
                rw [e]; exact this
              · cases hj
            obtain ⟨hl, hds⟩ := lst _ ds k1 _ h1 hcells ks' (fun x hx => hk x (List.mem_cons_of_mem _ hx))
            have hdl : ds.length = n * sz' := by rw [hl]; simp; omega
            refine .sl _ n _ ds g o (fun j => (vs.toList.drop (off * sz')).getD j undef) (by omega) (by omega) (fun _ => rfl) (fun _ => hr.last hb hR hbg (hk b (List.mem_cons_self))) (fun j d hj => ?_) hds
            have hjl : j < n * sz' := by have := (List.getElem?_eq_some_iff.1 hj).1; omega
            have ho2 : o = off * sz' := by
              rcases ho with rfl | ⟨ho, _⟩
              · rfl
              · have hn0 : n = 0 := by omega
                subst hn0
                simp at hjl
            have hlt : off * sz' + j < vs.size := by omega
            subst ho2
            rw [cellv_of_block hw, getD_some hlt]
            congr 1
            rw [List.getD_eq_getElem?_getD, List.getElem?_drop, Array.getD_eq_getD_getElem?]; simp
        · cases hd
      · cases hd
    | ptr b ver off =>
      simp only [resD] at hd
      split at hd
      · rename_i v' t' sz cs hb
        split at hd
        · rename_i hvv
          subst hvv
          simp only [Option.map_eq_some_iff, Prod.mk.injEq] at hd
          obtain ⟨⟨ds, k1⟩, h1, rfl, rfl⟩ := hd
          obtain ⟨g, cap, sz', hR, h0s, rfl⟩ := h.ptr_inv
          obtain ⟨vs, rfl, hbg, hw, hvs, hcap, hcl, hrep⟩ := hr.at hb hR h0s
          have hcells : ∀ j d, (cs.drop off)[j]? = some d → Rep R (AOf S R H) w ((vs.toList.drop off).getD j undef) d := fun j d hj => by
            rw [List.getElem?_drop] at hj
            have := hrep _ _ hj
            have e : (vs.toList.drop off).getD j undef = vs.getD (off + j) undef := by
              rw [List.getD_eq_getElem?_getD, List.getElem?_drop, Array.getD_eq_getD_getElem?]; simp
            rw [e]; exact this
          obtain ⟨hl, hds⟩ := lst _ ds k1 _ h1 hcells ks' (fun x hx => hk x (List.mem_cons_of_mem _ hx))
          refine .rp ds g off (fun j => (vs.toList.drop off).getD j undef) (fun _ => hr.last hb hR hbg (hk b (List.mem_cons_self))) (fun j d hj => ?_) hds
          have hjl : j < ds.length := (List.getElem?_eq_some_iff.1 hj).1
          rw [hl, List.length_drop] at hjl
          have hlt : off + j < vs.size := by omega
          rw [cellv_of_block hw, getD_some hlt]
          congr 1
          rw [List.getD_eq_getElem?_getD, List.getElem?_drop, Array.getD_eq_getD_getElem?]; simp
        · cases hd
      · cases hd
    | agg cs =>
      simp only [resD, Option.map_eq_some_iff, Prod.mk.injEq] at hd
      obtain ⟨⟨ds, k1⟩, h1, rfl, rfl⟩ := hd
      obtain ⟨vs, rfl, hsz, hvs⟩ := h.agg_inv
      obtain ⟨hl, hds⟩ := lst cs ds k1 vs.toList h1 (fun j d hj => by have := hvs j d hj; simpa [List.getD, Array.getD_eq_getD_getElem?] using this) ks' hk
      exact .agg vs ds (by omega) (fun j d hj => by have := hds j d hj; simpa [List.getD, Array.getD_eq_getD_getElem?] using this)
    | tup cs =>
      simp only [resD, Option.map_eq_some_iff, Prod.mk.injEq] at hd
      obtain ⟨⟨ds, k1⟩, h1, rfl, rfl⟩ := hd
      obtain ⟨vs, rfl, hsz, hvs⟩ := h.tup_inv
      obtain ⟨hl, hds⟩ := lst cs ds k1 vs.toList h1 (fun j d hj => by have := hvs j d hj; simpa [List.getD, Array.getD_eq_getD_getElem?] using this) ks' hk
      exact .tup vs ds (by omega) (fun j d hj => by have := hds j d hj; simpa [List.getD, Array.getD_eq_getD_getElem?] using this)
    | fn f cs =>
      simp only [resD, Option.map_eq_some_iff, Prod.mk.injEq] at hd
      obtain ⟨⟨ds, k1⟩, h1, rfl, rfl⟩ := hd
      obtain ⟨vs, rfl, hsz, hvs⟩ := h.fn_inv
      obtain ⟨hl, hds⟩ := lst cs ds k1 vs.toList h1 (fun j d hj => by have := hvs j d hj; simpa [List.getD, Array.getD_eq_getD_getElem?] using this) ks' hk
      exact .fn f vs ds (by omega) (fun j d hj => by have := hds j d hj; simpa [List.getD, Array.getD_eq_getD_getElem?] using this)
    | mo b ver =>
      simp only [resD] at hd
      split at hd
      · rename_i v' t' sz kvs hb
        split at hd
        · rename_i hvv
          subst hvv
          simp only [Option.map_eq_some_iff, Prod.mk.injEq] at hd
          obtain ⟨⟨ds, k1⟩, h1, rfl, rfl⟩ := hd
          obtain ⟨g, hR, rfl⟩ := h.mo_inv
          obtain ⟨es, c, _, _, _, hbg, hg, hkl, hrep⟩ := hr.mapAt hb hR
          have hcells : ∀ j d, kvs[j]? = some d → Rep R (AOf S R H) w (((List.range kvs.length).map (kvv es)).getD j undef) d := fun j d hj => by
            have hlt : j < kvs.length := (List.getElem?_eq_some_iff.1 hj).1
            have e : ((List.range kvs.length).map (kvv es)).getD j undef = kvv es j := by simp [hlt]
            rw [e]
            exact hrep j d hj
          obtain ⟨hl, hds⟩ := lst _ ds k1 _ h1 hcells ks' (fun x hx => hk x (List.mem_cons_of_mem _ hx))
          refine .mf ds g es c (hr.last hb hR hbg (hk b (List.mem_cons_self))) hg (by omega) (fun j d hj => ?_)
          have hlt : j < kvs.length := by have := (List.getElem?_eq_some_iff.1 hj).1; omega
          have := hds j d hj
          have e : ((List.range kvs.length).map (kvv es)).getD j undef = kvv es j := by simp [hlt]
          rwa [e] at this
        · cases hd
      · cases hd
    | nils =>
      simp only [resD, Option.some.injEq, Prod.mk.injEq] at hd
      obtain ⟨rfl, rfl⟩ := hd
      rw [h.nils_inv]
      exact .sl none 0 0 [] 0 0 (fun _ => undef) (Nat.le_refl _) (Nat.zero_le _) (fun h => absurd rfl h) (fun h => absurd rfl h) (fun j d hj => by simp at hj) (fun j d hj => by simp at hj)
    | mp kvs => exact h.mp_inv.elim
    | _ =>
      simp only [resD, Option.some.injEq, Prod.mk.injEq] at hd
      obtain ⟨rfl, rfl⟩ := hd
      exact (h.imm_inv rfl).weak (fun g hg => hg.frz)
theorem HRel.below {w' : World} (hr : HRel R S base w H) (hb : Below w.heap.size w w') : HRel R S base w' H where
  blk := fun b => by
    have hk := hr.blk b
    cases hH : H b with
    | none => exact trivial
    | some x =>
      obtain ⟨v, t, s, cs⟩ := x
      rw [hH] at hk
      rcases hk with h | ⟨g, cap, vs, h1, h2, h3, h4, h5, h6, h7⟩ | ⟨g, es, c, kvs, h1, h2, h3, h4, h5, h6, h7⟩
      · exact .inl h
      · exact .inr (.inl ⟨g, cap, vs, h1, h2, (hb.block g (hr.bnd _ _ _ _ _ h1)).trans h3, h4, h5, h6, fun j d hj => (h7 j d hj).mono (fun _ _ _ => rfl) (fun g hg hA => ⟨hA, Same.of_eq (hb.block g hg)⟩)⟩)
      · exact .inr (.inr ⟨g, es, c, kvs, h1, h2, h3, (hb.block g (hr.bnd _ _ _ _ _ h1)).trans h4, h5, h6, fun j d hj => (h7 j d hj).mono (fun _ _ _ => rfl) (fun g hg hA => ⟨hA, Same.of_eq (hb.block g hg)⟩)⟩)
  vers := hr.vers
  inj := hr.inj
  ext := hr.ext
  bnd := fun b ver g cap sz h => Nat.lt_of_lt_of_le (hr.bnd b ver g cap sz h) hb.size
end
end Go.Proofs.YtgimaioeifnajaaGreatDoorK.AI
/-
  The abstract interpreter, part 12: one operation in its frame; regions in the text's order; code; loops; functions.
-/
namespace Go.Proofs.YtgimaioeifnajaaGreatDoorK.AI
open Go.RowKit

section
variable {P : Program} {G : World → Prop} {R : Nat → Nat → Bnd} {S : Nat → Prop} {base : Nat → Prop} {w0 : Org} {w : World} {H : Nat → Blk} {nk : Nat} {ρ : Operand → Value} {env : Nat → D} {n : Nat}

theorem opSound_b {o : Oper} {c : Call} {io : IOp} {e : Eff} (ho : o.op = .call c) (hc : compCall P c = some io) (hr : HRel R S base w H) (hv : Opds R (AOf S R H) w ρ env) (hf : ∀ v, R nk v = .no) (hH : H nk = none) (hbase : ∀ k, base k → k < w.heap.size)
    (hs : stepF env H nk io = some e) : Gives P R S base w H nk (execOp ρ o) e := by
  unfold compCall at hc
  split at hc
  · rename_i hcal
    split at hc
    · rename_i x hu ha
      obtain ⟨xo, hx, rfl⟩ := Option.map_eq_some_iff.1 hc
      obtain ⟨t, ht, hu⟩ := Option.bind_eq_some_iff.1 hu
      simp only [stepF] at hs
      split at hs
      · rename_i s hd
        cases hs
        exact gives_len hr hv ho hcal ha ht hu hx (.inl rfl) (.inl ⟨s, hd, rfl, rfl⟩) (fun _ => ⟨s, hd⟩)
      · cases hs
    · rename_i e' x hu ha
      obtain ⟨xo, hx, rfl⟩ := Option.map_eq_some_iff.1 hc
      obtain ⟨t, ht, hu⟩ := Option.bind_eq_some_iff.1 hu
      simp only [stepF] at hs
      split at hs
      · rename_i n cs hd
        cases hs
        exact gives_len hr hv ho hcal ha ht hu hx (.inr ⟨_, rfl⟩) (.inr (.inl ⟨n, cs, hd, rfl⟩)) (fun h => by cases h)
      · rename_i b v f n hd
        cases hs
        exact gives_len hr hv ho hcal ha ht hu hx (.inr ⟨_, rfl⟩) (.inr (.inr (.inl ⟨b, v, f, n, hd, rfl⟩))) (fun h => by cases h)
      · rename_i hd
        cases hs
        exact gives_len hr hv ho hcal ha ht hu hx (.inr ⟨_, rfl⟩) (.inr (.inr (.inr ⟨hd, rfl⟩))) (fun h => by cases h)
      · cases hs
    · rename_i n e' x hu ha
      cases hc
      simp only [stepF, getO, Option.some.injEq] at hs
      subst hs
      obtain ⟨t, ht, hu⟩ := Option.bind_eq_some_iff.1 hu
      have ha' : c.args = #[x] := by rw [← Array.toArray_toList (xs := c.args), ha]
      refine Gives.pure hr (v := .int .i64 n) ?_ (.imm (.int _ _))
      simp [execOp, ho, resolve, hcal, ha', invoke, builtin, Builtin.len_, ht, run_underlying hu, goInt]
    · cases hc
  · rename_i hcal
    split at hc
    · rename_i e' x hu ha
      obtain ⟨xo, hx, rfl⟩ := Option.map_eq_some_iff.1 hc
      obtain ⟨t, ht, hu⟩ := Option.bind_eq_some_iff.1 hu
      simp only [stepF] at hs
      split at hs
      · rename_i hd
        cases hs
        exact gives_cap hr hv ho hcal ha ht hu hx hd
      · cases hs
    · cases hc
  · rename_i hcal
    split at hc
    · rename_i x y ha
      simp only [Option.bind_eq_some_iff, Option.map_eq_some_iff] at hc
      obtain ⟨xo, hx, yo, hy, rfl⟩ := hc
      simp only [stepF] at hs
      split at hs
      · rename_i k a k' b hd he
        cases hs
        exact pure_mx hr hv ho hcal ha hx hy hd he
      · cases hs
    · cases hc
  · rename_i hcal
    split at hc
    · rename_i x y ha
      simp only [Option.bind_eq_some_iff, Option.map_eq_some_iff] at hc
      obtain ⟨xo, hx, yo, hy, rfl⟩ := hc
      simp only [stepF] at hs
      split at hs
      · rename_i k a k' b hd he
        cases hs
        exact pure_mn hr hv ho hcal ha hx hy hd he
      · cases hs
    · cases hc
  · rename_i hcal
    split at hc
    · rename_i s x t t' ha ht
      split at hc
      · rename_i htt
        subst htt
        simp only [Option.bind_eq_some_iff] at hc
        obtain ⟨e', he', i, hi, z, hz, hc⟩ := hc
        split at hc
        · rename_i hzs
          simp only [Option.bind_eq_some_iff, Option.map_eq_some_iff] at hc
          obtain ⟨so, hso, xo, hxo, rfl⟩ := hc
          simp only [stepF] at hs
          split at hs
          · rename_i m ds rs hrow
            split at hs
            · rename_i hd
              split at hs
              · rename_i hcond
                cases hs
                exact gives_app_nils hr hv hf hH hbase ho hcal ha ht (sliceT_some he') hi hz hzs.1 hzs.2 hso hxo hd hrow hcond.1 hcond.2.1 hcond.2.2
              · cases hs
            · rename_i b ver n hd
              split at hs
              · rename_i v t1 s1 cs hHb
                split at hs
                · rename_i hcond
                  obtain ⟨rfl, rfl, rfl, h1, h2, h3, h4, h5⟩ := hcond
                  cases hs
                  have := gives_app_own hr hv hbase ho hcal ha ht (sliceT_some he') hi hz hzs.1 hzs.2 hso hxo hd hHb (Nat.le_of_eq h1.symm) hrow h2 h3 h4 (nk := nk)
                  rw [List.take_of_length_le (Nat.le_of_eq h1)] at this
                  exact this
                · split at hs
                  · rename_i hcond
                    obtain ⟨rfl, rfl, rfl, rfl, h2, h3, h4, h5⟩ := hcond
                    cases hs
                    have := gives_app_own hr hv hbase ho hcal ha ht (sliceT_some he') hi hz hzs.1 hzs.2 hso hxo hd hHb (by simp) hrow (by simpa using h2) (by simpa using h3) h4 (nk := nk)
                    simpa using this
                  · cases hs
              · cases hs
            · cases hs
          · cases hs
        · cases hc
      · split at hc
        · rename_i hni
          simp only [Option.bind_eq_some_iff] at hc
          obtain ⟨e', he', i, hi, z, hz, hc⟩ := hc
          split at hc
          · rename_i hzs
            simp only [Option.bind_eq_some_iff, Option.map_eq_some_iff] at hc
            obtain ⟨so, hso, xo, hxo, rfl⟩ := hc
            simp only [stepF] at hs
            split at hs
            · rename_i q k hd he
              split at hs
              · rename_i hcond
                cases hs
                exact gives_appZ hr hv hf hH hbase ho hcal ha ht (sliceT_some he') hni hi hz hzs.1 hzs.2 hso hxo hd he hcond.1 hcond.2.1 hcond.2.2
              · cases hs
            · cases hs
          · cases hc
        · cases hc
    · cases hc
  · split at hc
    · split at hc
      · obtain ⟨as, has, rfl⟩ := Option.map_eq_some_iff.1 hc
        simp [stepF] at hs
      · cases hc
    · cases hc
  · obtain ⟨as, has, rfl⟩ := Option.map_eq_some_iff.1 hc
    simp [stepF] at hs
  · cases hc
theorem opSound {o : Oper} {io : IOp} {e : Eff} (hc : compOp P o.op = some io) (hr : HRel R S base w H) (hv : Opds R (AOf S R H) w ρ env) (hf : ∀ v, R nk v = .no) (hH : H nk = none) (hbase : ∀ k, base k → k < w.heap.size)
    (hs : stepF env H nk io = some e) : Gives P R S base w H nk (execOp ρ o) e := by
  by_cases hcall : ∃ c, o.op = .call c
  · obtain ⟨c, ho⟩ := hcall
    rw [ho] at hc
    exact opSound_b ho hc hr hv hf hH hbase hs
  · exact opSound_a hc hr hv hf hH hbase hs (fun c h => hcall ⟨c, h⟩)

structure SRel (n : Nat) (R : Nat → Nat → Bnd) (A : Nat → Prop) (w : World) (a : Act) (env : Nat → D) : Prop where
  nod : a.defers = []
  len : n ≤ a.tmps.size
  rep : ∀ t, Rep R A w (a.tmps.getD t undef) (env t)
theorem SRel.opds {A : Nat → Prop} {a : Act} (h : SRel n R A w a env) : Opds R A w a.eval env := fun x xo hx => by
  unfold compOpd at hx
  split at hx
  · cases hx; exact h.rep _
  · obtain ⟨d, hd, rfl⟩ := Option.map_eq_some_iff.1 hx; exact rep_const hd
  · cases hx; exact .imm (.fn _ #[] [] rfl (fun j d hj => by simp at hj))
  · cases hx
def putE (env : Nat → D) (dst : Option Nat) (d : D) : Nat → D := fun t' => if dst = some t' then d else env t'
theorem SRel.put {A : Nat → Prop} {a : Act} (h : SRel n R A w a env) {v : Value} {d : D} (hd : Rep R A w v d) (dst : Option Nat) (hn : ∀ t, dst = some t → t < n) : SRel n R A w (a.put dst v) (putE env dst d) := by
  cases dst with
  | none => exact ⟨h.nod, h.len, fun t => by simpa [putE, Act.put] using h.rep t⟩
  | some t =>
    refine ⟨h.nod, by simpa [Act.put] using h.len, fun t' => ?_⟩
    simp only [putE, Act.put, Option.some.injEq]
    by_cases e : t = t'
    · subst e
      rw [if_pos rfl]
      have hl2 : t < a.tmps.size := Nat.lt_of_lt_of_le (hn t rfl) h.len
      have e1 : (a.tmps.setIfInBounds t v).getD t undef = v := by simp [Array.getD, hl2]
      rw [e1]
      exact hd
    · rw [if_neg e]
      have e1 : (a.tmps.setIfInBounds t v).getD t' undef = a.tmps.getD t' undef := by
        rw [Array.getD_eq_getD_getElem?, Array.getD_eq_getD_getElem?, Array.getElem?_setIfInBounds_ne e]
      rw [e1]
      exact h.rep t'
theorem SRel.mono {R' : Nat → Nat → Bnd} {A A' : Nat → Prop} {w' : World} {a : Act} (h : SRel n R A w a env) (hR : ∀ b ver, R b ver ≠ .no → R' b ver = R b ver)
    (hA : ∀ g, g < w.heap.size → ¬ A g → ¬ A' g ∧ Same w w' g) : SRel n R' A' w' a env := ⟨h.nod, h.len, fun t => (h.rep t).mono hR hA⟩
theorem rep_undef {A : Nat → Prop} : Rep R A w undef (.tup []) := .imm (.tup #[] [] rfl (fun j d hj => by simp at hj))

structure MRel (n : Nat) (G : World → Prop) (R : Nat → Nat → Bnd) (S : Nat → Prop) (w0 : Org) (w : World) (H : Nat → Blk) (a : Act) (env : Nat → D) : Prop where
  hrel : HRel R S w0.keep w H
  srel : SRel n R (AOf S R H) w a env
  below : BelowK w0.keep w0.w w
  kin : ∀ k, w0.keep k → k < w0.w.heap.size
  g : G w
  gk : ∀ w', BelowK w0.keep w0.w w' → G w'
  r0m : ∀ b ver, w0.m ≤ b → w0.R0 b ver = .no
  keepR : ∀ b ver, w0.R0 b ver ≠ .no → R b ver = w0.R0 b ver

def Stable (G : World → Prop) : Prop := ∀ w w', G w → Below w.heap.size w w' → G w'

theorem wp_of_gives {o : Oper} {a : Act} {e : Eff} {K : Act → World → Prop} {Q : Exit → Act → World → Prop} (h : Gives P R S base w H nk (execOp a.eval o) e)
    (hk : ∀ R' w' v, Out R S base w H nk e R' w' v → K (a.put o.dst v) w') : o.wp P a w K Q := by
  obtain ⟨nx, w', R', v, hrun, hnx, hout⟩ := h
  unfold Oper.wp
  rw [hrun]
  rcases hnx with rfl | ⟨rfl, rfl⟩
  · exact hk R' w' v hout
  · exact hk R' w' _ hout
theorem MRel.out {a : Act} {e : Eff} {R' : Nat → Nat → Bnd} {w' : World} {v : Value} {dst : Option Nat}  (h : MRel n G R S w0 w H a env) (ho : Out R S w0.keep w H nk e R' w' v) (hn : ∀ t, dst = some t → t < n) :
    MRel n G R' S w0 w' (updH H e.2.1) (a.put dst v) (putE env dst e.1) :=
  ⟨ho.hrel, (h.srel.mono ho.keepR ho.keepC).put ho.rep dst hn, h.below.trans ho.below, h.kin, h.gk w' (h.below.trans ho.below), h.gk, h.r0m, fun b ver hb => (ho.keepR b ver (by rw [h.keepR b ver hb]; exact hb)).trans (h.keepR b ver hb)⟩
theorem MRel.kw {a : Act} (h : MRel n G R S w0 w H a env) : ∀ k, w0.keep k → k < w.heap.size := fun k hk => Nat.lt_of_lt_of_le (h.kin k hk) h.below.size

/-! calls of Go functions -/
def resArgs (H : Nat → Blk) (env : Nat → D) : List Opd → Option (List D × List Nat)
  | [] => some ([], [])
  | x :: l => (resD H 6 (getO env x)).bind fun p => (resArgs H env l).map fun q => (p.1 :: q.1, p.2 ++ q.2)
theorem resArgs_ok (hr : HRel R S base w H) : ∀ (os : List Opd) (xs : List D) (ks : List Nat) (vs : List Value), resArgs H env os = some (xs, ks) → (∀ i d, (os.map (getO env))[i]? = some d → Rep R (AOf S R H) w (vs.getD i undef) d) → ∀ ks', (∀ x ∈ ks, x ∈ ks') →
    xs.length = os.length ∧ ∀ i d, xs[i]? = some d → RepI (AOf S R (frz H ks')) w (vs.getD i undef) d
  | [], xs, ks, vs, hx, hv, ks', hk => by
    simp [resArgs] at hx
    obtain ⟨rfl, rfl⟩ := hx
    simp
  | o :: l, xs, ks, vs, hx, hv, ks', hk => by
    simp only [resArgs, Option.bind_eq_some_iff, Option.map_eq_some_iff, Prod.mk.injEq] at hx
    obtain ⟨⟨d1, k1⟩, h1, ⟨l2, k2⟩, h2, rfl, rfl⟩ := hx
    have hd := resD_ok hr 6 _ _ _ _ (hv 0 _ rfl) h1 ks' (fun x hx => hk x (List.mem_append.2 (.inl hx)))
    obtain ⟨hlen, hrest⟩ := resArgs_ok hr l l2 k2 vs.tail h2 (fun i d hi => by have := hv (i + 1) d (by simpa using hi); simpa [List.getD, List.getElem?_tail] using this) ks' (fun x hx => hk x (List.mem_append.2 (.inr hx)))
    refine ⟨by simp [hlen], fun i d hi => ?_⟩
    cases i with
    | zero => simp at hi; subst hi; exact hd
    | succ i => have := hrest i d (by simpa using hi); simpa [List.getD, List.getElem?_tail] using this
def okF (P : Program) (f : FuncId) : Bool := match P.funcs[f]? with
  | some fn => fn.body.isSome && !(fn.name == "runtime.NumGoroutine")
  | none => false
theorem run_callFunc {f : FuncId} {args : Array Value} (h : okF P f = true) : (callFunc f args).run P w = .ok (.enter f args) w := by
  unfold okF at h
  split at h
  · rename_i fn hfn
    simp only [Bool.and_eq_true, Bool.not_eq_true'] at h
    have hname : fn.name ≠ "runtime.NumGoroutine" := by simpa using h.2
    have hbody : fn.body ≠ none := by intro e; rw [e] at h; simp at h
    simp [callFunc, hfn]
    rw [if_neg hname, if_neg hbody]
  · cases h
def Enters (P : Program) (R : Nat → Nat → Bnd) (A : Nat → Prop) (w : World) (s : Sem Next) (env : Nat → D) (f : FuncId) (as : List Opd) : Prop :=
  ∃ args : List Value, s.run P w = .ok (.enter f args.toArray) w ∧ args.length = as.length ∧ ∀ i d, (as.map (getO env))[i]? = some d → Rep R A w (args.getD i undef) d
theorem opds_args {A : Nat → Prop} (hv : Opds R A w ρ env) : ∀ {l : List Operand} {as : List Opd}, compOpds l = some as → (l.map ρ).length = as.length ∧ ∀ i d, (as.map (getO env))[i]? = some d → Rep R A w ((l.map ρ).getD i undef) d := fun {l as} h => by
  obtain ⟨h1, h2⟩ := compOpds_get h
  refine ⟨by simp [h1], fun i d hi => ?_⟩
  rw [List.getElem?_map] at hi
  obtain ⟨xo, hxo, rfl⟩ := Option.map_eq_some_iff.1 hi
  obtain ⟨x, hxl, hc⟩ := h2 i xo hxo
  have e : (l.map ρ).getD i undef = ρ x := by rw [List.getD_eq_getElem?_getD, List.getElem?_map, hxl]; rfl
  rw [e]
  exact hv x xo hc
theorem run_call {a : Act} {o : Oper} {c : Call} {f : FuncId} {as : List Opd} (ho : o.op = .call c) (hc : compCall P c = some (.call f as)) : ∃ l : List Operand, c.args.toList = l ∧ compOpds l = some as ∧ (execOp a.eval o).run P w = .ok (.enter f (l.map a.eval).toArray) w := by
  unfold compCall at hc
  split at hc
  · split at hc
    · obtain ⟨_, _, h⟩ := Option.map_eq_some_iff.1 hc; cases h
    · obtain ⟨_, _, h⟩ := Option.map_eq_some_iff.1 hc; cases h
    · cases hc
    · cases hc
  · split at hc
    · obtain ⟨_, _, h⟩ := Option.map_eq_some_iff.1 hc; cases h
    · cases hc
  · split at hc
    · simp only [Option.bind_eq_some_iff, Option.map_eq_some_iff] at hc
      obtain ⟨_, _, _, _, h⟩ := hc; cases h
    · cases hc
  · split at hc
    · simp only [Option.bind_eq_some_iff, Option.map_eq_some_iff] at hc
      obtain ⟨_, _, _, _, h⟩ := hc; cases h
    · cases hc
  · split at hc
    · split at hc
      · simp only [Option.bind_eq_some_iff] at hc
        obtain ⟨_, _, _, _, _, _, hc⟩ := hc
        split at hc
        · simp only [Option.bind_eq_some_iff, Option.map_eq_some_iff] at hc
          obtain ⟨_, _, _, _, h⟩ := hc; cases h
        · cases hc
      · split at hc
        · simp only [Option.bind_eq_some_iff] at hc
          obtain ⟨_, _, _, _, _, _, hc⟩ := hc
          split at hc
          · simp only [Option.bind_eq_some_iff, Option.map_eq_some_iff] at hc
            obtain ⟨_, _, _, _, h⟩ := hc; cases h
          · cases hc
        · cases hc
    · cases hc
  · rename_i f' hcal
    split at hc
    · rename_i fn' hfn
      split at hc
      · rename_i hb
        obtain ⟨as', has, h⟩ := Option.map_eq_some_iff.1 hc
        cases h
        refine ⟨_, rfl, has, ?_⟩
        have hargs : c.args.map a.eval = (c.args.toList.map a.eval).toArray := by rw [← Array.toList_map]
        have hnone : fn'.body.isNone = false := by
          cases h : fn'.body with
          | none => rw [h] at hb; simp at hb
          | some _ => rfl
        have hev : a.eval (.func f) = .func (.func f) #[] #[] := rfl
        have hname : fn'.name ≠ "runtime.NumGoroutine" := by simpa using hb.2
        have hbody : fn'.body ≠ none := by intro h; rw [h] at hnone; simp at hnone
        simp [execOp, ho, resolve, hcal, Deferred.ofValue, invoke, callFunc, hfn, hargs, hev]
        rw [if_neg hname, if_neg hbody]
      · cases hc
    · cases hc
  · obtain ⟨_, _, h⟩ := Option.map_eq_some_iff.1 hc; cases h
  · cases hc
theorem enters_call {A : Nat → Prop} {a : Act} {o : Oper} {c : Call} {f : FuncId} {as : List Opd} (ho : o.op = .call c) (hc : compCall P c = some (.call f as)) (hv : Opds R A w a.eval env) : Enters P R A w (execOp a.eval o) env f as := by
  obtain ⟨l, hl, hcomp, hrun⟩ := run_call (P := P) (w := w) (a := a) ho hc
  obtain ⟨h1, h2⟩ := opds_args hv hcomp
  exact ⟨l.map a.eval, hrun, h1, h2⟩
theorem comp_dcall {c : Call} {x : Opd} {as : List Opd} (hc : compCall P c = some (.dcall x as)) : ∃ t, c.callee = .value (.tmp t) ∧ x = .t t ∧ compOpds c.args.toList = some as := by
  unfold compCall at hc
  split at hc
  · split at hc
    · obtain ⟨_, _, h⟩ := Option.map_eq_some_iff.1 hc; cases h
    · obtain ⟨_, _, h⟩ := Option.map_eq_some_iff.1 hc; cases h
    · cases hc
    · cases hc
  · split at hc
    · obtain ⟨_, _, h⟩ := Option.map_eq_some_iff.1 hc; cases h
    · cases hc
  · split at hc
    · simp only [Option.bind_eq_some_iff, Option.map_eq_some_iff] at hc
      obtain ⟨_, _, _, _, h⟩ := hc; cases h
    · cases hc
  · split at hc
    · simp only [Option.bind_eq_some_iff, Option.map_eq_some_iff] at hc
      obtain ⟨_, _, _, _, h⟩ := hc; cases h
    · cases hc
  · split at hc
    · split at hc
      · simp only [Option.bind_eq_some_iff] at hc
        obtain ⟨_, _, _, _, _, _, hc⟩ := hc
        split at hc
        · simp only [Option.bind_eq_some_iff, Option.map_eq_some_iff] at hc
          obtain ⟨_, _, _, _, h⟩ := hc; cases h
        · cases hc
      · split at hc
        · simp only [Option.bind_eq_some_iff] at hc
          obtain ⟨_, _, _, _, _, _, hc⟩ := hc
          split at hc
          · simp only [Option.bind_eq_some_iff, Option.map_eq_some_iff] at hc
            obtain ⟨_, _, _, _, h⟩ := hc; cases h
          · cases hc
        · cases hc
    · cases hc
  · split at hc
    · split at hc
      · obtain ⟨_, _, h⟩ := Option.map_eq_some_iff.1 hc; cases h
      · cases hc
    · cases hc
  · rename_i t hcal
    obtain ⟨as', has, h⟩ := Option.map_eq_some_iff.1 hc
    cases h
    exact ⟨t, hcal, rfl, has⟩
  · cases hc
theorem enters_dcall {A : Nat → Prop} {a : Act} {o : Oper} {c : Call} {f : FuncId} {x : Opd} {as : List Opd} {cs : List D} (ho : o.op = .call c) (hc : compCall P c = some (.dcall x as)) (hv : Opds R A w a.eval env) (hx : getO env x = .fn f cs) (hf : okF P f = true) :
    Enters P R A w (execOp a.eval o) env f (as ++ cs.map .c) := by
  obtain ⟨t, hcal, rfl, hcomp⟩ := comp_dcall hc
  obtain ⟨h1, h2⟩ := opds_args hv hcomp
  have hfv := hv (.tmp t) (.t t) rfl
  rw [hx] at hfv
  obtain ⟨caps, e1, hcl, hcr⟩ := hfv.fn_inv
  refine ⟨c.args.toList.map a.eval ++ caps.toList, ?_, by simp at h1 ⊢; omega, fun i d hi => ?_⟩
  · have hargs : c.args.map a.eval = (c.args.toList.map a.eval).toArray := by rw [← Array.toList_map]
    have hcat : c.args.map a.eval ++ caps = (c.args.toList.map a.eval ++ caps.toList).toArray := by rw [hargs, ← List.append_toArray, Array.toArray_toList]
    simp only [execOp, ho, resolve, hcal, e1, Deferred.ofValue, Sem.run_bind, Sem.run_pure, Result.andThen_ok, invoke, Array.empty_append]
    rw [hcat]
    exact run_callFunc hf
  · rw [List.map_append, List.map_map] at hi
    have hcm : (cs.map (getO env ∘ Opd.c)) = cs := by rw [show (getO env ∘ Opd.c) = id from rfl, List.map_id]
    rw [hcm] at hi
    by_cases hlt : i < as.length
    · rw [List.getElem?_append_left (by simpa using hlt)] at hi
      have := h2 i d hi
      rw [List.getD_eq_getElem?_getD, List.getElem?_append_left (by omega), ← List.getD_eq_getElem?_getD]
      exact this
    · rw [List.getElem?_append_right (by simpa using Nat.le_of_not_lt hlt)] at hi
      rw [List.getD_eq_getElem?_getD, List.getElem?_append_right (by omega), h1]
      have := hcr _ d hi
      simpa [Array.getD_eq_getD_getElem?] using this
theorem wp_call {o : Oper} {f : FuncId} {as : List Opd} {a : Act} {xs : List D} {ks : List Nat} {r : D} {K : Act → World → Prop} {Q : Exit → Act → World → Prop} (h : MRel n G R S w0 w H a env) (hE : Enters P R (AOf S R H) w (execOp a.eval o) env f as)
    {fz : Bool} (hx : resArgs H env as = some (xs, ks)) (hp : PCr P G f xs r) (hz : fz = true ∨ r.flat = true)
    (hk : ∀ w' v, Out R S w0.keep w H nk (r, (if fz then ks.map fun b => (b, none) else []), ks) R w' v → K (a.put o.dst v) w') : o.wp P a w K Q := by
  obtain ⟨l, hrun, hl, hreps⟩ := hE
  obtain ⟨hlen, hargs⟩ := resArgs_ok h.hrel as xs ks l hx hreps ks (fun _ h => h)
  unfold Oper.wp
  rw [hrun]
  have hS : ∀ g, AOf S R (frz H ks) g → g < w.heap.size := fun g hg => by
    rcases hg with hg | ⟨b, ver, t, sz, cs, cap, sz', _, hR⟩
    · exact h.kw g (h.hrel.ext g hg)
    · exact h.hrel.bnd b ver g cap sz' hR
  refine (hp w (AOf S R (frz H ks)) l.toArray h.g hS (by simp [hlen, hl]) (fun i d hi => by have := hargs i d hi; simpa [List.getD, Array.getD_eq_getD_getElem?] using this)).mono ?_
  rintro e w' ⟨v, rfl, hrep, hbel⟩
  have hb0 : BelowK w0.keep w w' := .of hbel h.kw
  refine hk w' v ?_
  cases fz with
  | false =>
    have hf : r.flat = true := hz.resolve_left (by simp)
    rw [if_neg (by simp)]
    exact ⟨h.hrel.below hbel, .imm (hrep.of_flat hf), fun _ _ _ => rfl, fun g hg hA => ⟨hA, Same.of_eq (hbel.block g hg)⟩, hb0, fun _ _ => rfl⟩
  | true =>
    rw [if_pos rfl]
    have e : updH H (ks.map fun b => (b, none)) = frz H ks := updH_none ks H
    refine ⟨by rw [show (r, (ks.map fun b => ((b, none) : Nat × Blk)), ks).2.1 = ks.map fun b => (b, none) from rfl, e]; exact (h.hrel.frz ks).below hbel, ?_, fun _ _ _ => rfl, fun g hg hA => ⟨?_, Same.of_eq (hbel.block g hg)⟩, hb0, fun _ _ => rfl⟩
    · show Rep R (AOf S R (updH H (ks.map fun b => (b, none)))) w' v r
      rw [e]
      exact .imm hrep
    · show ¬ AOf S R (updH H (ks.map fun b => (b, none))) g
      rw [e]
      exact fun h => hA h.frz
end
end Go.Proofs.YtgimaioeifnajaaGreatDoorK.AI
/-
  The abstract interpreter, part 12b: calls that are handed own blocks (PCg): what the call does to them is told; the caller's other blocks stand.
-/
namespace Go.Proofs.YtgimaioeifnajaaGreatDoorK.AI
open Go.RowKit

def hv (h : List Blk) : Nat → Blk := fun b => h.getD b none
theorem hv_ge {h : List Blk} {b : Nat} (hb : h.length ≤ b) : hv h b = none := by
  unfold hv
  rw [List.getD_eq_getElem?_getD, List.getElem?_eq_none hb]
  rfl

section
variable {R R' Rc : Nat → Nat → Bnd} {A A' : Nat → Prop} {w w' : World} {v : Value} {d : D}
def kb (k : Nat) : D → Prop
  | .own b _ _ _ => b < k
  | .ptr b _ _ => b < k
  | .agg cs => kbs cs
  | .tup cs => kbs cs
  | .fn _ cs => kbs cs
  | .mo b _ => b < k
  | .mp kvs => kbs kvs
  | _ => True
  where kbs : List D → Prop
  | [] => True
  | d :: l => kb k d ∧ kbs l
theorem kbs_get {k : Nat} : ∀ {cs : List D}, kb.kbs k cs → ∀ (j : Nat) (d : D), cs[j]? = some d → kb k d
  | [], _, j, d, hj => by simp at hj
  | x :: l, h, j, d, hj => by
    simp only [kb.kbs] at h
    cases j with
    | zero => simp at hj; subst hj; exact h.1
    | succ j => exact kbs_get h.2 j d (by simpa using hj)
theorem kbs_of_imm {k : Nat} : ∀ {cs : List D}, cs.all D.imm = true → kb.kbs k cs
  | [], _ => by simp [kb.kbs]
  | d :: l, h => by
    simp only [List.all_cons, Bool.and_eq_true] at h
    refine ⟨?_, kbs_of_imm h.2⟩
    have := h.1
    cases d <;> simp [D.imm] at this <;> simp [kb]
def kbH (k : Nat) : List Blk → Prop
  | [] => True
  | none :: l => kbH k l
  | some (_, _, _, cs) :: l => kb.kbs k cs ∧ kbH k l
theorem kbH_get {k : Nat} : ∀ {h : List Blk}, kbH k h → ∀ b ver t sz cs, hv h b = some (ver, t, sz, cs) → kb.kbs k cs
  | [], _, b, ver, t, sz, cs, hb => by simp [hv] at hb
  | none :: l, h, 0, ver, t, sz, cs, hb => by simp [hv] at hb
  | some (v', t', s', cs') :: l, h, 0, ver, t, sz, cs, hb => by
    simp [hv] at hb
    obtain ⟨rfl, rfl, rfl, rfl⟩ := hb
    exact h.1
  | none :: l, h, b + 1, ver, t, sz, cs, hb => kbH_get (h := l) h b ver t sz cs (by simpa [hv] using hb)
  | some (v', t', s', cs') :: l, h, b + 1, ver, t, sz, cs, hb => kbH_get (h := l) h.2 b ver t sz cs (by simpa [hv] using hb)

def D.ren (κ : List Nat) : D → D
  | .own b v o n => .own (κ.getD b 0) v o n
  | .ptr b v o => .ptr (κ.getD b 0) v o
  | .agg cs => .agg (rens κ cs)
  | .tup cs => .tup (rens κ cs)
  | .un => .un
  | .null => .null
  | .nils => .nils
  | .bool b => .bool b
  | .int k n => .int k n
  | .str s => .str s
  | .sl n cs => .sl n cs
  | .rp cs => .rp cs
  | .nilm => .nilm
  | .fn f cs => .fn f (rens κ cs)
  | .mp kvs => .mp (rens κ kvs)
  | .mo b v => .mo (κ.getD b 0) v
  | .mf kvs => .mf kvs
  where rens (κ : List Nat) : List D → List D
  | [] => []
  | d :: l => D.ren κ d :: rens κ l
theorem rens_map (κ : List Nat) : ∀ cs, D.ren.rens κ cs = cs.map (D.ren κ)
  | [] => by simp [D.ren.rens]
  | d :: l => by simp [D.ren.rens, rens_map κ l]
theorem ren_mp {κ : List Nat} {cs : List D} {kvs : List D} (h : cs.map (D.ren κ) = [.mp kvs]) : ∃ kvs0, cs = [.mp kvs0] ∧ kvs = kvs0.map (D.ren κ) := by
  cases cs with
  | nil => simp at h
  | cons d l =>
    simp only [List.map_cons, List.cons.injEq, List.map_eq_nil_iff] at h
    obtain ⟨hd, rfl⟩ := h
    cases d <;> simp [D.ren] at hd
    exact ⟨_, rfl, by rw [← hd, rens_map]⟩
def renB (κ : List Nat) : Blk → Blk
  | none => none
  | some (ver, t, sz, cs) => some (ver, t, sz, cs.map (D.ren κ))
theorem RepI.ren_eq {κ : List Nat} {d' : D} (h : RepI A w v d') : ∀ d, d' = d.ren κ → d = d' := by
  induction h with
  | agg vs cs hl _ ih =>
    intro d hd
    cases d <;> simp [D.ren] at hd
    rename_i ds
    subst hd
    rw [rens_map] at *
    congr 1
    refine List.ext_getElem? fun j => ?_
    rw [List.getElem?_map]
    cases hj : ds[j]? with
    | none => rfl
    | some x =>
      have := ih j (x.ren κ) (by rw [List.getElem?_map, hj]; rfl) x rfl
      simp [← this]
  | tup vs cs hl _ ih =>
    intro d hd
    cases d <;> simp [D.ren] at hd
    rename_i ds
    subst hd
    rw [rens_map] at *
    congr 1
    refine List.ext_getElem? fun j => ?_
    rw [List.getElem?_map]
    cases hj : ds[j]? with
    | none => rfl
    | some x =>
      have := ih j (x.ren κ) (by rw [List.getElem?_map, hj]; rfl) x rfl
      simp [← this]
  | fn g vs cs hl _ ih =>
    intro d hd
    cases d <;> simp [D.ren] at hd
    rename_i g' ds
    obtain ⟨rfl, hd⟩ := hd
    subst hd
    rw [rens_map] at *
    congr 1
    refine List.ext_getElem? fun j => ?_
    rw [List.getElem?_map]
    cases hj : ds[j]? with
    | none => rfl
    | some x =>
      have := ih j (x.ren κ) (by rw [List.getElem?_map, hj]; rfl) x rfl
      simp [← this]
  | _ =>
    intro d hd
    cases d <;> simp [D.ren] at hd <;> first | rfl | (rw [hd]) | (obtain ⟨rfl, rfl⟩ := hd; rfl) | (subst hd; rfl)
theorem RepI.ren {κ : List Nat} (h : RepI A w v d) : RepI A w v (d.ren κ) := by
  induction h with
  | agg vs cs hl _ ih =>
    rw [D.ren, rens_map]
    refine .agg vs _ (by simpa using hl) fun j d hj => ?_
    rw [List.getElem?_map] at hj
    obtain ⟨x, hx, rfl⟩ := Option.map_eq_some_iff.1 hj
    exact ih j x hx
  | tup vs cs hl _ ih =>
    rw [D.ren, rens_map]
    refine .tup vs _ (by simpa using hl) fun j d hj => ?_
    rw [List.getElem?_map] at hj
    obtain ⟨x, hx, rfl⟩ := Option.map_eq_some_iff.1 hj
    exact ih j x hx
  | un v => exact .un v
  | null => exact .null
  | nils => exact .nils
  | bool b => exact .bool b
  | int k n => exact .int k n
  | str s => exact .str s
  | sl a n c cs g o us hn hc ha hA hu h ih => exact .sl a n c cs g o us hn hc ha hA hu h
  | rp cs g o us hA hu h ih => exact .rp cs g o us hA hu h
  | nilm => exact .nilm
  | fn f vs cs hl _ ih =>
    rw [D.ren, rens_map]
    refine .fn f vs _ (by simpa using hl) fun j d hj => ?_
    rw [List.getElem?_map] at hj
    obtain ⟨x, hx, rfl⟩ := Option.map_eq_some_iff.1 hj
    exact ih j x hx
  | mf kvs g es c hA hh hl h ih => exact .mf kvs g es c hA hh hl h
theorem Rep.ren_in {κ : List Nat} {m : Nat} (hR : ∀ b ver, b < m → Rc b ver = R (κ.getD b 0) ver) (hA : ∀ g, A' g → A g) {d' : D} (h : Rep R A w v d') : ∀ d, d' = d.ren κ → kb m d → Rep Rc A' w v d := by
  induction h with
  | imm h =>
    intro d hd _
    rw [h.ren_eq d hd]
    exact .imm (h.weak hA)
  | agg vs cs hl _ ih =>
    intro d hd hk
    cases d <;> simp [D.ren] at hd
    rename_i ds
    subst hd
    rw [rens_map] at *
    refine .agg vs ds (by simpa using hl) fun j x hj => ih j (x.ren κ) (by rw [List.getElem?_map, hj]; rfl) x rfl (kbs_get (by simpa [kb] using hk) j x hj)
  | tup vs cs hl _ ih =>
    intro d hd hk
    cases d <;> simp [D.ren] at hd
    rename_i ds
    subst hd
    rw [rens_map] at *
    refine .tup vs ds (by simpa using hl) fun j x hj => ih j (x.ren κ) (by rw [List.getElem?_map, hj]; rfl) x rfl (kbs_get (by simpa [kb] using hk) j x hj)
  | fn f vs cs hl _ ih =>
    intro d hd hk
    cases d <;> simp [D.ren] at hd
    rename_i f' ds
    obtain ⟨rfl, hd⟩ := hd
    subst hd
    rw [rens_map] at *
    refine .fn f vs ds (by simpa using hl) fun j x hj => ih j (x.ren κ) (by rw [List.getElem?_map, hj]; rfl) x rfl (kbs_get (by simpa [kb] using hk) j x hj)
  | mo b ver g hR0 =>
    intro d hd hk
    cases d <;> simp [D.ren] at hd
    obtain ⟨rfl, rfl⟩ := hd
    exact .mo _ _ g ((hR _ _ (by simpa [kb] using hk)).trans hR0)
  | own b ver off n g cap sz o hR0 h0 ho hn =>
    intro d hd hk
    cases d <;> simp [D.ren] at hd
    obtain ⟨rfl, rfl, rfl, rfl⟩ := hd
    exact .own _ _ _ _ g cap sz o ((hR _ _ (by simpa [kb] using hk)).trans hR0) h0 ho hn
  | ownn b ver hR0 =>
    intro d hd hk
    cases d <;> simp [D.ren] at hd
    obtain ⟨rfl, rfl, rfl, rfl⟩ := hd
    exact .ownn _ _ ((hR _ _ (by simpa [kb] using hk)).trans hR0)
  | ptr b ver off g cap sz hR0 h0 =>
    intro d hd hk
    cases d <;> simp [D.ren] at hd
    obtain ⟨rfl, rfl, rfl⟩ := hd
    exact .ptr _ _ _ g cap sz ((hR _ _ (by simpa [kb] using hk)).trans hR0) h0
theorem Rep.ren_out {κ : List Nat} (hR : ∀ b ver, Rc b ver ≠ .no → R (κ.getD b 0) ver = Rc b ver) (hA : ∀ g, A' g → A g) (h : Rep Rc A w v d) : Rep R A' w v (d.ren κ) := by
  induction h with
  | imm h => exact .imm ((h.weak hA).ren)
  | agg vs cs hl _ ih =>
    rw [D.ren, rens_map]
    refine .agg vs _ (by simpa using hl) fun j d hj => ?_
    rw [List.getElem?_map] at hj
    obtain ⟨x, hx, rfl⟩ := Option.map_eq_some_iff.1 hj
    exact ih j x hx
  | tup vs cs hl _ ih =>
    rw [D.ren, rens_map]
    refine .tup vs _ (by simpa using hl) fun j d hj => ?_
    rw [List.getElem?_map] at hj
    obtain ⟨x, hx, rfl⟩ := Option.map_eq_some_iff.1 hj
    exact ih j x hx
  | fn f vs cs hl _ ih =>
    rw [D.ren, rens_map]
    refine .fn f vs _ (by simpa using hl) fun j d hj => ?_
    rw [List.getElem?_map] at hj
    obtain ⟨x, hx, rfl⟩ := Option.map_eq_some_iff.1 hj
    exact ih j x hx
  | mo b ver g hR0 => exact .mo _ _ g ((hR b ver (by rw [hR0]; exact Bnd.noConfusion)).trans hR0)
  | own b ver off n g cap sz o hR0 h0 ho hn => exact .own _ _ _ _ g cap sz o ((hR b ver (by rw [hR0]; exact Bnd.noConfusion)).trans hR0) h0 ho hn
  | ownn b ver hR0 => exact .ownn _ _ ((hR b ver (by rw [hR0]; exact Bnd.noConfusion)).trans hR0)
  | ptr b ver off g cap sz hR0 h0 => exact .ptr _ _ _ g cap sz ((hR b ver (by rw [hR0]; exact Bnd.noConfusion)).trans hR0) h0
end

def PCg (P : Program) (G : World → Prop) (f : FuncId) (xs : List D) (h : List Blk) (r : D) (h' : List Blk) : Prop :=
  ∀ (R : Nat → Nat → Bnd) (S K : Nat → Prop) (w : World) (vs : Array Value), HRel R S K w (hv h) → (∀ k, K k → k < w.heap.size) → (∀ w', BelowK K w w' → G w') → (∀ b v, h.length ≤ b → R b v = .no) →
    vs.size = xs.length → (∀ i d, xs[i]? = some d → Rep R (AOf S R (hv h)) w (vs.getD i undef) d) →
    Calls P f vs w fun e w' => ∃ v R', e = .returned v ∧ HRel R' S K w' (hv h') ∧ Rep R' (AOf S R' (hv h')) w' v r ∧ (∀ b ver, R b ver ≠ .no → R' b ver = R b ver) ∧ (∀ b v, h'.length ≤ b → R' b v = .no) ∧ BelowK K w w'
structure Handed (H : Nat → Blk) (nk : Nat) (κ : List Nat) (h h' : List Blk) : Prop where
  nodup : κ.Nodup
  len : h.length ≤ κ.length
  len' : h'.length = κ.length
  kbs : kbH κ.length h
  pos : ∀ i, i < h.length → H (κ.getD i 0) = renB κ (hv h i)
  new : ∀ b ∈ κ.drop h.length, nk ≤ b ∧ nk ∈ κ.drop h.length
theorem updH_zip {κ : List Nat} : ∀ {l : List Blk} {H : Nat → Blk} (_ : κ.Nodup) (_ : l.length = κ.length) (b : Nat), (b ∉ κ → updH H (κ.zip l) b = H b) ∧ ∀ i, i < κ.length → b = κ.getD i 0 → updH H (κ.zip l) b = l.getD i none := by
  induction κ with
  | nil => intro l H _ hl b; simp [updH]
  | cons k κ ih =>
    intro l H hn hl b
    cases l with
    | nil => simp at hl
    | cons x l =>
      obtain ⟨hk, hn⟩ := List.nodup_cons.1 hn
      obtain ⟨h1, h2⟩ := ih (l := l) (H := fun c => if c = k then x else H c) hn (by simpa using hl) b
      rw [List.zip_cons_cons, updH]
      refine ⟨fun hb => ?_, fun i hi hb => ?_⟩
      · simp only [List.mem_cons, not_or] at hb
        rw [h1 hb.2, if_neg hb.1]
      · cases i with
        | zero =>
          simp at hb
          subst hb
          rw [h1 hk, if_pos rfl]; rfl
        | succ i =>
          simp at hb hi
          rw [h2 i hi (by simpa using hb)]; simp
section
variable {P : Program} {G : World → Prop} {R : Nat → Nat → Bnd} {S : Nat → Prop} {base : Nat → Prop} {w w' : World} {H : Nat → Blk} {nk : Nat} {κ : List Nat} {h h' : List Blk}
theorem idx_of {κ : List Nat} {b : Nat} (hb : b ∈ κ) : κ.idxOf b < κ.length ∧ κ.getD (κ.idxOf b) 0 = b := by
  have h1 : κ.idxOf b < κ.length := List.idxOf_lt_length_iff.2 hb
  refine ⟨h1, ?_⟩
  rw [List.getD_eq_getElem?_getD, List.getElem?_eq_getElem h1]
  simp
theorem mem_getD {κ : List Nat} {i : Nat} (hi : i < κ.length) : κ.getD i 0 ∈ κ := by
  rw [List.getD_eq_getElem?_getD, List.getElem?_eq_getElem hi]
  exact List.getElem_mem hi
theorem idx_getD {κ : List Nat} (hn : κ.Nodup) {i : Nat} (hi : i < κ.length) : κ.idxOf (κ.getD i 0) = i := by
  have e : κ.getD i 0 = κ[i] := by rw [List.getD_eq_getElem?_getD, List.getElem?_eq_getElem hi]; rfl
  rw [e]
  exact hn.idxOf_getElem i hi
theorem wp_callg {o : Oper} {f : FuncId} {as : List Opd} {n : Nat} {w0 : Org} {a : Act} {env : Nat → D} {xs : List D} {r : D} {K : Act → World → Prop} {Q : Exit → Act → World → Prop} (hm : MRel n G R S w0 w H a env) (hE : Enters P R (AOf S R H) w (execOp a.eval o) env f as)
    (hx : as.map (getO env) = xs.map (D.ren κ)) (hkx : ∀ d ∈ xs, kb κ.length d) (hh : Handed H nk κ h h') (hp : PCg P G f xs h r h') (hf : ∀ b ∈ κ.drop h.length, ∀ v, R b v = .no)
    (hk : ∀ R' w' v, Out R S w0.keep w H nk (r.ren κ, κ.zip (h'.map (renB κ)), κ.take h.length) R' w' v → K (a.put o.dst v) w') : o.wp P a w K Q := by
  obtain ⟨l, hrun, hll, hreps⟩ := hE
  unfold Oper.wp
  rw [hrun]
  have hr := hm.hrel
  let Rc : Nat → Nat → Bnd := fun b ver => if b < κ.length then R (κ.getD b 0) ver else .no
  let Sc : Nat → Prop := fun g => S g ∨ ∃ b ver t sz cs cap sz', H b = some (ver, t, sz, cs) ∧ R b ver = .at g cap sz' ∧ b ∉ κ
  let Kc : Nat → Prop := fun g => g < w.heap.size ∧ ¬ ∃ b ver t sz cs cap s, b ∈ κ ∧ H b = some (ver, t, sz, cs) ∧ R b ver = .at g cap s
  have hRc : ∀ b ver, b < κ.length → Rc b ver = R (κ.getD b 0) ver := fun b ver hb => if_pos hb
  have hRn : ∀ b ver, κ.length ≤ b → Rc b ver = .no := fun b ver hb => if_neg (by exact Nat.not_lt.2 hb)
  have hlt : ∀ {b ver}, Rc b ver ≠ .no → b < κ.length := fun {b ver} hb => by
    rcases Nat.lt_or_ge b κ.length with h1 | h1
    · exact h1
    · exact absurd (hRn b ver h1) hb
  -- a callee's block is the caller's
  have hat : ∀ i ver t sz cs, hv h i = some (ver, t, sz, cs) → i < κ.length ∧ H (κ.getD i 0) = some (ver, t, sz, cs.map (D.ren κ)) ∧ kb.kbs κ.length cs := fun i ver t sz cs hi => by
    have hil : i < h.length := by
      rcases Nat.lt_or_ge i h.length with h1 | h1
      · exact h1
      · rw [hv_ge h1] at hi; cases hi
    exact ⟨Nat.lt_of_lt_of_le hil hh.len, by rw [hh.pos i hil, hi]; rfl, kbH_get hh.kbs _ _ _ _ _ hi⟩
  have hA1 : ∀ g, AOf Sc Rc (hv h) g → AOf S R H g := fun g hg => by
    rcases hg with (hg | ⟨b, ver, t, sz, cs, cap, sz', h1, h2, _⟩) | ⟨b, ver, t, sz, cs, cap, sz', h1, h2⟩
    · exact .inl hg
    · exact .inr ⟨b, ver, t, sz, cs, cap, sz', h1, h2⟩
    · obtain ⟨hb, h3, _⟩ := hat b ver t sz cs h1
      exact .inr ⟨_, ver, t, sz, _, cap, sz', h3, by rw [← hRc b ver hb]; exact h2⟩
  have hkap : ∀ g, w0.keep g → Kc g := fun g hg => ⟨hm.kw g hg, by
    rintro ⟨b, ver, t, sz, cs, cap, s, _, h1, h2⟩
    exact hr.own_base h1 h2 hg⟩
  have hrc : HRel Rc Sc Kc w (hv h) := by
    refine ⟨fun b => ?_, fun b ver t sz cs hb v' hv' => ?_, fun b b' ver ver' t t' sz sz' cs cs' g cap cap' s s' hb hb' h1 h2 => ?_, fun g hg => ?_, fun b ver g cap sz h1 => ?_⟩
    · cases hb : hv h b with
      | none => exact trivial
      | some x =>
        obtain ⟨ver, t, sz, cs⟩ := x
        obtain ⟨hbl, hHb, hkb⟩ := hat b ver t sz cs hb
        have hblk := hr.blk (κ.getD b 0)
        rw [hHb] at hblk
        rcases hblk with ⟨h1, h2⟩ | ⟨g, cap, vs, h1, h2, h3, h4, h5, h6, h7⟩ | ⟨g, es, c, kvs, h1, h2, h3, h4, h5, h6, h7⟩
        · exact .inl ⟨(hRc b ver hbl).trans h1, by simpa using h2⟩
        · refine .inr (.inl ⟨g, cap, vs, (hRc b ver hbl).trans h1, fun hk => hk.2 ⟨_, ver, t, sz, _, cap, sz, mem_getD hbl, hHb, h1⟩, h3, h4, h5, by simpa using h6, fun j d hj => ?_⟩)
          have := h7 j (d.ren κ) (by rw [List.getElem?_map, hj]; rfl)
          exact this.ren_in hRc hA1 d rfl (kbs_get hkb j d hj)
        · obtain ⟨kvs0, rfl, rfl⟩ := ren_mp h5
          refine .inr (.inr ⟨g, es, c, kvs0, (hRc b ver hbl).trans h1, h2, fun hk => hk.2 ⟨_, ver, t, sz, _, 0, 0, mem_getD hbl, hHb, h1⟩, h4, rfl, by simpa using h6, fun j d hj => ?_⟩)
          have := h7 j (d.ren κ) (by rw [List.getElem?_map, hj]; rfl)
          simp only [kb.kbs, kb] at hkb
          exact this.ren_in hRc hA1 d rfl (kbs_get hkb.1 j d hj)
    · obtain ⟨hbl, hHb, _⟩ := hat b ver t sz cs hb
      rw [hRc b v' hbl]
      exact hr.vers _ _ _ _ _ hHb v' hv'
    · obtain ⟨hbl, hHb, _⟩ := hat b ver t sz cs hb
      obtain ⟨hbl', hHb', _⟩ := hat b' ver' t' sz' cs' hb'
      rw [hRc b ver hbl] at h1
      rw [hRc b' ver' hbl'] at h2
      have := hr.inj _ _ _ _ _ _ _ _ _ _ _ _ _ _ _ hHb hHb' h1 h2
      rw [← idx_getD hh.nodup hbl, this, idx_getD hh.nodup hbl']
    · rcases hg with hg | ⟨b, ver, t, sz, cs, cap, sz', h1, h2, h3⟩
      · exact hkap g (hr.ext g hg)
      · refine ⟨hr.bnd b ver g cap sz' h2, ?_⟩
        rintro ⟨b', ver', t', s', cs', cap', s2, hb', h1', h2'⟩
        have := hr.inj _ _ _ _ _ _ _ _ _ _ _ _ _ _ _ h1 h1' h2 h2'
        exact h3 (this ▸ hb')
    · have hbl := hlt (by rw [h1]; exact Bnd.noConfusion : Rc b ver ≠ .no)
      rw [hRc b ver hbl] at h1
      exact hr.bnd _ _ _ _ _ h1
  have hlen : l.length = xs.length := by
    have h2 := congrArg List.length hx
    simp at h2
    omega
  have hargs : ∀ i d, xs[i]? = some d → Rep Rc (AOf Sc Rc (hv h)) w (l.toArray.getD i undef) d := by
    intro i d hi
    have := hreps i (d.ren κ) (by rw [hx, List.getElem?_map, hi]; rfl)
    have e : l.toArray.getD i undef = l.getD i undef := by simp [Array.getD_eq_getD_getElem?, List.getD_eq_getElem?_getD]
    rw [e]
    exact this.ren_in hRc hA1 d rfl (hkx d (List.mem_of_getElem? hi))
  have hfrc : ∀ b v, h.length ≤ b → Rc b v = .no := fun b v hb => by
    rcases Nat.lt_or_ge b κ.length with h1 | h1
    · rw [hRc b v h1]
      refine hf (κ.getD b 0) ?_ v
      rw [List.getD_eq_getElem?_getD, List.getElem?_eq_getElem h1]
      refine List.mem_of_getElem? (i := b - h.length) ?_
      rw [List.getElem?_drop, show h.length + (b - h.length) = b by omega, List.getElem?_eq_getElem h1]; rfl
    · exact hRn b v h1
  refine (hp Rc Sc Kc w l.toArray hrc (fun k hk => hk.1) (fun w' hb => hm.gk w' (hm.below.trans (hb.mono hkap))) hfrc (by simp [hlen]) hargs).mono ?_
  rintro e w' ⟨v, Rd, rfl, hrd, hrep, hkeep, hfr, hbel⟩
  let R' : Nat → Nat → Bnd := fun b ver => if b ∈ κ then Rd (κ.idxOf b) ver else R b ver
  have hR1 : ∀ i ver, i < κ.length → R' (κ.getD i 0) ver = Rd i ver := fun i ver hi => by
    show (if _ then _ else _) = _
    rw [if_pos (mem_getD hi), idx_getD hh.nodup hi]
  have hR2 : ∀ b ver, b ∉ κ → R' b ver = R b ver := fun b ver hb => if_neg hb
  have hdl : ∀ i ver, Rd i ver ≠ .no → i < κ.length := fun i ver hi => by
    rcases Nat.lt_or_ge i κ.length with h1 | h1
    · exact h1
    · exact absurd (hfr i ver (by rw [hh.len']; exact h1)) hi
  have hR3 : ∀ b ver, R b ver ≠ .no → R' b ver = R b ver := fun b ver hb => by
    by_cases hbk : b ∈ κ
    · obtain ⟨h1, h2⟩ := idx_of hbk
      have h3 := hRc _ ver h1
      rw [h2] at h3
      have h4 := hkeep (κ.idxOf b) ver (by rw [h3]; exact hb)
      have h5 := hR1 _ ver h1
      rw [h2] at h5
      rw [h5, h4, h3]
    · exact hR2 b ver hbk
  have hR4 : ∀ b ver, Rd b ver ≠ .no → R' (κ.getD b 0) ver = Rd b ver := fun b ver hb => hR1 b ver (hdl b ver hb)
  let H' := updH H (κ.zip (h'.map (renB κ)))
  have hH1 : ∀ i, i < κ.length → H' (κ.getD i 0) = renB κ (hv h' i) := fun i hi => by
    have := (updH_zip (H := H) hh.nodup (l := h'.map (renB κ)) (by rw [List.length_map, hh.len']) (κ.getD i 0)).2 i hi rfl
    show updH H _ _ = _
    rw [this]
    unfold hv
    rw [List.getD_eq_getElem?_getD, List.getD_eq_getElem?_getD, List.getElem?_map]
    cases h'[i]? <;> rfl
  have hH2 : ∀ b, b ∉ κ → H' b = H b := fun b hb => (updH_zip (H := H) hh.nodup (l := h'.map (renB κ)) (by rw [List.length_map, hh.len']) b).1 hb
  have hH3 : ∀ b ver t sz cs, b ∈ κ → H' b = some (ver, t, sz, cs) → ∃ i cs', i < κ.length ∧ b = κ.getD i 0 ∧ hv h' i = some (ver, t, sz, cs') ∧ cs = cs'.map (D.ren κ) := fun b ver t sz cs hb hHb => by
    obtain ⟨h1, h2⟩ := idx_of hb
    have h3 := hH1 _ h1
    rw [h2, hHb] at h3
    cases hx : hv h' (κ.idxOf b) with
    | none => rw [hx] at h3; cases h3
    | some x => obtain ⟨v', t', s', c'⟩ := x; rw [hx] at h3; cases h3; exact ⟨_, _, h1, h2.symm, hx, rfl⟩
  -- what is kept
  have hkc : ∀ g, g < w.heap.size → ¬ AOf S R H g → Kc g := fun g hg hA => ⟨hg, by
    rintro ⟨b, ver, t, sz, cs, cap, s, _, h1, h2⟩
    exact hA (.inr ⟨b, ver, t, sz, cs, cap, s, h1, h2⟩)⟩
  have hoth : ∀ b ver t sz cs g cap s, b ∉ κ → H b = some (ver, t, sz, cs) → R b ver = .at g cap s → Kc g := fun b ver t sz cs g cap s hb h1 h2 => ⟨hr.bnd _ _ _ _ _ h2, by
    rintro ⟨b', ver', t', sz', cs', cap', s', hb', h1', h2'⟩
    exact hb ((hr.inj _ _ _ _ _ _ _ _ _ _ _ _ _ _ _ h1 h1' h2 h2') ▸ hb')⟩
  have hnk : ∀ i ver t sz cs g cap s, hv h' i = some (ver, t, sz, cs) → Rd i ver = .at g cap s → ¬ Kc g := fun i ver t sz cs g cap s h1 h2 => by
    exact hrd.own_base h1 h2
  have hAn : ∀ g, g < w.heap.size → ¬ AOf S R H g → ¬ AOf S R' H' g := fun g hg hA hA' => by
    rcases hA' with hS | ⟨b, ver, t, sz, cs, cap, s, h1, h2⟩
    · exact hA (.inl hS)
    · by_cases hb : b ∈ κ
      · obtain ⟨i, cs', hi, rfl, h3, rfl⟩ := hH3 _ _ _ _ _ hb h1
        rw [hR1 i ver hi] at h2
        exact hnk _ _ _ _ _ _ _ _ h3 h2 (hkc g hg hA)
      · rw [hH2 b hb] at h1
        rw [hR2 b ver hb] at h2
        exact hA (.inr ⟨b, ver, t, sz, cs, cap, s, h1, h2⟩)
  have hAin : ∀ g, AOf S R' H' g → AOf Sc Rd (hv h') g := fun g hA' => by
    rcases hA' with hS | ⟨b, ver, t, sz, cs, cap, s, h1, h2⟩
    · exact .inl (.inl hS)
    · by_cases hb : b ∈ κ
      · obtain ⟨i, cs', hi, rfl, h3, rfl⟩ := hH3 _ _ _ _ _ hb h1
        rw [hR1 i ver hi] at h2
        exact .inr ⟨i, ver, t, sz, cs', cap, s, h3, h2⟩
      · rw [hH2 b hb] at h1
        rw [hR2 b ver hb] at h2
        exact .inl (.inr ⟨b, ver, t, sz, cs, cap, s, h1, h2, hb⟩)
  have hkeepC : ∀ g, g < w.heap.size → ¬ AOf S R H g → ¬ AOf S R' H' g ∧ Same w w' g := fun g hg hA =>
    ⟨hAn g hg hA, Same.of_eq (hbel.block g (hkc g hg hA))⟩
  refine hk R' w' v ⟨⟨fun b => ?_, fun b ver t sz cs hb v' hv' => ?_, fun b b' ver ver' t t' sz sz' cs cs' g cap cap' s s' hb hb' h1 h2 => ?_, hr.ext, fun b ver g cap sz h1 => ?_⟩, hrep.ren_out hR4 hAin, hR3, hkeepC, hbel.mono hkap, fun b hb => ?_⟩
  · show BlkRel R' (AOf S R' H') w' w0.keep b (H' b)
    by_cases hb : b ∈ κ
    · obtain ⟨h1, h2⟩ := idx_of hb
      have h3 := hH1 _ h1
      rw [h2] at h3
      rw [h3]
      have hblk := hrd.blk (κ.idxOf b)
      cases hx : hv h' (κ.idxOf b) with
      | none => exact trivial
      | some x =>
        obtain ⟨ver, t, sz, cs⟩ := x
        rw [hx] at hblk
        have hR5 : R' b ver = Rd (κ.idxOf b) ver := by have := hR1 _ ver h1; rwa [h2] at this
        rcases hblk with ⟨p1, p2⟩ | ⟨g, cap, vs, p1, p2, p3, p4, p5, p6, p7⟩ | ⟨g, es, c, kvs, p1, p2, p3, p4, p5, p6, p7⟩
        · exact .inl ⟨hR5.trans p1, by rw [p2]; rfl⟩
        · refine .inr (.inl ⟨g, cap, vs, hR5.trans p1, fun hg => p2 (hkap g hg), p3, p4, p5, by simpa using p6, fun j d hj => ?_⟩)
          rw [List.getElem?_map] at hj
          obtain ⟨d0, hd0, rfl⟩ := Option.map_eq_some_iff.1 hj
          exact (p7 j d0 hd0).ren_out hR4 hAin
        · refine .inr (.inr ⟨g, es, c, kvs.map (D.ren κ), hR5.trans p1, p2, fun hg => p3 (hkap g hg), p4, by rw [p5]; simp [D.ren, rens_map], by simpa using p6, fun j d hj => ?_⟩)
          rw [List.getElem?_map] at hj
          obtain ⟨d0, hd0, rfl⟩ := Option.map_eq_some_iff.1 hj
          exact (p7 j d0 hd0).ren_out hR4 hAin
    · rw [hH2 b hb]
      have hblk := hr.blk b
      cases hx : H b with
      | none => exact trivial
      | some x =>
        obtain ⟨ver, t, sz, cs⟩ := x
        rw [hx] at hblk
        rcases hblk with ⟨p1, p2⟩ | ⟨g, cap, vs, p1, p2, p3, p4, p5, p6, p7⟩ | ⟨g, es, c, kvs, p1, p2, p3, p4, p5, p6, p7⟩
        · exact .inl ⟨(hR2 b ver hb).trans p1, p2⟩
        · exact .inr (.inl ⟨g, cap, vs, (hR2 b ver hb).trans p1, p2, (hbel.block g (hoth _ _ _ _ _ _ _ _ hb hx p1)).trans p3, p4, p5, p6, fun j d hj => (p7 j d hj).mono hR3 hkeepC⟩)
        · exact .inr (.inr ⟨g, es, c, kvs, (hR2 b ver hb).trans p1, p2, p3, (hbel.block g (hoth _ _ _ _ _ _ _ _ hb hx p1)).trans p4, p5, p6, fun j d hj => (p7 j d hj).mono hR3 hkeepC⟩)
  · have hb' : H' b = some (ver, t, sz, cs) := hb
    by_cases hbk : b ∈ κ
    · obtain ⟨i, cs', hi, rfl, h3, rfl⟩ := hH3 _ _ _ _ _ hbk hb'
      rw [hR1 i v' hi]
      exact hrd.vers _ _ _ _ _ h3 v' hv'
    · rw [hH2 b hbk] at hb'
      rw [hR2 b v' hbk]
      exact hr.vers _ _ _ _ _ hb' v' hv'
  · have hb : H' b = some (ver, t, sz, cs) := hb
    have hb' : H' b' = some (ver', t', sz', cs') := hb'
    by_cases hbk : b ∈ κ
    · obtain ⟨i, cs1, hi, rfl, h3, rfl⟩ := hH3 _ _ _ _ _ hbk hb
      rw [hR1 i ver hi] at h1
      by_cases hbk' : b' ∈ κ
      · obtain ⟨i', cs1', hi', rfl, h3', rfl⟩ := hH3 _ _ _ _ _ hbk' hb'
        rw [hR1 i' ver' hi'] at h2
        rw [hrd.inj _ _ _ _ _ _ _ _ _ _ _ _ _ _ _ h3 h3' h1 h2]
      · rw [hH2 b' hbk'] at hb'
        rw [hR2 b' ver' hbk'] at h2
        exact absurd (hoth _ _ _ _ _ _ _ _ hbk' hb' h2) (hnk _ _ _ _ _ _ _ _ h3 h1)
    · rw [hH2 b hbk] at hb
      rw [hR2 b ver hbk] at h1
      by_cases hbk' : b' ∈ κ
      · obtain ⟨i', cs1', hi', rfl, h3', rfl⟩ := hH3 _ _ _ _ _ hbk' hb'
        rw [hR1 i' ver' hi'] at h2
        exact absurd (hoth _ _ _ _ _ _ _ _ hbk hb h1) (hnk _ _ _ _ _ _ _ _ h3' h2)
      · rw [hH2 b' hbk'] at hb'
        rw [hR2 b' ver' hbk'] at h2
        exact hr.inj _ _ _ _ _ _ _ _ _ _ _ _ _ _ _ hb hb' h1 h2
  · by_cases hbk : b ∈ κ
    · have h1 : Rd (κ.idxOf b) ver = .at g cap sz := by have : R' b ver = _ := h1; rwa [show R' b ver = Rd (κ.idxOf b) ver from if_pos hbk] at this
      exact hrd.bnd _ _ _ _ _ h1
    · rw [hR2 b ver hbk] at h1
      exact Nat.lt_of_lt_of_le (hr.bnd _ _ _ _ _ h1) hbel.size
  · have : b ∉ κ := fun hbk => by
      obtain ⟨h1, h2⟩ := idx_of hbk
      have hz : (b, renB κ (hv h' (κ.idxOf b))) ∈ κ.zip (h'.map (renB κ)) := by
        refine List.mem_of_getElem? (i := κ.idxOf b) ?_
        rw [List.getElem?_zip_eq_some]
        refine ⟨?_, ?_⟩
        · rw [List.getElem?_eq_getElem h1]; congr 1; rw [List.getD_eq_getElem?_getD, List.getElem?_eq_getElem h1] at h2; exact h2
        · have h3 : κ.idxOf b < h'.length := by rw [hh.len']; exact h1
          rw [List.getElem?_map, List.getElem?_eq_getElem h3]
          unfold hv
          rw [List.getD_eq_getElem?_getD, List.getElem?_eq_getElem h3]; rfl
      exact hb _ hz
    funext ver
    exact hR2 b ver this
end
end Go.Proofs.YtgimaioeifnajaaGreatDoorK.AI
/-
  The abstract interpreter, part 13: what an operation reads and writes, and that it answers alike wherever those agree.
-/
namespace Go.Proofs.YtgimaioeifnajaaGreatDoorK.AI
open Go.RowKit

section
variable {P : Program} {G : World → Prop} {H H' : Nat → Blk} {nk nk' : Nat} {env env' : Nat → D}

theorem fillD_congr : ∀ (ps : List (Nat × Nat × Opd)) (cs : List D), (∀ x ∈ ps.map (·.2.2), getO env' x = getO env x) → fillD env' cs ps = fillD env cs ps
  | [], _, _ => rfl
  | (off, sz, x) :: l, cs, h => by
    have hx : getO env' x = getO env x := h x (by simp)
    have hl := fun cs => fillD_congr l cs (fun y hy => h y (by simp at hy ⊢; exact .inr hy))
    simp only [fillD, hx, hl]
theorem boundO_congr {d : Nat} {o : Option Opd} (h : ∀ x ∈ o.toList, getO env' x = getO env x) : boundO env' d o = boundO env d o := by
  cases o with
  | none => rfl
  | some x => simp only [boundO, h x (by simp)]
theorem stepF_env {op : IOp} (h : ∀ x ∈ op.opds, getO env' x = getO env x) : stepF env' H nk op = stepF env H nk op := by
  cases op <;> simp only [IOp.opds] at h <;> simp only [stepF]
  case build z ps => rw [fillD_congr ps z h]
  case lit t sz n z ps => rw [fillD_congr ps _ h]
  case slcS x lo hi => rw [h x (by simp), boundO_congr (o := lo) (fun y hy => h y (by simp at hy ⊢; exact .inr (.inl hy)))]; simp only [boundO_congr (env' := env') (env := env) (o := hi) (fun y hy => h y (by simp at hy ⊢; exact .inr (.inr hy)))]
  case slcL sz x lo hi => rw [h x (by simp), boundO_congr (o := lo) (fun y hy => h y (by simp at hy ⊢; exact .inr (.inl hy)))]; simp only [boundO_congr (env' := env') (env := env) (o := hi) (fun y hy => h y (by simp at hy ⊢; exact .inr (.inr hy)))]
  case pick c a b => rw [h c (by simp), h a (by simp), h b (by simp)]
  case mput kn x k y => rw [h x (by simp), h k (by simp), h y (by simp)]
  case mkfn f cs => rw [List.map_congr_left h]
  all_goals (first | rfl | (rename_i x y; rw [h x (by simp), h y (by simp)]; done) | (rename_i x; rw [h x (by simp)]; done) | (rename_i x _; rw [h x (by simp)]; done) | skip)
theorem rowD_foot {sz : Nat} {d : D} {x : Nat × List D × List Nat} (h : rowD H sz d = some x) (hH : ∀ b ∈ x.2.2, H' b = H b) : rowD H' sz d = some x := by
  cases d <;> simp only [rowD] at h ⊢ <;> try exact h
  rename_i b ver off n
  split at h
  · rename_i v t s cs hb
    split at h
    · rename_i hc
      cases h
      rw [hH b (by simp), hb]
      simp only [if_pos hc]
    · cases h
  · cases h
theorem rowD_reads {sz : Nat} {d : D} {x : Nat × List D × List Nat} (h : rowD H sz d = some x) : ∀ b ∈ x.2.2, H b ≠ none := by
  cases d <;> simp only [rowD] at h <;> try (cases h; done)
  · cases h; simp
  · split at h
    · cases h; simp
    · cases h
  · split at h
    · rename_i v t s cs hb
      split at h
      · cases h
        intro b hb'
        simp at hb'
        subst hb'
        rw [hb]
        simp
      · cases h
    · cases h
theorem stepF_foot {op : IOp} {e : Eff} (hs : stepF env H nk op = some e) (hH : ∀ b ∈ e.2.2, H' b = H b) (hn : nk' = nk ∨ ∀ x, (nk, x) ∉ e.2.1) : stepF env H' nk' op = some e := by
  cases op <;> simp only [stepF] at hs ⊢ <;> try exact hs
  case new t sz z =>
    cases hs
    rcases hn with rfl | hn
    · rfl
    · exact absurd (List.mem_singleton.2 rfl) (hn _)
  case box t sz x =>
    split at hs
    · rename_i hc
      cases hs
      rcases hn with rfl | hn
      · rw [if_pos hc]
      · exact absurd (List.mem_singleton.2 rfl) (hn _)
    · cases hs
  case lit t sz n z ps =>
    obtain ⟨cs, hc, rfl⟩ := Option.map_eq_some_iff.1 hs
    rcases hn with rfl | hn
    · rw [hc]; rfl
    · exact absurd (List.mem_singleton.2 rfl) (hn _)
  case load ag sz x =>
    split at hs
    · rename_i b ver off hx
      split at hs
      · rename_i v t s cs hb
        have : H' b = H b := by
          split at hs
          · split at hs
            · split at hs
              · cases hs; exact hH b (by simp)
              · cases hs
            · obtain ⟨d, _, rfl⟩ := Option.map_eq_some_iff.1 hs; exact hH b (by simp)
          · cases hs
        rw [this, hb]
        exact hs
      · cases hs
    · exact hs
    · cases hs
  case store sz x y =>
    split at hs
    · rename_i b ver off hx
      split at hs
      · rename_i v t s cs hb
        split at hs
        · rename_i hc
          cases hs
          rw [hH b (by simp), hb]
          simp only [if_pos hc]
        · cases hs
      · cases hs
    · cases hs
  case iaddrS sz x i =>
    split at hs
    · rename_i b ver off n k' k hx hi
      split at hs
      · rename_i v t s cs hb
        split at hs
        · rename_i hc
          cases hs
          rw [hH b (by simp), hb]
          simp only [if_pos hc]
        · cases hs
      · cases hs
    · exact hs
    · cases hs
  case slcL sz x lo hi =>
    split at hs
    · rename_i b ver off n hx
      have : H' b = H b := by
        obtain ⟨_, _, hs⟩ := Option.bind_eq_some_iff.1 hs
        obtain ⟨_, _, hs⟩ := Option.bind_eq_some_iff.1 hs
        obtain ⟨_, _, hs⟩ := Option.bind_eq_some_iff.1 hs
        split at hs
        · cases hs; exact hH b (by simp)
        · cases hs
      rw [this]
      exact hs
    · exact hs
    · exact hs
    · cases hs
  case make t sz bytes z n =>
    split at hs
    · split at hs
      · rename_i hc
        cases hs
        rcases hn with rfl | hn
        · rw [if_pos hc]
        · exact absurd (List.mem_singleton.2 rfl) (hn _)
      · cases hs
    · cases hs
  case app t sz bytes s x =>
    split at hs
    · rename_i m ds rs hrow
      split at hs
      · rename_i hx
        split at hs
        · rename_i hc
          cases hs
          rw [rowD_foot hrow hH]
          rcases hn with rfl | hn
          · simp only [if_pos hc]
          · exact absurd (List.mem_singleton.2 rfl) (hn _)
        · cases hs
      · rename_i b ver n hx
        split at hs
        · rename_i v t' s' cs hb
          split at hs
          · rename_i hc
            cases hs
            rw [rowD_foot hrow (fun b hb => hH b (List.mem_cons_of_mem _ hb)), hH b (by simp), hb]
            simp only [if_pos hc]
          · rename_i hc0
            split at hs
            · rename_i hc
              cases hs
              rw [rowD_foot hrow (fun b hb => hH b (List.mem_cons_of_mem _ hb)), hH b (by simp), hb]
              simp only [if_neg hc0, if_pos hc]
            · cases hs
        · cases hs
      · cases hs
    · cases hs
  case appZ t sz bytes s x =>
    split at hs
    · split at hs
      · rename_i hc
        cases hs
        rcases hn with rfl | hn
        · simp only [if_pos hc]
        · exact absurd (List.mem_singleton.2 rfl) (hn _)
      · cases hs
    · cases hs
  case bstr x =>
    split at hs
    · rename_i m ds rs hrow
      split at hs
      · rename_i l hl
        cases hs
        rw [rowD_foot hrow hH]
        simp only [hl]
      · cases hs
    · cases hs
  case slcA n sz x =>
    split at hs
    · rename_i b ver off hx
      split at hs
      · rename_i v t s cs hb
        split at hs
        · rename_i hc
          cases hs
          rw [hH b (by simp), hb]
          simp only [if_pos hc]
        · cases hs
      · cases hs
    · exact hs
    · cases hs
  case mkmap t =>
    cases hs
    rcases hn with rfl | hn
    · rfl
    · exact absurd (List.mem_singleton.2 rfl) (hn _)
  case look kn ok z x k =>
    split at hs
    · rename_i hkd
      rw [if_pos hkd]
      split at hs
      · rename_i b ver hx
        split at hs
        · rename_i v t s kvs hb
          split at hs
          · rename_i hv
            obtain ⟨r, hr, rfl⟩ := Option.map_eq_some_iff.1 hs
            rw [hH b (by simp), hb]
            simp only [if_pos hv, hr, Option.map_some]
          · cases hs
        · cases hs
      · exact hs
      · exact hs
      · cases hs
    · cases hs
  case mput kn x k y =>
    split at hs
    · rename_i b ver hx
      split at hs
      · rename_i v t s kvs hb
        split at hs
        · rename_i hc
          obtain ⟨r, hr, rfl⟩ := Option.map_eq_some_iff.1 hs
          rw [hH b (by simp), hb]
          simp only [if_pos hc, hr, Option.map_some]
        · cases hs
      · cases hs
    · cases hs
theorem resD_foot : ∀ (k : Nat) (d : D) (x : D × List Nat), resD H k d = some x → (∀ b ∈ x.2, H' b = H b) → resD H' k d = some x := by
  intro k
  induction k with
  | zero => intro d x h; simp [resD] at h
  | succ k ih =>
    have go : ∀ (cs : List D) (x : List D × List Nat), resD.go H k cs = some x → (∀ b ∈ x.2, H' b = H b) → resD.go H' k cs = some x := by
      intro cs
      induction cs with
      | nil => intro x h _; simpa [resD.go] using h
      | cons c l ihl =>
        intro x h hx
        simp only [resD.go, Option.bind_eq_some_iff, Option.map_eq_some_iff] at h ⊢
        obtain ⟨p, hp, q, hq, rfl⟩ := h
        exact ⟨p, ih c p hp (fun b hb => hx b (List.mem_append.2 (.inl hb))), q, ihl q hq (fun b hb => hx b (List.mem_append.2 (.inr hb))), rfl⟩
    have lst : ∀ (cs : List D) (x : List D × List Nat), resD.resL H k cs = some x → (∀ b ∈ x.2, H' b = H b) → resD.resL H' k cs = some x := by
      intro cs x h hx
      unfold resD.resL at h ⊢
      split at h
      · rename_i hc; rw [if_pos hc]; exact h
      · rename_i hc; rw [if_neg hc]; exact go cs x h hx
    intro d x h hx
    cases d with
    | own b ver off n =>
      simp only [resD] at h ⊢
      split at h
      · rename_i v t sz cs hb
        split at h
        · rename_i hc
          obtain ⟨p, hp, rfl⟩ := Option.map_eq_some_iff.1 h
          rw [hx b (by simp), hb]
          simp only [if_pos hc, lst _ p hp (fun c hc => hx c (List.mem_cons_of_mem _ hc)), Option.map_some]
        · cases h
      · cases h
    | ptr b ver off =>
      simp only [resD] at h ⊢
      split at h
      · rename_i v t sz cs hb
        split at h
        · rename_i hc
          obtain ⟨p, hp, rfl⟩ := Option.map_eq_some_iff.1 h
          rw [hx b (by simp), hb]
          simp only [if_pos hc, lst _ p hp (fun c hc => hx c (List.mem_cons_of_mem _ hc)), Option.map_some]
        · cases h
      · cases h
    | agg cs =>
      simp only [resD] at h ⊢
      obtain ⟨p, hp, rfl⟩ := Option.map_eq_some_iff.1 h
      simp only [lst _ p hp hx, Option.map_some]
    | tup cs =>
      simp only [resD] at h ⊢
      obtain ⟨p, hp, rfl⟩ := Option.map_eq_some_iff.1 h
      simp only [lst _ p hp hx, Option.map_some]
    | fn f cs =>
      simp only [resD] at h ⊢
      obtain ⟨p, hp, rfl⟩ := Option.map_eq_some_iff.1 h
      simp only [lst _ p hp hx, Option.map_some]
    | mo b ver =>
      simp only [resD] at h ⊢
      split at h
      · rename_i v t sz kvs hb
        split at h
        · rename_i hc
          obtain ⟨p, hp, rfl⟩ := Option.map_eq_some_iff.1 h
          rw [hx b (by simp), hb]
          simp only [if_pos hc, lst _ p hp (fun c hc => hx c (List.mem_cons_of_mem _ hc)), Option.map_some]
        · cases h
      · cases h
    | _ => simpa [resD] using h
theorem resD_reads : ∀ (k : Nat) (d : D) (x : D × List Nat), resD H k d = some x → ∀ b ∈ x.2, H b ≠ none := by
  intro k
  induction k with
  | zero => intro d x h; simp [resD] at h
  | succ k ih =>
    have go : ∀ (cs : List D) (x : List D × List Nat), resD.go H k cs = some x → ∀ b ∈ x.2, H b ≠ none := by
      intro cs
      induction cs with
      | nil => intro x h; simp [resD.go] at h; subst h; simp
      | cons c l ihl =>
        intro x h
        simp only [resD.go, Option.bind_eq_some_iff, Option.map_eq_some_iff] at h
        obtain ⟨p, hp, q, hq, rfl⟩ := h
        intro b hb
        rcases List.mem_append.1 hb with hb | hb
        · exact ih c p hp b hb
        · exact ihl q hq b hb
    have lst : ∀ (cs : List D) (x : List D × List Nat), resD.resL H k cs = some x → ∀ b ∈ x.2, H b ≠ none := by
      intro cs x h
      unfold resD.resL at h
      split at h
      · cases h; simp
      · exact go cs x h
    intro d x h
    cases d with
    | own b ver off n =>
      simp only [resD] at h
      split at h
      · rename_i v t sz cs hb
        split at h
        · obtain ⟨p, hp, rfl⟩ := Option.map_eq_some_iff.1 h
          intro c hc
          rcases List.mem_cons.1 hc with rfl | hc
          · rw [hb]; simp
          · exact lst _ p hp c hc
        · cases h
      · cases h
    | ptr b ver off =>
      simp only [resD] at h
      split at h
      · rename_i v t sz cs hb
        split at h
        · obtain ⟨p, hp, rfl⟩ := Option.map_eq_some_iff.1 h
          intro c hc
          rcases List.mem_cons.1 hc with rfl | hc
          · rw [hb]; simp
          · exact lst _ p hp c hc
        · cases h
      · cases h
    | agg cs =>
      simp only [resD] at h
      obtain ⟨p, hp, rfl⟩ := Option.map_eq_some_iff.1 h
      exact lst _ p hp
    | tup cs =>
      simp only [resD] at h
      obtain ⟨p, hp, rfl⟩ := Option.map_eq_some_iff.1 h
      exact lst _ p hp
    | fn f cs =>
      simp only [resD] at h
      obtain ⟨p, hp, rfl⟩ := Option.map_eq_some_iff.1 h
      exact lst _ p hp
    | mo b ver =>
      simp only [resD] at h
      split at h
      · rename_i v t sz kvs hb
        split at h
        · obtain ⟨p, hp, rfl⟩ := Option.map_eq_some_iff.1 h
          intro c hc
          rcases List.mem_cons.1 hc with rfl | hc
          · rw [hb]; simp
          · exact lst _ p hp c hc
        · cases h
      · cases h
    | _ => simp [resD] at h; subst h; simp
theorem resArgs_foot : ∀ (as : List Opd) (x : List D × List Nat), resArgs H env as = some x → (∀ b ∈ x.2, H' b = H b) → (∀ a ∈ as, getO env' a = getO env a) → resArgs H' env' as = some x
  | [], x, h, _, _ => by simpa [resArgs] using h
  | a :: l, x, h, hx, he => by
    simp only [resArgs, Option.bind_eq_some_iff, Option.map_eq_some_iff] at h ⊢
    obtain ⟨p, hp, q, hq, rfl⟩ := h
    exact ⟨p, by rw [he a (by simp)]; exact resD_foot 6 _ p hp (fun b hb => hx b (List.mem_append.2 (.inl hb))), q,
      resArgs_foot l q hq (fun b hb => hx b (List.mem_append.2 (.inr hb))) (fun c hc => he c (List.mem_cons_of_mem _ hc)), rfl⟩
end
end Go.Proofs.YtgimaioeifnajaaGreatDoorK.AI
/-
  The abstract interpreter, part 14: what running an operation, a region, a piece of code asks for (awp).
-/
namespace Go.Proofs.YtgimaioeifnajaaGreatDoorK.AI
open Go.RowKit

def setH (h : List Blk) : List (Nat × Blk) → List Blk
  | [] => h
  | (b, x) :: l => setH (if b < h.length then h.set b x else h ++ List.replicate (b - h.length) none ++ [x]) l
def St.eff (σ : St) (dst : Option Nat) (e : Eff) : St := ⟨putE σ.env dst e.1, setH σ.heap e.2.1⟩
def wantedI (env : Nat → D) : Option (Option Nat × Bool) → Option Bool
  | none => some true
  | some (none, _) => some false
  | some (some t, want) => match env t with
    | .bool b => some (b == want)
    | .tup _ => some false
    | _ => none
def kO (o : Option Eff) (k : Eff → Prop) : Prop := match o with | some e => k e | none => False
def callE (fz : Bool) (r : D) (ks : List Nat) : Eff := (r, (if fz then ks.map fun b => (b, none) else []), ks)
structure CallG (P : Program) (G : World → Prop) (env : Nat → D) (H : Nat → Blk) (nk : Nat) (f : FuncId) (args : List Opd) (κ : List Nat) (xs : List D) (h : List Blk) (r : D) (h' : List Blk) : Prop where
  args : args.map (getO env) = xs.map (D.ren κ)
  scope : ∀ d ∈ xs, kb κ.length d
  handed : Handed H nk κ h h'
  pcg : PCg P G f xs h r h'
abbrev aCall (P : Program) (G : World → Prop) (env : Nat → D) (H : Nat → Blk) (nk : Nat) (f : FuncId) (args : List Opd) (k : Eff → Prop) : Prop :=
  (match resArgs H env args with
    | some p => ∃ r fz, PCr P G f p.1 r ∧ (fz = true ∨ r.flat = true) ∧ k (callE fz r p.2)
    | none => False) ∨ ∃ κ xs h r h', CallG P G env H nk f args κ xs h r h' ∧ k (r.ren κ, κ.zip (h'.map (renB κ)), κ.take h.length)
def aOp (P : Program) (G : World → Prop) (env : Nat → D) (H : Nat → Blk) (nk : Nat) (op : IOp) (k : Eff → Prop) : Prop :=
  match op with
  | .call f args => aCall P G env H nk f args k
  | .dcall x args => ∃ f cs, getO env x = .fn f cs ∧ okF P f = true ∧ aCall P G env H nk f (args ++ cs.map .c) k
  | op => kO (stepF env H nk op) k
abbrev Tr := List (List Nat × List Nat)
def awpOps (P : Program) (G : World → Prop) (K : Tr → St → Prop) : List IOper → Tr → St → Prop
  | [], tr, σ => K tr σ
  | o :: l, tr, σ => match wantedI σ.env o.guard with
    | some true => aOp P G σ.env (hv σ.heap) σ.heap.length o.op fun e => awpOps P G K l ((e.2.1.map (·.1), e.2.2) :: tr) (σ.eff o.dst e)
    | some false => awpOps P G K l (([], []) :: tr) (σ.eff o.dst (.tup [], [], []))
    | none => False
def clash (x y : List Nat × List Nat) : Bool := x.1.any (fun k => y.1.contains k || y.2.contains k) || y.1.any fun k => x.2.contains k
def clear (anc : List Nat) : Tr → Bool
  | [] => true
  | y :: tr => clear anc tr && go anc tr (anc.getD tr.length 0) y
  where go (anc : List Nat) : Tr → Nat → List Nat × List Nat → Bool
  | [], _, _ => true
  | x :: tr, m, y => (!clash x y || m.testBit tr.length) && go anc tr m y

def dstOk (n : Nat) : IR → Bool
  | .reg _ ops _ => ops.all fun o => match o.dst with | some t => decide (t < n) | none => true
  | .seq a b => dstOk n a && dstOk n b
  | .cond _ a b => dstOk n a && dstOk n b
  | .block _ a => dstOk n a
  | .loop a => dstOk n a
  | _ => true
inductive AEx where | normal | exit (id : Nat) | ret
def AEx.then (next : St → Prop) (Q : AEx → St → Prop) : AEx → St → Prop
  | .normal, σ => next σ
  | e, σ => Q e σ
def AEx.inBlock (id : Nat) (Q : AEx → St → Prop) : AEx → St → Prop
  | .exit i, σ => if i = id then Q .normal σ else Q (.exit i) σ
  | e, σ => Q e σ
def Ent (σ σ' : St) : Prop := ∀ (n : Nat) (G : World → Prop) (R : Nat → Nat → Bnd) (S : Nat → Prop) (w0 : Org) (w : World) (a : Act), w0.m ≤ σ'.heap.length → MRel n G R S w0 w (hv σ.heap) a σ.env → (∀ b v, σ.heap.length ≤ b → R b v = .no) →
  ∃ R', MRel n G R' S w0 w (hv σ'.heap) a σ'.env ∧ ∀ b v, σ'.heap.length ≤ b → R' b v = .no
def EntM (m : Nat) (σ σ' : St) : Prop := σ' = σ ∨ (m ≤ σ'.heap.length ∧ Ent σ σ')
def awp (P : Program) (G : World → Prop) (m : Nat) : IR → (AEx → St → Prop) → St → Prop
  | .skip, Q, σ => Q .normal σ
  | .reg false ops _, Q, σ => awpOps P G (fun _ σ => Q .normal σ) ops [] σ
  | .reg true ops anc, Q, σ => awpOps P G (fun tr σ => clear anc tr = true ∧ Q .normal σ) ops [] σ
  | .seq a b, Q, σ => ∃ J : St → Prop, awp P G m a (AEx.then (fun σ2 => ∃ σ3, EntM m σ2 σ3 ∧ J σ3) Q) σ ∧ ∀ σ, J σ → awp P G m b Q σ
  | .cond c a b, Q, σ => match getO σ.env c with
    | .bool t => if t = true then awp P G m a Q σ else awp P G m b Q σ
    | _ => False
  | .block id a, Q, σ => awp P G m a (AEx.inBlock id Q) σ
  | .loop a, Q, σ => ∃ I : Nat → St → Prop, (∃ n σ1, Ent σ σ1 ∧ I n σ1) ∧ (∀ n σ1, I n σ1 → m ≤ σ1.heap.length) ∧ ∀ n σ1, I n σ1 → awp P G m a (AEx.then (fun σ2 => ∃ j σ3, j < n ∧ Ent σ2 σ3 ∧ I j σ3) Q) σ1
  | .exit id, Q, σ => Q (.exit id) σ
  | .ret, Q, σ => Q .ret σ
  | .dead, _, _ => False

def IOp.isCall : IOp → Bool | .call .. | .dcall .. => true | _ => false
def nc (x : Option IOp) : Bool := match x with | some p => !p.isCall | none => true
theorem nc_bind {α : Type} {x : Option α} {g : α → Option IOp} (h : ∀ a, nc (g a) = true) : nc (x.bind g) = true := by
  cases x with
  | none => rfl
  | some a => exact h a
theorem nc_map {α : Type} {x : Option α} {g : α → IOp} (h : ∀ a, (g a).isCall = false) : nc (x.map g) = true := by
  cases x with
  | none => rfl
  | some a => simp [nc, h a]
theorem nc_ite {c : Prop} [Decidable c] {x y : Option IOp} (hx : nc x = true) (hy : nc y = true) : nc (if c then x else y) = true := by
  split
  · exact hx
  · exact hy
theorem nc_zero {P : Program} {t : TypeId} {lo hi : Option Operand} {x : Operand} : nc (compSlice P t x lo hi) = true := by
  unfold compSlice
  repeat' (first | rfl | (apply nc_bind; intro _) | (apply nc_map; intro _) | apply nc_ite | split)
theorem compOp_call {P : Program} {op : Op} {io : IOp} (hcall : io.isCall = true) (h : compOp P op = some io) : ∃ c, op = .call c := by
  by_cases hc : ∃ c, op = .call c
  · exact hc
  · exfalso
    have : nc (compOp P op) = true := by
      cases op <;> try exact absurd ⟨_, rfl⟩ hc
      all_goals unfold compOp
      all_goals repeat' (first | rfl | exact nc_zero | contradiction | (apply nc_bind; intro _) | (apply nc_map; intro _) | apply nc_ite | split)
    rw [h] at this
    simp [nc, hcall] at this
/-! one operation -/
section
variable {P : Program} {G : World → Prop} {H H' : Nat → Blk} {nk nk' n : Nat} {env env' : Nat → D}

abbrev OpC (P : Program) (G : World → Prop) (env : Nat → D) (H : Nat → Blk) (nk : Nat) (f : FuncId) (args : List Opd) (e : Eff) : Prop :=
  (∃ p r fz, resArgs H env args = some p ∧ PCr P G f p.1 r ∧ (fz = true ∨ r.flat = true) ∧ e = callE fz r p.2) ∨ ∃ κ xs h r h', CallG P G env H nk f args κ xs h r h' ∧ e = (r.ren κ, κ.zip (h'.map (renB κ)), κ.take h.length)
def OpE (P : Program) (G : World → Prop) (env : Nat → D) (H : Nat → Blk) (nk : Nat) (op : IOp) (e : Eff) : Prop :=
  match op with
  | .call f args => OpC P G env H nk f args e
  | .dcall x args => ∃ f cs, getO env x = .fn f cs ∧ okF P f = true ∧ OpC P G env H nk f (args ++ cs.map .c) e
  | op => stepF env H nk op = some e
theorem aCall_opC {f : FuncId} {args : List Opd} {k : Eff → Prop} (h : aCall P G env H nk f args k) : ∃ e, OpC P G env H nk f args e ∧ k e := by
  rcases h with h | ⟨κ, xs, h0, r, h', hc, hk⟩
  · split at h
    · rename_i p hp
      obtain ⟨r, fz, hr, hz, hk⟩ := h
      exact ⟨_, .inl ⟨p, r, fz, hp, hr, hz, rfl⟩, hk⟩
    · exact h.elim
  · exact ⟨_, .inr ⟨κ, xs, h0, r, h', hc, rfl⟩, hk⟩
theorem aOp_opE {op : IOp} {k : Eff → Prop} (h : aOp P G env H nk op k) : ∃ e, OpE P G env H nk op e ∧ k e := by
  have gen : ∀ o : Option Eff, kO o k → ∃ e, o = some e ∧ k e := by
    intro o h
    cases o with
    | none => exact h.elim
    | some e => exact ⟨e, rfl, h⟩
  cases op
  case call f args => exact aCall_opC h
  case dcall x args =>
    obtain ⟨f, cs, h1, h2, h⟩ := h
    obtain ⟨e, he, hk⟩ := aCall_opC h
    exact ⟨e, ⟨f, cs, h1, h2, he⟩, hk⟩
  all_goals exact gen _ h
def Does (P : Program) (G : World → Prop) (env : Nat → D) (H : Nat → Blk) (nk : Nat) (io : IOper) (e : Eff) : Prop :=
  (wantedI env io.guard = some true ∧ OpE P G env H nk io.op e) ∨ (wantedI env io.guard = some false ∧ e = (.tup [], [], []))
theorem callE_keys {fz : Bool} {r : D} {ks : List Nat} {b : Nat} {x : Blk} (h : (b, x) ∈ (callE fz r ks).2.1) : b ∈ ks := by
  unfold callE at h
  split at h
  · obtain ⟨c, hc, he⟩ := List.mem_map.1 h; cases he; exact hc
  · simp at h
theorem OpC.foot {f : FuncId} {args : List Opd} {e : Eff} (h : OpC P G env H nk f args e) (he : ∀ x ∈ args, getO env' x = getO env x) (hH : ∀ b ∈ e.2.2, H' b = H b) (hn : nk' = nk ∨ ∀ x, (nk, x) ∉ e.2.1) : OpC P G env' H' nk' f args e := by
  rcases h with ⟨p, r, fz, hp, hr, hz, rfl⟩ | ⟨κ, xs, h0, r, h', hc, rfl⟩
  · exact .inl ⟨p, r, fz, resArgs_foot args p hp hH he, hr, hz, rfl⟩
  · refine .inr ⟨κ, xs, h0, r, h', ⟨?_, hc.scope, ⟨hc.handed.nodup, hc.handed.len, hc.handed.len', hc.handed.kbs, fun i hi => ?_, fun b hb => ?_⟩, hc.pcg⟩, rfl⟩
    · rw [← hc.args]
      exact List.map_congr_left he
    · have hil := Nat.lt_of_lt_of_le hi hc.handed.len
      rw [hH _ (by
        rw [List.getD_eq_getElem?_getD, List.getElem?_eq_getElem hil]
        refine List.mem_of_getElem? (i := i) ?_
        rw [List.getElem?_take, if_pos hi, List.getElem?_eq_getElem hil]; rfl)]
      exact hc.handed.pos i hi
    · rcases hn with rfl | hn
      · exact hc.handed.new b hb
      · exfalso
        have hbk := List.mem_of_mem_drop (hc.handed.new b hb).2
        obtain ⟨h1, h2⟩ := idx_of hbk
        have h3 : κ.idxOf nk < h'.length := by rw [hc.handed.len']; exact h1
        refine hn (renB κ h'[κ.idxOf nk]) (List.mem_of_getElem? (i := κ.idxOf nk) ?_)
        rw [List.getElem?_zip_eq_some]
        refine ⟨?_, ?_⟩
        · rw [List.getElem?_eq_getElem h1]; congr 1; rw [List.getD_eq_getElem?_getD, List.getElem?_eq_getElem h1] at h2; exact h2
        · rw [List.getElem?_map, List.getElem?_eq_getElem h3]; rfl
theorem OpE.foot {op : IOp} {e : Eff} (h : OpE P G env H nk op e) (he : ∀ x ∈ op.opds, getO env' x = getO env x) (hH : ∀ b ∈ e.2.2, H' b = H b) (hn : nk' = nk ∨ ∀ x, (nk, x) ∉ e.2.1) : OpE P G env' H' nk' op e := by
  cases op
  case call f args => exact OpC.foot h he hH hn
  case dcall x args =>
    obtain ⟨f, cs, h1, h2, h⟩ := h
    refine ⟨f, cs, by rw [he x (by simp [IOp.opds])]; exact h1, h2, OpC.foot h (fun y hy => ?_) hH hn⟩
    rcases List.mem_append.1 hy with hy | hy
    · exact he y (List.mem_cons_of_mem _ hy)
    · obtain ⟨c, _, rfl⟩ := List.mem_map.1 hy
      rfl
  all_goals exact stepF_foot (by rw [stepF_env he]; exact h) hH hn
theorem getO_slot {x : Opd} (h : ∀ t, x.slot? = some t → env' t = env t) : getO env' x = getO env x := by
  cases x with
  | t n => exact h n rfl
  | c d => rfl
theorem Does.foot {io : IOper} {e : Eff} (h : Does P G env H nk io e) (he : ∀ t ∈ io.looks, env' t = env t) (hH : ∀ b ∈ e.2.2, H' b = H b) (hn : nk' = nk ∨ ∀ x, (nk, x) ∉ e.2.1) : Does P G env' H' nk' io e := by
  have hw : wantedI env' io.guard = wantedI env io.guard := by
    cases hg : io.guard with
    | none => rfl
    | some p =>
      obtain ⟨t, want⟩ := p
      cases t with
      | none => rfl
      | some t => simp only [wantedI, he t (by simp [IOper.looks, hg])]
  have ho : ∀ x ∈ io.op.opds, getO env' x = getO env x := fun x hx => getO_slot fun t ht => he t (by
    unfold IOper.looks
    exact List.mem_append.2 (.inl (List.mem_filterMap.2 ⟨x, hx, ht⟩)))
  rcases h with ⟨h1, h2⟩ | ⟨h1, rfl⟩
  · exact .inl ⟨hw.trans h1, h2.foot ho hH hn⟩
  · exact .inr ⟨hw.trans h1, rfl⟩

variable {S : Nat → Prop} {w0 : Org} {w : World} {R : Nat → Nat → Bnd}

theorem wanted_of {io : IOper} {o : Oper} {ops : Array Oper} {a : Act} {A : Nat → Prop} {b : Bool} (hc : compOper P ops o = some io) (hs : SRel n R A w a env) (h : wantedI env io.guard = some b) : Region.wanted o (yielded ops a.tmps) = b := by
  obtain ⟨op, hop, rfl⟩ := Option.map_eq_some_iff.1 hc
  simp only at h
  cases hg : o.guard with
  | none => rw [hg] at h; simp [wantedI] at h; subst h; simp [Region.wanted, hg]
  | some p =>
    obtain ⟨j, want⟩ := p
    rw [hg] at h
    simp only [Option.map_some] at h
    cases hd : (ops[j]?).bind (·.dst) with
    | none =>
      rw [hd] at h
      simp [wantedI] at h
      subst h
      have : yielded ops a.tmps j = none := by unfold yielded; rw [hd]; rfl
      simp [Region.wanted, hg, this]
    | some t =>
      rw [hd] at h
      simp only [wantedI] at h
      have hr := hs.rep t
      split at h
      · rename_i b' hb'
        cases h
        rw [hb'] at hr
        have hsz : a.tmps[t]? = some (a.tmps.getD t undef) := by
          rcases Nat.lt_or_ge t a.tmps.size with h1 | h1
          · rw [Array.getD_eq_getD_getElem?, Array.getElem?_eq_getElem h1]; rfl
          · have := hr.bool_inv
            rw [Array.getD_eq_getD_getElem?, Array.getElem?_eq_none h1] at this
            cases this
        have : yielded ops a.tmps j = some b' := by unfold yielded; rw [hd, Option.bind_some, hsz, hr.bool_inv]
        simp only [Region.wanted, hg, this]
        cases b' <;> cases want <;> rfl
      · rename_i l hl
        cases h
        rw [hl] at hr
        obtain ⟨vs, hv, _⟩ := hr.tup_inv
        have : yielded ops a.tmps j = none := by
          unfold yielded
          rw [hd, Option.bind_some]
          rcases Nat.lt_or_ge t a.tmps.size with h1 | h1
          · rw [Array.getD_eq_getD_getElem?, Array.getElem?_eq_getElem h1] at hv
            rw [Array.getElem?_eq_getElem h1]
            simp at hv
            rw [hv]
          · rw [Array.getElem?_eq_none h1]
        simp [Region.wanted, hg, this]
      · cases h
theorem wpOp_does {ops : Array Oper} {i : Nat} {o : Oper} {io : IOper} {e : Eff} {a : Act} {K : Act → World → Prop} {Q : Exit → Act → World → Prop}  (ho : ops[i]? = some o) (hc : compOper P ops o = some io)
    (h : MRel n G R S w0 w H a env) (hd : Does P G env H nk io e) (hf : ∀ v, R nk v = .no) (hfn : ∀ b x, (b, x) ∈ e.2.1 → nk ≤ b → ∀ v, R b v = .no) (hH : H nk = none) (hdn : ∀ t, io.dst = some t → t < n)
    (hk : ∀ R' w' a', MRel n G R' S w0 w' (updH H e.2.1) a' (putE env io.dst e.1) → (∀ b, (∀ x, (b, x) ∉ e.2.1) → R' b = R b) → K a' w') : wpOp P ops Q i K a w := by
  unfold wpOp
  rw [ho]
  simp only
  obtain ⟨op, hop, he⟩ := Option.map_eq_some_iff.1 hc
  have hdst : io.dst = o.dst := by rw [← he]
  have hio : io.op = op := by rw [← he]
  rcases hd with ⟨hw, hd⟩ | ⟨hw, rfl⟩
  · rw [wanted_of hc h.srel hw, if_pos rfl]
    refine .inl ?_
    rw [hio] at hd
    have enter : ∀ f args, OpC P G env H nk f args e → Enters P R (AOf S R H) w (execOp a.eval o) env f args → o.wp P a w K Q := by
      intro f args hd hE
      rcases hd with ⟨p, r, fz, hp, hr, hz, rfl⟩ | ⟨κ, xs, h0, r, h', hg, rfl⟩
      case inr =>
        refine wp_callg h hE hg.args hg.scope hg.handed hg.pcg (fun b hb => ?_) (nk := nk) fun R' w' v hout => ?_
        · obtain ⟨h1, h2⟩ := idx_of (List.mem_of_mem_drop hb)
          have h3 : κ.idxOf b < h'.length := by rw [hg.handed.len']; exact h1
          refine hfn b (renB κ h'[κ.idxOf b]) (List.mem_of_getElem? (i := κ.idxOf b) ?_) (hg.handed.new b hb).1
          rw [List.getElem?_zip_eq_some]
          refine ⟨?_, ?_⟩
          · rw [List.getElem?_eq_getElem h1]; congr 1; rw [List.getD_eq_getElem?_getD, List.getElem?_eq_getElem h1] at h2; exact h2
          · rw [List.getElem?_map, List.getElem?_eq_getElem h3]; rfl
        have := h.out (dst := o.dst) hout (by rw [← hdst]; exact hdn)
        exact hk R' w' _ (by rw [hdst]; exact this) hout.fresh
      refine wp_call h hE hp hr hz (nk := nk) fun w' v hout => ?_
      have := h.out (dst := o.dst) hout (by rw [← hdst]; exact hdn)
      rw [← hdst] at this
      exact hk R w' _ (by rw [hdst] at this ⊢; exact this) (fun _ _ => rfl)
    by_cases hcall : op.isCall = true
    · obtain ⟨c, hoc⟩ := compOp_call hcall hop
      rw [hoc] at hop
      have hcc : compCall P c = some op := hop
      cases op <;> simp [IOp.isCall] at hcall
      case call f args => exact enter f args hd (enters_call hoc hcc h.srel.opds)
      case dcall x args =>
        obtain ⟨f, cs, h1, h2, hd⟩ := hd
        exact enter f _ hd (enters_dcall hoc hcc h.srel.opds h1 h2)
    · have hst : stepF env H nk op = some e := by
        cases op <;> first | exact absurd rfl hcall | exact hd
      refine wp_of_gives (opSound hop h.hrel h.srel.opds hf hH h.kw hst) fun R' w' v hout => ?_
      have := h.out (dst := o.dst) hout (by rw [← hdst]; exact hdn)
      exact hk R' w' _ (by rw [hdst]; exact this) hout.fresh
  · rw [wanted_of hc h.srel hw]
    simp only [Bool.false_eq_true, if_false]
    refine hk R w _ ?_ (fun _ _ => rfl)
    rw [hdst]
    exact ⟨h.hrel, h.srel.put rep_undef o.dst (by rw [← hdst]; exact hdn), h.below, h.kin, h.g, h.gk, h.r0m, h.keepR⟩
end
end Go.Proofs.YtgimaioeifnajaaGreatDoorK.AI
/-
  The abstract interpreter, part 15: regions, in the text's order and in every order.
-/
namespace Go.Proofs.YtgimaioeifnajaaGreatDoorK.AI
open Go.RowKit

/-! lists of blocks -/
theorem hv_set1 (h : List Blk) (b : Nat) (x : Blk) : hv (if b < h.length then h.set b x else h ++ List.replicate (b - h.length) none ++ [x]) = fun c => if c = b then x else hv h c := by
  funext c
  unfold hv
  simp only [List.getD_eq_getElem?_getD]
  split
  · rename_i hb
    rw [List.getElem?_set]
    by_cases e : b = c
    · subst e; simp [hb]
    · rw [if_neg e, if_neg (Ne.symm e)]
  · rename_i hb
    rw [List.append_assoc, List.getElem?_append]
    split
    · rename_i hc
      rw [if_neg (by omega)]
    · rename_i hc
      rw [List.getElem?_append]
      split
      · rename_i hc2
        simp at hc2
        rw [if_neg (by omega), List.getElem?_replicate]
        simp [hc2, List.getElem?_eq_none (show h.length ≤ c by omega)]
      · rename_i hc2
        simp at hc2
        simp only [List.length_replicate]
        by_cases e : c = b
        · subst e; simp
        · rw [if_neg e, List.getElem?_eq_none (by simp; omega), List.getElem?_eq_none (by omega)]
theorem hv_setH : ∀ (ws : List (Nat × Blk)) (h : List Blk), hv (setH h ws) = updH (hv h) ws
  | [], _ => rfl
  | (b, x) :: l, h => by rw [setH, hv_setH l, hv_set1]; rfl
theorem set1_len (h : List Blk) (b : Nat) (x : Blk) : h.length ≤ (if b < h.length then h.set b x else h ++ List.replicate (b - h.length) none ++ [x]).length ∧ b < (if b < h.length then h.set b x else h ++ List.replicate (b - h.length) none ++ [x]).length := by
  split
  · simpa using (by assumption)
  · simp; omega
theorem setH_len : ∀ (ws : List (Nat × Blk)) (h : List Blk), h.length ≤ (setH h ws).length
  | [], _ => Nat.le_refl _
  | (b, x) :: l, h => Nat.le_trans (set1_len h b x).1 (setH_len l _)
theorem setH_key : ∀ (ws : List (Nat × Blk)) (h : List Blk) (b : Nat) (x : Blk), (b, x) ∈ ws → b < (setH h ws).length
  | [], _, _, _, hm => by simp at hm
  | (c, y) :: l, h, b, x, hm => by
    rcases List.mem_cons.1 hm with e | hm
    · cases e; exact Nat.lt_of_lt_of_le (set1_len h c y).2 (setH_len l _)
    · exact setH_key l _ b x hm
def updO : List (Nat × Blk) → Nat → Option Blk
  | [], _ => none
  | (b, x) :: l, c => (updO l c).or (if c = b then some x else none)
theorem updH_updO : ∀ (ws : List (Nat × Blk)) (H : Nat → Blk) (c : Nat), updH H ws c = (updO ws c).getD (H c)
  | [], _, _ => rfl
  | (b, x) :: l, H, c => by
    rw [updH, updH_updO l, updO]
    cases updO l c with
    | some y => rfl
    | none => by_cases e : c = b <;> simp [e]
theorem updO_key : ∀ {ws : List (Nat × Blk)} {c : Nat} {y : Blk}, updO ws c = some y → ∃ x, (c, x) ∈ ws
  | [], _, _, h => by simp [updO] at h
  | (b, x) :: l, c, y, h => by
    rw [updO] at h
    cases hl : updO l c with
    | some z => obtain ⟨x', hx⟩ := updO_key hl; exact ⟨x', List.mem_cons_of_mem _ hx⟩
    | none =>
      rw [hl] at h
      simp at h
      exact ⟨x, by rw [h.1]; exact List.mem_cons_self⟩
theorem updO_none : ∀ {ws : List (Nat × Blk)} {c : Nat}, (∀ x, (c, x) ∉ ws) → updO ws c = none
  | [], _, _ => rfl
  | (b, x) :: l, c, h => by
    rw [updO, updO_none (fun y hy => h y (List.mem_cons_of_mem _ hy)), if_neg (fun e => h x (by rw [e]; exact List.mem_cons_self))]
    rfl

/-! what the text's order gives -/
def Chain (P : Program) (G : World → Prop) : List (IOper × Eff) → St → St → Prop
  | [], σ, σ' => σ = σ'
  | (o, e) :: l, σ, σ' => Does P G σ.env (hv σ.heap) σ.heap.length o e ∧ Chain P G l (σ.eff o.dst e) σ'
def trOf : List (IOper × Eff) → Tr → Tr
  | [], tr => tr
  | (_, e) :: l, tr => trOf l ((e.2.1.map (·.1), e.2.2) :: tr)
theorem awpOps_chain {P : Program} {G : World → Prop} {K : Tr → St → Prop} : ∀ (l : List IOper) (tr : Tr) (σ : St), awpOps P G K l tr σ → ∃ rs σ', rs.map (·.1) = l ∧ Chain P G rs σ σ' ∧ K (trOf rs tr) σ'
  | [], tr, σ, h => ⟨[], σ, rfl, rfl, h⟩
  | o :: l, tr, σ, h => by
    simp only [awpOps] at h
    split at h
    · rename_i hw
      obtain ⟨e, he, hk⟩ := aOp_opE h
      obtain ⟨rs, σ', hl, hc, hk⟩ := awpOps_chain l _ _ hk
      exact ⟨(o, e) :: rs, σ', by simp [hl], ⟨.inl ⟨hw, he⟩, hc⟩, hk⟩
    · rename_i hw
      obtain ⟨rs, σ', hl, hc, hk⟩ := awpOps_chain l _ _ h
      exact ⟨(o, (.tup [], [], [])) :: rs, σ', by simp [hl], ⟨.inr ⟨hw, rfl⟩, hc⟩, hk⟩
    · exact h.elim
def cut : List (IOper × Eff) → Nat → St → St
  | (o, e) :: l, i + 1, σ => cut l i (σ.eff o.dst e)
  | _, _, σ => σ
section
variable {P : Program} {G : World → Prop}
theorem cut_zero (rs : List (IOper × Eff)) (σ : St) : cut rs 0 σ = σ := by cases rs <;> rfl
theorem Chain.cut_end : ∀ {rs : List (IOper × Eff)} {σ σ' : St}, Chain P G rs σ σ' → cut rs rs.length σ = σ'
  | [], _, _, h => h
  | (o, e) :: l, _, _, h => Chain.cut_end (rs := l) h.2
theorem Chain.does : ∀ {rs : List (IOper × Eff)} {σ σ' : St}, Chain P G rs σ σ' → ∀ i o e, rs[i]? = some (o, e) → Does P G (cut rs i σ).env (hv (cut rs i σ).heap) (cut rs i σ).heap.length o e ∧ ∀ b x, (b, x) ∈ e.2.1 → b < (cut rs (i + 1) σ).heap.length
  | [], _, _, _, i, o, e, hi => by simp at hi
  | (o', e') :: l, σ, _, h, i, o, e, hi => by
    cases i with
    | zero =>
      simp at hi
      obtain ⟨rfl, rfl⟩ := hi
      refine ⟨h.1, fun b x hx => ?_⟩
      show b < (cut l 0 _).heap.length
      rw [cut_zero]
      exact setH_key _ _ b x hx
    | succ i => exact Chain.does h.2 i o e (by simpa using hi)
theorem cut_mono1 : ∀ (rs : List (IOper × Eff)) (i : Nat) (σ : St), (cut rs i σ).heap.length ≤ (cut rs (i + 1) σ).heap.length
  | [], _, _ => Nat.le_refl _
  | (o, e) :: l, 0, σ => by show σ.heap.length ≤ (cut l 0 _).heap.length; rw [cut_zero]; exact setH_len _ _
  | (o, e) :: l, i + 1, σ => cut_mono1 l i _
theorem cut_mono (rs : List (IOper × Eff)) (σ : St) {i j : Nat} (h : i ≤ j) : (cut rs i σ).heap.length ≤ (cut rs j σ).heap.length := by
  induction j with
  | zero => have : i = 0 := by omega
            rw [this]; exact Nat.le_refl _
  | succ j ih =>
    by_cases e : i = j + 1
    · rw [e]; exact Nat.le_refl _
    · exact Nat.le_trans (ih (by omega)) (cut_mono1 rs j σ)
theorem Chain.mono {rs : List (IOper × Eff)} {σ σ' : St} (h : Chain P G rs σ σ') : σ.heap.length ≤ σ'.heap.length := by
  have := cut_mono rs σ (Nat.zero_le rs.length)
  rwa [cut_zero, h.cut_end] at this
end

/-! the value at one place, some operations done -/
def val {V : Type} (Dn : Nat → Bool) : Nat → List (Option V) → V → V
  | _, [], x => x
  | j, w :: l, x => val Dn (j + 1) l (if Dn j then w.getD x else x)
theorem val_congr {V : Type} {Dn Dn' : Nat → Bool} : ∀ (l : List (Option V)) (j : Nat) (x : V), (∀ k v, l[k]? = some (some v) → Dn (j + k) = Dn' (j + k)) → val Dn j l x = val Dn' j l x
  | [], _, _, _ => rfl
  | w :: l, j, x, h => by
    rw [val, val]
    have : (if Dn j = true then w.getD x else x) = if Dn' j = true then w.getD x else x := by
      cases w with
      | none => simp
      | some v => rw [show Dn j = Dn' j from h 0 v rfl]
    rw [this]
    exact val_congr l (j + 1) _ fun k v hk => by have := h (k + 1) v (by simpa using hk); rwa [show j + (k + 1) = j + 1 + k by omega] at this
theorem val_none {V : Type} {Dn : Nat → Bool} : ∀ (l : List (Option V)) (j : Nat) (x : V), (∀ k v, l[k]? = some (some v) → Dn (j + k) = false) → val Dn j l x = x
  | [], _, _, _ => rfl
  | w :: l, j, x, h => by
    rw [val]
    have : (if Dn j = true then w.getD x else x) = x := by
      cases w with
      | none => simp
      | some v => rw [show Dn j = false from h 0 v rfl]; rfl
    rw [this]
    exact val_none l (j + 1) _ fun k v hk => by have := h (k + 1) v (by simpa using hk); rwa [show j + (k + 1) = j + 1 + k by omega] at this
theorem val_put {V : Type} {Dn Dn' : Nat → Bool} : ∀ (l : List (Option V)) (i j : Nat) (x : V) (w : Option V), l[i]? = some w → Dn (j + i) = false → Dn' (j + i) = true → (∀ k, k ≠ i → Dn' (j + k) = Dn (j + k)) →
    (∀ u, w = some u → ∀ k v, i < k → l[k]? = some (some v) → Dn (j + k) = false) → val Dn' j l x = w.getD (val Dn j l x)
  | [], i, _, _, _, h, _, _, _, _ => by simp at h
  | w' :: l, 0, j, x, w, h, h1, h2, h3, h4 => by
    simp at h
    subst h
    rw [val, val]
    simp only [Nat.add_zero] at h1 h2
    rw [h1, h2]
    simp only [if_true, Bool.false_eq_true, if_false]
    have later : ∀ k, Dn' (j + 1 + k) = Dn (j + 1 + k) := fun k => by have := h3 (k + 1) (by omega); rwa [show j + (k + 1) = j + 1 + k by omega] at this
    cases w' with
    | none => exact val_congr l _ _ fun k v _ => later k
    | some u =>
      exact val_none l _ _ fun k v hk => by
        rw [later]
        have := h4 u rfl (k + 1) v (by omega) (by simpa using hk)
        rwa [show j + (k + 1) = j + 1 + k by omega] at this
  | w' :: l, i + 1, j, x, w, h, h1, h2, h3, h4 => by
    rw [val, val]
    have e0 : Dn' j = Dn j := h3 0 (by omega)
    rw [e0]
    refine val_put l i (j + 1) _ w (by simpa using h) (by rwa [show j + 1 + i = j + (i + 1) by omega]) (by rwa [show j + 1 + i = j + (i + 1) by omega]) (fun k hk => ?_) fun u hu k v hik hk => ?_
    · have := h3 (k + 1) (by omega); rwa [show j + (k + 1) = j + 1 + k by omega] at this
    · have := h4 u hu (k + 1) v (by omega) (by simpa using hk); rwa [show j + (k + 1) = j + 1 + k by omega] at this
def pre (i k : Nat) : Bool := decide (k < i)
def wE (t : Nat) (r : IOper × Eff) : Option D := if r.1.dst = some t then some r.2.1 else none
def wH (b : Nat) (r : IOper × Eff) : Option Blk := updO r.2.2.1 b
theorem putE_get {env : Nat → D} {dst : Option Nat} {d : D} {t : Nat} : putE env dst d t = (if dst = some t then some d else none).getD (env t) := by
  unfold putE
  split <;> rfl
theorem val_cut {V : Type} (f : St → V) (wr : IOper × Eff → Option V) (h : ∀ σ o e, f (σ.eff o.dst e) = (wr (o, e)).getD (f σ)) : ∀ (rs : List (IOper × Eff)) (i j : Nat) (σ : St),
    f (cut rs i σ) = val (pre (j + i)) j (rs.map wr) (f σ)
  | [], _, _, _ => rfl
  | (o, e) :: l, 0, j, σ => by
    rw [cut_zero, val_none]
    intro k v _
    simp [pre]
  | (o, e) :: l, i + 1, j, σ => by
    have := val_cut f wr h l i (j + 1) (σ.eff o.dst e)
    rw [cut, this, List.map_cons, val, show pre (j + (i + 1)) j = true by simp [pre], if_pos rfl, h, show j + 1 + i = j + (i + 1) by omega]
theorem cut_envAt {rs : List (IOper × Eff)} {i t : Nat} {σ : St} : (cut rs i σ).env t = val (pre i) 0 (rs.map (wE t)) (σ.env t) := by
  have := val_cut (fun σ => σ.env t) (wE t) (fun σ o e => putE_get) rs i 0 σ
  simpa using this
theorem cut_heapAt {rs : List (IOper × Eff)} {i b : Nat} {σ : St} : hv (cut rs i σ).heap b = val (pre i) 0 (rs.map (wH b)) (hv σ.heap b) := by
  have := val_cut (fun σ => hv σ.heap b) (wH b) (fun σ o e => by show hv (setH σ.heap e.2.1) b = _; rw [hv_setH, updH_updO]; rfl) rs i 0 σ
  simpa using this
end Go.Proofs.YtgimaioeifnajaaGreatDoorK.AI
/-
  The abstract interpreter, part 16: regions run, in the text's order and in every order.
-/
namespace Go.Proofs.YtgimaioeifnajaaGreatDoorK.AI
open Go.RowKit

section
variable {P : Program} {G : World → Prop} {S : Nat → Prop} {w0 : Org} {ops : Array Oper} {n : Nat}

theorem compOpers_get : ∀ {l : List Oper} {ios : List IOper}, compOpers P ops l = some ios → ios.length = l.length ∧ ∀ (i : Nat) io, ios[i]? = some io → ∃ o, l[i]? = some o ∧ compOper P ops o = some io
  | [], ios, h => by simp [compOpers] at h; subst h; simp
  | o :: l, ios, h => by
    simp only [compOpers, Option.bind_eq_some_iff, Option.some.injEq] at h
    obtain ⟨p, hp, r, hr, rfl⟩ := h
    obtain ⟨hl, hg⟩ := compOpers_get hr
    refine ⟨by simp [hl], fun i io hi => ?_⟩
    cases i with
    | zero => simp at hi; subst hi; exact ⟨o, rfl, hp⟩
    | succ i => simpa using hg i io (by simpa using hi)

theorem seq_ops  {Q : Exit → Act → World → Prop} : ∀ (rs : List (IOper × Eff)) (i : Nat) (σ σ' : St) (R : Nat → Nat → Bnd) (a : Act) (w : World), Chain P G rs σ σ' →
    (∀ k io e, rs[k]? = some (io, e) → ∃ o, ops[i + k]? = some o ∧ compOper P ops o = some io) → (∀ r ∈ rs, ∀ t, r.1.dst = some t → t < n) → MRel n G R S w0 w (hv σ.heap) a σ.env → (∀ b v, σ.heap.length ≤ b → R b v = .no) →
    (∀ R' w' a', MRel n G R' S w0 w' (hv σ'.heap) a' σ'.env → (∀ b v, σ'.heap.length ≤ b → R' b v = .no) → Q .normal a' w') → wpOps P ops Q (List.range' i rs.length) a w
  | [], i, σ, σ', R, a, w, hc, _, _, hm, hf, hQ => by
    cases hc
    exact hQ R w a hm hf
  | (io, e) :: l, i, σ, σ', R, a, w, hc, ho, hd, hm, hf, hQ => by
    rw [List.length_cons, List.range'_succ, wpOps_cons]
    obtain ⟨o, ho1, ho2⟩ := ho 0 io e rfl
    refine wpOp_does (by simpa using ho1) ho2 hm hc.1 (fun v => hf _ v (Nat.le_refl _)) (fun b _ _ hb v => hf b v hb) (hv_ge (Nat.le_refl _)) (hd _ List.mem_cons_self) fun R' w' a' hm' hR' => ?_
    refine seq_ops l (i + 1) (σ.eff io.dst e) σ' R' a' w' hc.2 (fun k io' e' hk => ?_) ?_ ?_ (fun b v hb => ?_) hQ
    · have := ho (k + 1) io' e' (by simpa using hk)
      rwa [show i + (k + 1) = i + 1 + k by omega] at this
    · exact fun r hr => hd r (List.mem_cons_of_mem _ hr)
    · show MRel n G R' S w0 w' (hv (setH σ.heap e.2.1)) a' (putE σ.env io.dst e.1)
      rw [hv_setH]
      exact hm'
    · have hb1 : (setH σ.heap e.2.1).length ≤ b := hb
      rw [hR' b (fun x hx => absurd (setH_key _ σ.heap b x hx) (by omega))]
      exact hf b v (Nat.le_trans (setH_len _ _) hb1)

/-! every order -/
theorem trOf_app : ∀ (rs : List (IOper × Eff)) (tr : Tr), trOf rs tr = (rs.map fun r => (r.2.2.1.map (·.1), r.2.2.2)).reverse ++ tr
  | [], _ => rfl
  | (o, e) :: l, tr => by rw [trOf, trOf_app l]; simp
theorem clear_go : ∀ {anc tr m y}, clear.go anc tr m y = true → ∀ i x, tr.reverse[i]? = some x → clash x y = true → m.testBit i = true := by
  intro anc tr m y
  induction tr with
  | nil => intro _ i x hx; simp at hx
  | cons z l ih =>
    intro h i x hx hc
    simp only [clear.go, Bool.and_eq_true, Bool.or_eq_true, Bool.not_eq_true'] at h
    rw [List.reverse_cons, List.getElem?_append] at hx
    split at hx
    · exact ih h.2 i x hx hc
    · rename_i hi
      simp at hi
      have hi2 : i = l.length := by
        have := (List.getElem?_eq_some_iff.1 hx).1
        simp at this
        omega
      subst hi2
      simp at hx
      subst hx
      rcases h.1 with h1 | h1
      · rw [hc] at h1; cases h1
      · exact h1
theorem clear_at : ∀ {anc tr}, clear anc tr = true → ∀ i j x y, i < j → tr.reverse[i]? = some x → tr.reverse[j]? = some y → clash x y = true → (anc.getD j 0).testBit i = true := by
  intro anc tr
  induction tr with
  | nil => intro _ i j x y _ hx; simp at hx
  | cons z l ih =>
    intro h i j x y hij hx hy hc
    simp only [clear, Bool.and_eq_true] at h
    have hj : j ≤ l.length := by
      have := (List.getElem?_eq_some_iff.1 hy).1
      simp at this
      omega
    rw [List.reverse_cons, List.getElem?_append_left (by simp; omega)] at hx
    by_cases e : j = l.length
    · subst e
      rw [List.reverse_cons, List.getElem?_append_right (by simp)] at hy
      simp at hy
      subst hy
      exact clear_go h.2 i x hx hc
    · rw [List.reverse_cons, List.getElem?_append_left (by simp; omega)] at hy
      exact ih h.1 i j x y hij hx hy hc
theorem clash_wr {x y : List Nat × List Nat} {k : Nat} (h : k ∈ x.1) (hy : k ∈ y.1 ∨ k ∈ y.2) : clash x y = true := by
  unfold clash
  rw [Bool.or_eq_true]
  refine .inl (List.any_eq_true.2 ⟨k, h, ?_⟩)
  rcases hy with hy | hy <;> simp [hy]
theorem clash_rd {x y : List Nat × List Nat} {k : Nat} (h : k ∈ x.2) (hy : k ∈ y.1) : clash x y = true := by
  unfold clash
  rw [Bool.or_eq_true]
  exact .inr (List.any_eq_true.2 ⟨k, hy, by simp [h]⟩)
theorem apart_spec {x y : IOper} (h : apart x y = true) : (∀ d, x.dst = some d → d ∉ y.looks) ∧ (∀ d, x.dst = some d → y.dst ≠ some d) ∧ (∀ d, y.dst = some d → d ∉ x.looks) := by
  refine ⟨fun d hd => ?_, fun d hd => ?_, fun d hd => ?_⟩ <;> simp [apart, hd] at h
  · exact h.1.1
  · exact h.1.2
  · exact h.2
def undone : List Bool → Nat
  | [] => 0
  | b :: l => (if b then 0 else 1) + undone l
theorem undone_zero : ∀ {l : List Bool}, undone l = 0 → ∀ i : Nat, i < l.length → l[i]? = some true
  | [], _, i, hi => by simp at hi
  | b :: l, h, i, hi => by
    simp only [undone] at h
    cases b with
    | false => simp at h
    | true =>
      cases i with
      | zero => rfl
      | succ i => simpa using undone_zero (l := l) (by simpa using h) i (by simpa using hi)
theorem undone_set : ∀ {l : List Bool} {i : Nat}, l[i]? = some false → undone (l.set i true) + 1 = undone l
  | [], i, h => by simp at h
  | b :: l, 0, h => by
    simp at h
    subst h
    simp [undone]
    omega
  | b :: l, i + 1, h => by
    have := undone_set (l := l) (i := i) (by simpa using h)
    simp only [List.set_cons_succ, undone]
    omega
theorem undone_all (n : Nat) : undone (List.replicate n false) = n := by
  induction n with
  | zero => rfl
  | succ n ih => rw [List.replicate_succ, undone, ih]; simp; omega
theorem anc_done {es : List (List Nat)} {anc : List Nat} (hok : edgesOk es anc = true) {Dn : Nat → Bool} (hcl : ∀ i, i < es.length → Dn i = true → ∀ e ∈ es.getD i [], Dn e = true) :
    ∀ i, i < es.length → (∀ e ∈ es.getD i [], Dn e = true) → ∀ j, j < es.length → (anc.getD i 0).testBit j = true → Dn j = true := by
  intro i
  induction i using Nat.strongRecOn with
  | _ i ih =>
    intro hi he j hj hb
    unfold edgesOk at hok
    have h1 := List.all_eq_true.1 hok i (List.mem_range.2 hi)
    simp only [Bool.and_eq_true] at h1
    have h2 := List.all_eq_true.1 h1.2 j (List.mem_range.2 hj)
    rw [hb] at h2
    simp only [Bool.not_true, Bool.false_or] at h2
    obtain ⟨e, hem, h3⟩ := List.any_eq_true.1 h2
    rcases Bool.or_eq_true _ _ ▸ h3 with h3 | h3
    · have : e = j := by simpa using h3
      subst this
      exact he e hem
    · have hlt : e < i := by simpa using List.all_eq_true.1 h1.1 e hem
      exact ih e hlt (by omega) (hcl e (by omega) (he e hem)) j hj h3
theorem edges_lt {es : List (List Nat)} {anc : List Nat} (hok : edgesOk es anc = true) {i : Nat} (hi : i < es.length) {e : Nat} (he : e ∈ es.getD i []) : e < i := by
  unfold edgesOk at hok
  have h1 := List.all_eq_true.1 hok i (List.mem_range.2 hi)
  simp only [Bool.and_eq_true] at h1
  simpa using List.all_eq_true.1 h1.1 e he
theorem edges_get {i : Nat} {o : Oper} (h : ops[i]? = some o) (e : Nat) : e ∈ (edges ops).getD i [] ↔ ∃ x ∈ o.after, Region.binds .any x = true ∧ x.on = e := by
  have : (edges ops).getD i [] = (o.after.toList.filter (Region.binds .any)).map (·.on) := by
    unfold edges
    have h' : ops.toList[i]? = some o := by simpa using h
    rw [List.getD_eq_getElem?_getD, List.getElem?_map, h']
    rfl
  rw [this]
  simp only [List.mem_map, List.mem_filter, Array.mem_toList_iff]
  constructor
  · rintro ⟨x, ⟨h1, h2⟩, h3⟩; exact ⟨x, h1, h2, h3⟩
  · rintro ⟨x, h1, h2, h3⟩; exact ⟨x, ⟨h1, h2⟩, h3⟩
end
theorem slots_at {ios : List IOper} {anc : List Nat} (h : slotsOk ios anc = true) {i j : Nat} {x y : IOper} (hij : i < j) (hx : ios[i]? = some x) (hy : ios[j]? = some y) : (anc.getD j 0).testBit i = true ∨ apart x y = true := by
  unfold slotsOk at h
  have h1 := List.all_eq_true.1 h j (List.mem_range.2 (List.getElem?_eq_some_iff.1 hy).1)
  have h2 := List.all_eq_true.1 h1 i (List.mem_range.2 hij)
  rw [hx, hy] at h2
  simpa using h2
theorem getD_set1 {l : Array Bool} {i k : Nat} (hi : i < l.size) : (l.setIfInBounds i true).getD k false = if k = i then true else l.getD k false := by
  rw [Array.getD_eq_getD_getElem?, Array.getD_eq_getD_getElem?, Array.getElem?_setIfInBounds]
  by_cases e : i = k
  · subst e; simp [hi]
  · rw [if_neg e, if_neg (Ne.symm e)]
theorem wE_get {rs : List (IOper × Eff)} {t k : Nat} {v : D} (h : (rs.map (wE t))[k]? = some (some v)) : ∃ o e, rs[k]? = some (o, e) ∧ o.dst = some t := by
  rw [List.getElem?_map] at h
  cases hr : rs[k]? with
  | none => rw [hr] at h; cases h
  | some r =>
    obtain ⟨o, e⟩ := r
    rw [hr] at h
    simp only [Option.map_some, Option.some.injEq, wE] at h
    split at h
    · exact ⟨o, e, rfl, by assumption⟩
    · cases h
theorem wH_get {rs : List (IOper × Eff)} {b k : Nat} {v : Blk} (h : (rs.map (wH b))[k]? = some (some v)) : ∃ o e x, rs[k]? = some (o, e) ∧ (b, x) ∈ e.2.1 := by
  rw [List.getElem?_map] at h
  cases hr : rs[k]? with
  | none => rw [hr] at h; cases h
  | some r =>
    obtain ⟨o, e⟩ := r
    rw [hr] at h
    simp only [Option.map_some, Option.some.injEq, wH] at h
    obtain ⟨x, hx⟩ := updO_key h
    exact ⟨o, e, x, rfl, hx⟩
section
variable {P : Program} {G : World → Prop} {S : Nat → Prop} {w0 : Org} {ops : Array Oper} {n : Nat}
def runE (rs : List (IOper × Eff)) (σ : St) (Dn : Nat → Bool) (t : Nat) : D := val Dn 0 (rs.map (wE t)) (σ.env t)
def runH (rs : List (IOper × Eff)) (σ : St) (Dn : Nat → Bool) (b : Nat) : Blk := val Dn 0 (rs.map (wH b)) (hv σ.heap b)

theorem any_ops  {Q : Exit → Act → World → Prop} {ios : List IOper} {rs : List (IOper × Eff)} {σ σ' : St} {anc : List Nat} (hcomp : compOpers P ops ops.toList = some ios) (hrs : rs.map (·.1) = ios) (hch : Chain P G rs σ σ')
    (hok : edgesOk (edges ops) anc = true) (hsl : slotsOk ios anc = true) (hcl : clear anc (trOf rs []) = true) (hdst : ∀ r ∈ rs, ∀ t, r.1.dst = some t → t < n)
    (hQ : ∀ R' w' a', MRel n G R' S w0 w' (hv σ'.heap) a' σ'.env → (∀ b v, σ'.heap.length ≤ b → R' b v = .no) → Q .normal a' w') :
    ∀ (fuel : Nat) (listed : Array Bool) (R : Nat → Nat → Bnd) (a : Act) (w : World), listed.size = ops.size → undone listed.toList ≤ fuel →
      (∀ i, i < ops.size → listed.getD i false = true → ∀ e ∈ (edges ops).getD i [], listed.getD e false = true) →
      MRel n G R S w0 w (runH rs σ (listed.getD · false)) a (runE rs σ (listed.getD · false)) →
      (∀ b v, σ.heap.length ≤ b → (∀ (j : Nat) (o : IOper) (e : Eff) (x : Blk), rs[j]? = some (o, e) → listed.getD j false = true → (b, x) ∉ e.2.1) → R b v = .no) → wpAny P .any ops Q fuel listed a w := by
  have hrl : rs.length = ops.size := by
    have := (compOpers_get hcomp).1
    rw [← hrs] at this
    simpa using this
  have hes : (edges ops).length = ops.size := by simp [edges]
  have hget : ∀ (k : Nat) (io : IOper) (e : Eff), rs[k]? = some (io, e) → ios[k]? = some io := fun k io e h => by rw [← hrs, List.getElem?_map, h]; rfl
  have htr : ∀ (k : Nat) (io : IOper) (e : Eff), rs[k]? = some (io, e) → (trOf rs []).reverse[k]? = some (e.2.1.map (·.1), e.2.2) := fun k io e h => by rw [trOf_app]; simp [h]
  have hlen : ∀ i, i ≤ ops.size → (cut rs i σ).heap.length ≤ σ'.heap.length := fun i hi => by rw [← hch.cut_end, hrl]; exact cut_mono rs σ hi
  have hlen0 : ∀ i, σ.heap.length ≤ (cut rs i σ).heap.length := fun i => by
    have := cut_mono rs σ (Nat.zero_le i)
    rwa [cut_zero] at this
  -- all done
  have fin : ∀ (listed : Array Bool) (R : Nat → Nat → Bnd) (a : Act) (w : World), (∀ i, i < ops.size → listed.getD i false = true) → MRel n G R S w0 w (runH rs σ (listed.getD · false)) a (runE rs σ (listed.getD · false)) →
      (∀ b v, σ.heap.length ≤ b → (∀ (j : Nat) (o : IOper) (e : Eff) (x : Blk), rs[j]? = some (o, e) → listed.getD j false = true → (b, x) ∉ e.2.1) → R b v = .no) → Q .normal a w := by
    intro listed R a w hall hm hf
    have hpre : ∀ {V : Type} (l : List (Option V)) (x : V), l.length = rs.length → val (listed.getD · false) 0 l x = val (pre rs.length) 0 l x := fun l x hl => val_congr l 0 x fun k v hk => by
      have hk1 : k < rs.length := by rw [← hl]; exact (List.getElem?_eq_some_iff.1 hk).1
      rw [Nat.zero_add]
      simp only [pre, hk1, decide_true]
      exact hall k (by omega)
    have hH : runH rs σ (listed.getD · false) = hv σ'.heap := by
      funext b
      rw [← hch.cut_end, cut_heapAt]
      exact hpre _ _ (by simp)
    have hE : runE rs σ (listed.getD · false) = σ'.env := by
      funext t
      rw [← hch.cut_end, cut_envAt]
      exact hpre _ _ (by simp)
    rw [hH, hE] at hm
    refine hQ R w a hm (fun b v hb => hf b v (by have := hlen0 rs.length; rw [hch.cut_end] at this; omega) fun j o e x hj _ hx => ?_)
    have h1 := (hch.does j o e hj).2 b x hx
    have h2 := hlen (j + 1) (by rw [← hrl]; exact (List.getElem?_eq_some_iff.1 hj).1)
    omega
  intro fuel
  induction fuel with
  | zero =>
    intro listed R a w hsz hu _ hm hf
    have hall : ∀ i, i < ops.size → listed.getD i false = true := fun i hi => by
      have := undone_zero (l := listed.toList) (by omega) i (by simpa [hsz] using hi)
      rw [Array.getD_eq_getD_getElem?]
      simp at this
      rw [this]
      rfl
    refine ⟨?_, fin listed R a w hall hm hf⟩
    cases hr : Region.ready .any ops listed with
    | nil => rfl
    | cons i l =>
      have hi : i ∈ Region.ready .any ops listed := by rw [hr]; exact List.mem_cons_self
      obtain ⟨h1, o, ho, _⟩ := mem_ready.1 hi
      have hlt := (Array.getElem?_eq_some_iff.1 ho).1
      have h2 := hall i hlt
      rw [Array.getD_eq_getD_getElem?] at h1 h2
      cases hx : listed[i]? with
      | none => rw [hx] at h2; cases h2
      | some b => rw [hx] at h1 h2; simp at h1 h2; rw [h1] at h2; cases h2
  | succ fuel ih =>
    intro listed R a w hsz hu hclo hm hf
    refine ⟨fun hr => ?_, fun i hi => ?_⟩
    · refine fin listed R a w (fun i => ?_) hm hf
      induction i using Nat.strongRecOn with
      | _ i ihi =>
        intro hlt
        cases hd : listed.getD i false with
        | true => rfl
        | false =>
          exfalso
          have : i ∈ Region.ready .any ops listed := mem_ready.2 ⟨by
            rw [Array.getD_eq_getD_getElem?] at hd ⊢
            rw [Array.getElem?_eq_getElem (by omega)] at hd ⊢
            exact hd, ops[i], by simp [hlt], fun e he hb => by
            have hm : e.on ∈ (edges ops).getD i [] := (edges_get (by simp [hlt]) _).2 ⟨e, he, hb, rfl⟩
            exact ihi e.on (edges_lt hok (by omega) hm) (Nat.lt_trans (edges_lt hok (by omega) hm) hlt)⟩
          rw [hr] at this
          simp at this
    · obtain ⟨hun, o, ho, hed⟩ := mem_ready.1 hi
      have hlt : i < ops.size := (Array.getElem?_eq_some_iff.1 ho).1
      have hDi : listed.getD i false = false := by
        rw [Array.getD_eq_getD_getElem?] at hun ⊢
        rw [Array.getElem?_eq_getElem (by omega)] at hun ⊢
        exact hun
      obtain ⟨⟨io, e⟩, hri⟩ : ∃ r, rs[i]? = some r := ⟨rs[i]'(by omega), List.getElem?_eq_getElem (by omega)⟩
      obtain ⟨o', ho', hc⟩ := (compOpers_get hcomp).2 i io (hget i io e hri)
      have : o' = o := by simp at ho'; rw [ho] at ho'; exact (Option.some.inj ho').symm
      subst this
      have hclo' : ∀ j, j < (edges ops).length → listed.getD j false = true → ∀ e ∈ (edges ops).getD j [], listed.getD e false = true := fun j hj => hclo j (by omega)
      have hedi : ∀ e ∈ (edges ops).getD i [], listed.getD e false = true := fun e he => by
        obtain ⟨x, hx, hb, rfl⟩ := (edges_get ho e).1 he
        exact hed x hx hb
      have ord : ∀ k, k < ops.size → k ≠ i → (k < i → (anc.getD i 0).testBit k = true) → (i < k → (anc.getD k 0).testBit i = true) → listed.getD k false = pre i k := fun k hk hne h1 h2 => by
        rcases Nat.lt_or_ge k i with hlt' | hge
        · rw [show pre i k = true by simp [pre, hlt']]
          exact anc_done hok hclo' i (by omega) hedi k (by omega) (h1 hlt')
        · rw [show pre i k = false by simp [pre]; omega]
          cases hd : listed.getD k false with
          | false => rfl
          | true =>
            have := anc_done hok hclo' k (by omega) (hclo k hk hd) i (by omega) (h2 (by omega))
            rw [hDi] at this
            cases this
      have slot : ∀ (k : Nat) (ok : IOper) (ek : Eff) (t : Nat), rs[k]? = some (ok, ek) → ok.dst = some t → (t ∈ io.looks ∨ io.dst = some t) → listed.getD k false = pre i k := fun k ok ek t hk hdk ht => by
        by_cases hne : k = i
        · subst hne; rw [hDi]; simp [pre]
        · refine ord k (by rw [← hrl]; exact (List.getElem?_eq_some_iff.1 hk).1) hne (fun hki => ?_) (fun hik => ?_)
          · rcases slots_at hsl hki (hget k ok ek hk) (hget i io e hri) with h | h
            · exact h
            · obtain ⟨h1, h2, h3⟩ := apart_spec h
              rcases ht with ht | ht
              · exact absurd ht (h1 t hdk)
              · exact absurd ht (h2 t hdk)
          · rcases slots_at hsl hik (hget i io e hri) (hget k ok ek hk) with h | h
            · exact h
            · obtain ⟨h1, h2, h3⟩ := apart_spec h
              rcases ht with ht | ht
              · exact absurd ht (h3 t hdk)
              · exact absurd hdk (h2 t ht)
      have heap : ∀ (k : Nat) (ok : IOper) (ek : Eff) (b : Nat) (x : Blk), rs[k]? = some (ok, ek) → (b, x) ∈ ek.2.1 → (b ∈ e.2.2 ∨ ∃ x', (b, x') ∈ e.2.1) → listed.getD k false = pre i k := fun k ok ek b x hk hbk hb => by
        have hbk' : b ∈ ek.2.1.map (·.1) := List.mem_map.2 ⟨_, hbk, rfl⟩
        by_cases hne : k = i
        · subst hne; rw [hDi]; simp [pre]
        · refine ord k (by rw [← hrl]; exact (List.getElem?_eq_some_iff.1 hk).1) hne (fun hki => ?_) (fun hik => ?_)
          · refine clear_at hcl k i _ _ hki (htr k ok ek hk) (htr i io e hri) (clash_wr hbk' ?_)
            rcases hb with hb | ⟨x', hb⟩
            · exact .inr hb
            · exact .inl (List.mem_map.2 ⟨_, hb, rfl⟩)
          · refine clear_at hcl i k _ _ hik (htr i io e hri) (htr k ok ek hk) ?_
            rcases hb with hb | ⟨x', hb⟩
            · exact clash_rd hb hbk'
            · exact clash_wr (List.mem_map.2 ⟨_, hb, rfl⟩) (.inl hbk')
      obtain ⟨hdo, hkeys⟩ := hch.does i io e hri
      -- the key that is free
      obtain ⟨nk, hnk, hnkl, hnk0, hfree, hnone⟩ : ∃ nk, (nk = (cut rs i σ).heap.length ∨ ∀ x, ((cut rs i σ).heap.length, x) ∉ e.2.1) ∧ (cut rs i σ).heap.length ≤ nk ∧ σ.heap.length ≤ nk ∧ (∀ (j : Nat) (o : IOper) (e : Eff) (x : Blk), rs[j]? = some (o, e) → listed.getD j false = true → (nk, x) ∉ e.2.1) ∧ runH rs σ (listed.getD · false) nk = none := by
        by_cases hal : ∃ x, ((cut rs i σ).heap.length, x) ∈ e.2.1
        · obtain ⟨x0, hal⟩ := hal
          have hdn : ∀ (j : Nat) (o : IOper) (e' : Eff) (x : Blk), rs[j]? = some (o, e') → ((cut rs i σ).heap.length, x) ∈ e'.2.1 → listed.getD j false = pre i j := fun j o e' x hj hx => heap j o e' _ x hj hx (.inr ⟨x0, hal⟩)
          refine ⟨_, .inl rfl, Nat.le_refl _, hlen0 i, fun j o e' x hj hd hx => ?_, ?_⟩
          · have h1 := hdn j o e' x hj hx
            rw [hd] at h1
            have h2 : j < i := by simpa [pre] using h1.symm
            have h3 := (hch.does j o e' hj).2 _ x hx
            have h4 := cut_mono rs σ (show j + 1 ≤ i by omega)
            omega
          · rw [runH, val_congr (Dn' := pre i) _ 0 _ (fun k v hk => by
              obtain ⟨ok, ek, x, h1, h2⟩ := wH_get hk
              rw [Nat.zero_add]
              exact hdn k ok ek x h1 h2), ← cut_heapAt]
            exact hv_ge (Nat.le_refl _)
        · have hno : ∀ (j : Nat) (o : IOper) (e' : Eff) (x : Blk), rs[j]? = some (o, e') → (σ'.heap.length, x) ∉ e'.2.1 := fun j o e' x hj hx => by
            have h1 := (hch.does j o e' hj).2 _ x hx
            have h2 := hlen (j + 1) (by rw [← hrl]; exact (List.getElem?_eq_some_iff.1 hj).1)
            omega
          have h0 : σ.heap.length ≤ σ'.heap.length := by have := hlen0 rs.length; rwa [hch.cut_end] at this
          refine ⟨σ'.heap.length, .inr (fun x hx => hal ⟨x, hx⟩), hlen i (by omega), h0, fun j o e' x hj _ => hno j o e' x hj, ?_⟩
          rw [runH, val_none]
          · exact hv_ge h0
          · intro k v hk
            obtain ⟨ok, ek, x, h1, h2⟩ := wH_get hk
            exact absurd h2 (hno k ok ek x h1)
      have hdoes : Does P G (runE rs σ (listed.getD · false)) (runH rs σ (listed.getD · false)) nk io e := by
        refine hdo.foot (fun t ht => ?_) (fun b hb => ?_) hnk
        · rw [cut_envAt]
          refine val_congr _ 0 _ fun k v hk => ?_
          obtain ⟨ok, ek, h1, h2⟩ := wE_get hk
          rw [Nat.zero_add]
          exact slot k ok ek t h1 h2 (.inl ht)
        · rw [cut_heapAt]
          refine val_congr _ 0 _ fun k v hk => ?_
          obtain ⟨ok, ek, x, h1, h2⟩ := wH_get hk
          rw [Nat.zero_add]
          exact heap k ok ek b x h1 h2 (.inl hb)
      have hset : ∀ k, (listed.setIfInBounds i true).getD k false = if k = i then true else listed.getD k false := fun k => getD_set1 (by omega)
      have hfn : ∀ b x, (b, x) ∈ e.2.1 → nk ≤ b → ∀ v, R b v = .no := fun b x hbx hb v => hf b v (by omega) fun j o' e' x' hj hd hx => by
        have h1 := heap j o' e' b x' hj hx (.inr ⟨x, hbx⟩)
        rw [hd] at h1
        have h2 : j < i := by simpa [pre] using h1.symm
        have h3 := (hch.does j o' e' hj).2 _ x' hx
        have h4 := cut_mono rs σ (show j + 1 ≤ i by omega)
        omega
      refine wpOp_does ho hc hm hdoes (fun v => hf nk v hnk0 hfree) hfn hnone (hdst _ (List.mem_of_getElem? hri)) fun R' w' a' hm' hR' => ?_
      refine ih (listed.setIfInBounds i true) R' a' w' (by simpa using hsz) ?_ ?_ ?_ ?_
      · have h1 : listed.toList[i]? = some false := by
          rw [Array.getD_eq_getD_getElem?] at hun
          rw [Array.getElem?_eq_getElem (by omega)] at hun
          rw [Array.getElem?_toList, Array.getElem?_eq_getElem (by omega)]
          simpa using hun
        have := undone_set h1
        rw [Array.toList_setIfInBounds]
        omega
      · intro j hj hd x hx
        simp only [hset] at hd ⊢
        by_cases hji : j = i
        · subst hji
          rw [hedi x hx]; simp
        · rw [if_neg hji] at hd
          rw [hclo j hj hd x hx]; simp
      · have hH' : updH (runH rs σ (listed.getD · false)) e.2.1 = runH rs σ ((listed.setIfInBounds i true).getD · false) := by
          funext b
          rw [updH_updO]
          symm
          refine val_put (rs.map (wH b)) i 0 _ (updO e.2.1 b) (by rw [List.getElem?_map, hri]; rfl) (by rw [Nat.zero_add]; exact hDi) (by simp [hset]) (fun k hk => by simp only [Nat.zero_add, hset, if_neg hk]) (fun u hu k v hik hk => ?_)
          obtain ⟨ok, ek, x, h1, h2⟩ := wH_get hk
          rw [Nat.zero_add, heap k ok ek b x h1 h2 (.inr (updO_key hu))]
          simp [pre]; omega
        rw [hH'] at hm'
        have hE' : putE (runE rs σ (listed.getD · false)) io.dst e.1 = runE rs σ ((listed.setIfInBounds i true).getD · false) := ?_
        · rw [hE'] at hm'
          exact hm'
        funext t
        rw [putE_get]
        symm
        refine val_put (rs.map (wE t)) i 0 _ _ (by rw [List.getElem?_map, hri]; rfl) (by rw [Nat.zero_add]; exact hDi) (by simp [hset]) (fun k hk => by simp only [Nat.zero_add, hset, if_neg hk]) (fun u hu k v hik hk => ?_)
        obtain ⟨ok, ek, h1, h2⟩ := wE_get hk
        rw [Nat.zero_add, slot k ok ek t h1 h2 (.inr (by
          split at hu
          · assumption
          · cases hu))]
        simp [pre]; omega
      · intro b v hb hno
        rw [hR' b (fun x hx => hno i io e x hri (by simp [hset]) hx)]
        refine hf b v hb fun j o' e' x hj hd hx => hno j o' e' x hj ?_ hx
        rw [hset]
        split
        · rfl
        · exact hd
end
end Go.Proofs.YtgimaioeifnajaaGreatDoorK.AI
/-
  The abstract interpreter, part 17: code, loops, functions.
-/
namespace Go.Proofs.YtgimaioeifnajaaGreatDoorK.AI
open Go.RowKit

def AEx.ex : AEx → Exit
  | .normal => .normal
  | .exit id => .exit id
  | .ret => .ret
section
variable {P : Program} {G : World → Prop} {S : Nat → Prop} {w0 : Org} {n : Nat}

def MR (n : Nat) (G : World → Prop) (S : Nat → Prop) (w0 : Org) (σ : St) (a : Act) (w : World) : Prop := w0.m ≤ σ.heap.length ∧ ∃ R, MRel n G R S w0 w (hv σ.heap) a σ.env ∧ ∀ b v, σ.heap.length ≤ b → R b v = .no
def Post (n : Nat) (G : World → Prop) (S : Nat → Prop) (w0 : Org) (Q : AEx → St → Prop) (e : Exit) (a : Act) (w : World) : Prop := ∃ ae σ, e = ae.ex ∧ Q ae σ ∧ MR n G S w0 σ a w
theorem Ent.mr {σ σ' : St} {a : Act} {w : World} (h : Ent σ σ') (hl : w0.m ≤ σ'.heap.length) (hm : MR n G S w0 σ a w) : MR n G S w0 σ' a w := by
  obtain ⟨_, R, hm, hf⟩ := hm
  exact ⟨hl, h n G R S w0 w a hl hm hf⟩
theorem Post.then {Q : AEx → St → Prop} {next : St → Prop} {K : Act → World → Prop} (hk : ∀ σ a w, next σ → MR n G S w0 σ a w → K a w) {e : Exit} {a : Act} {w : World} (h : Post n G S w0 (AEx.then next Q) e a w) : Exit.then K (Post n G S w0 Q) e a w := by
  obtain ⟨ae, σ, rfl, hq, hm⟩ := h
  cases ae with
  | normal => exact hk σ a w hq hm
  | exit id => exact ⟨.exit id, σ, rfl, hq, hm⟩
  | ret => exact ⟨.ret, σ, rfl, hq, hm⟩
theorem Post.inBlock {Q : AEx → St → Prop} {id : Nat} {e : Exit} {a : Act} {w : World} (h : Post n G S w0 (AEx.inBlock id Q) e a w) : Exit.inBlock id (Post n G S w0 Q) e a w := by
  obtain ⟨ae, σ, rfl, hq, hm⟩ := h
  cases ae with
  | normal => exact ⟨.normal, σ, rfl, hq, hm⟩
  | exit i =>
    simp only [AEx.ex, Exit.inBlock]
    simp only [AEx.inBlock] at hq
    split
    · rename_i e; rw [if_pos e] at hq; exact ⟨.normal, σ, rfl, hq, hm⟩
    · rename_i e; rw [if_neg e] at hq; exact ⟨.exit i, σ, rfl, hq, hm⟩
  | ret => exact ⟨.ret, σ, rfl, hq, hm⟩
theorem MRel.draw {R : Nat → Nat → Bnd} {w : World} {H : Nat → Blk} {a : Act} {env : Nat → D} (h : MRel n G R S w0 w H a env) (m : Nat) : MRel n G R S w0 { w with drawn := m } H a env := by
  have hb : ∀ B, Below B w { w with drawn := m } := fun B => ⟨rfl, rfl, rfl, Nat.le_refl _, fun _ _ => rfl⟩
  exact ⟨h.hrel.below (hb _), h.srel.mono (fun _ _ _ => rfl) (fun g hg hA => ⟨hA, Same.of_eq rfl⟩), h.below.trans (.of (hb w.heap.size) h.kw), h.kin, h.gk _ (h.below.trans (.of (hb w.heap.size) h.kw)), h.gk, h.r0m, h.keepR⟩
theorem wp_loop_ix {c : Code} {Q : Exit → Act → World → Prop} {a : Act} {w : World} (J : Nat → Act → World → Prop) {n : Nat} (h0 : J n a w) (round : ∀ n a w, J n a w → c.wp P (Exit.then (fun a w => ∃ m, m < n ∧ J m a w) Q) a w) : (Code.loop c).wp P Q a w := by
  intro b k cs
  have key : ∀ n a w, J n a w → ∃ e a' w', Q e a' w' ∧ Arrives P (lone (b.at a (.code c :: .inLoop c :: k)) cs w) b k cs e a' w' := by
    intro n
    induction n using Nat.strongRecOn with
    | _ n ih =>
      intro a w hI
      obtain ⟨e, a1, w1, hq, harr⟩ := round n a w hI b (.inLoop c :: k) cs
      cases e with
      | normal =>
        obtain ⟨m, hlt, hI1⟩ := hq
        obtain ⟨e2, a2, w2, hq2, harr2⟩ := ih m hlt a1 w1 hI1
        exact ⟨e2, a2, w2, hq2, .of_steps (Steps.trans harr (.one step_inLoop)) harr2⟩
      | exit id => exact ⟨_, a1, w1, hq, .pass (x := .inLoop c) rfl (fun _ _ => .inl (by simp)) harr⟩
      | goto l => exact ⟨_, a1, w1, hq, .pass (x := .inLoop c) rfl (fun _ _ => .inl (by simp)) harr⟩
      | ret => exact ⟨_, a1, w1, hq, .pass (x := .inLoop c) rfl (fun _ _ => .inl (by simp)) harr⟩
      | panic ch => exact ⟨_, a1, w1, hq, .pass (x := .inLoop c) rfl (fun _ _ => .inl (by simp)) harr⟩
      | outgrown => exact ⟨_, a1, w1, hq, .pass (x := .inLoop c) rfl (fun _ _ => .inl (by simp)) harr⟩
  obtain ⟨e, a', w', hq, harr⟩ := key _ a w h0
  exact ⟨e, a', w', hq, .of_steps (.one step_loop) harr⟩

theorem dst_ok {ops : List IOper} {d : Bool} {anc : List Nat} {rs : List (IOper × Eff)} (h : dstOk n (.reg d ops anc) = true) (hr : rs.map (·.1) = ops) : ∀ r ∈ rs, ∀ t, r.1.dst = some t → t < n := fun r hm t ht => by
  have h1 := List.all_eq_true.1 h r.1 (by rw [← hr]; exact List.mem_map.2 ⟨r, hm, rfl⟩)
  rw [ht] at h1
  simpa using h1
theorem awp_sound  : ∀ (c : Code) (ir : IR) (Q : AEx → St → Prop) (σ : St) (a : Act) (w : World), comp P c = some ir → dstOk n ir = true → awp P G w0.m ir Q σ → MR n G S w0 σ a w → c.wp P (Post n G S w0 Q) a w
  | .skip, ir, Q, σ, a, w, hc, hd, h, hm => by
    simp only [comp, Option.some.injEq] at hc
    subst hc
    exact wp_skip ⟨.normal, σ, rfl, h, hm⟩
  | .region id ops draw, ir, Q, σ, a, w, hc, hd, h, hm => by
    simp only [comp] at hc
    split at hc
    case h_2 =>
      split at hc
      · cases hc; exact h.elim
      · cases hc
    rename_i r hreg
    cases hc
    obtain ⟨l, hl, hc⟩ := Option.bind_eq_some_iff.1 hreg
    obtain ⟨hml, R, hm, hf⟩ := hm
    cases draw with
    | false =>
      simp only [Bool.false_eq_true, if_false, Option.some.injEq] at hc
      subst hc
      simp only [awp] at h
      obtain ⟨rs, σ', hrs, hch, hk⟩ := awpOps_chain l [] σ h
      have hget := compOpers_get hl
      have hlen : ops.size = rs.length := by rw [← hrs] at hget; simpa using hget.1.symm
      refine wp_region ?_
      rw [hlen, List.range_eq_range']
      refine seq_ops rs 0 σ σ' R a w hch (fun k io e hk => ?_) (dst_ok hd hrs) hm hf fun R' w' a' hm' hf' => ⟨.normal, σ', rfl, hk, Nat.le_trans hml hch.mono, R', hm', hf'⟩
      obtain ⟨o, h1, h2⟩ := hget.2 k io (by rw [← hrs, List.getElem?_map, hk]; rfl)
      exact ⟨o, by rw [Nat.zero_add]; simpa using h1, h2⟩
    | true =>
      simp only [if_true] at hc
      split at hc
      · rename_i hok
        cases hc
        simp only [awp] at h
        obtain ⟨rs, σ', hrs, hch, hcl, hk⟩ := awpOps_chain l [] σ h
        refine wp_region_any hok.1 ?_
        have hD : ∀ k, (Array.replicate ops.size false).getD k false = false := fun k => by
          rw [Array.getD_eq_getD_getElem?, Array.getElem?_replicate]
          split <;> rfl
        refine any_ops hl hrs hch hok.2.1 hok.2.2 hcl (dst_ok hd hrs) (fun R' w' a' hm' hf' => ⟨.normal, σ', rfl, hk, Nat.le_trans hml hch.mono, R', hm', hf'⟩) ops.size _ R a _ (by simp) (by rw [Array.toList_replicate, undone_all]; exact Nat.le_refl _) (fun i _ h => by rw [hD] at h; cases h) ?_ (fun b v hb _ => hf b v hb)
        have hH : runH rs σ ((Array.replicate ops.size false).getD · false) = hv σ.heap := by
          funext b
          exact val_none _ 0 _ fun k v _ => hD _
        have hE : runE rs σ ((Array.replicate ops.size false).getD · false) = σ.env := by
          funext t
          exact val_none _ 0 _ fun k v _ => hD _
        rw [hH, hE]
        exact hm.draw _
      · cases hc
  | .seq x y, ir, Q, σ, a, w, hc, hd, h, hm => by
    simp only [comp, Option.bind_eq_some_iff, Option.map_eq_some_iff] at hc
    obtain ⟨ix, hx, iy, hy, rfl⟩ := hc
    simp only [dstOk, Bool.and_eq_true] at hd
    obtain ⟨J, h, hb⟩ := h
    refine wp_seq (wp_mono (awp_sound x ix _ σ a w hx hd.1 h hm) fun e a w h => Post.then (fun σ a w hn hm => ?_) h)
    obtain ⟨σ3, he, hj⟩ := hn
    refine awp_sound y iy Q σ3 a w hy hd.2 (hb σ3 hj) ?_
    rcases he with rfl | ⟨hl, he⟩
    · exact hm
    · exact he.mr hl hm
  | .cond c x y, ir, Q, σ, a, w, hc, hd, h, hm => by
    simp only [comp, Option.bind_eq_some_iff, Option.map_eq_some_iff] at hc
    obtain ⟨co, hco, ix, hx, iy, hy, rfl⟩ := hc
    simp only [dstOk, Bool.and_eq_true] at hd
    simp only [awp] at h
    split at h
    · rename_i t ht
      obtain ⟨_, R, hm1, hf⟩ := id hm
      have hv := hm1.srel.opds c co hco
      rw [ht] at hv
      refine wp_cond_split hv.bool_inv (fun e => ?_) (fun e => ?_)
      · subst e; rw [if_pos rfl] at h; exact awp_sound x ix Q σ a w hx hd.1 h hm
      · subst e; rw [if_neg (by simp)] at h; exact awp_sound y iy Q σ a w hy hd.2 h hm
    · exact h.elim
  | .block id x, ir, Q, σ, a, w, hc, hd, h, hm => by
    simp only [comp, Option.map_eq_some_iff] at hc
    obtain ⟨ix, hx, rfl⟩ := hc
    exact wp_block (wp_mono (awp_sound x ix _ σ a w hx hd h hm) fun e a w h => Post.inBlock h)
  | .loop x, ir, Q, σ, a, w, hc, hd, h, hm => by
    simp only [comp, Option.map_eq_some_iff] at hc
    obtain ⟨ix, hx, rfl⟩ := hc
    simp only [awp] at h
    obtain ⟨I, ⟨n0, σ1, hent, hI⟩, hlen, round⟩ := h
    refine wp_loop_ix (fun k a w => ∃ σ, I k σ ∧ MR n G S w0 σ a w) ⟨σ1, hI, hent.mr (hlen _ _ hI) hm⟩ fun k a w ⟨σ2, hI2, hm2⟩ => ?_
    refine wp_mono (awp_sound x ix _ σ2 a w hx hd (round k σ2 hI2) hm2) fun e a w h => Post.then (fun σ a w hn hm => ?_) h
    obtain ⟨m, σ3, hlt, hent, hI3⟩ := hn
    exact ⟨m, hlt, σ3, hI3, hent.mr (hlen _ _ hI3) hm⟩
  | .exit id, ir, Q, σ, a, w, hc, hd, h, hm => by
    simp only [comp, Option.some.injEq] at hc
    subst hc
    exact wp_exit ⟨.exit id, σ, rfl, h, hm⟩
  | .ret, ir, Q, σ, a, w, hc, hd, h, hm => by
    simp only [comp, Option.some.injEq] at hc
    subst hc
    exact wp_ret ⟨.ret, σ, rfl, h, hm⟩
  | .scope _, ir, Q, σ, a, w, hc, hd, h, hm => by simp [comp] at hc
  | .goto _, ir, Q, σ, a, w, hc, hd, h, hm => by simp [comp] at hc
  | .label _, ir, Q, σ, a, w, hc, hd, h, hm => by simp [comp] at hc

/-! functions -/
inductive RV where
  | tmp (t : Nat)
  | cell (a : Nat) (ag : Bool) (sz : Nat)
def compRes (P : Program) : List ResultVar → Option (List RV)
  | [] => some []
  | .tmp t :: l => (compRes P l).map (.tmp t :: ·)
  | .cell a t :: l => (aggT P t).bind fun ag => (sizeT P t).bind fun s => (compRes P l).map (.cell a ag s :: ·)
def ldD (H : Nat → Blk) (ag : Bool) (sz : Nat) : D → Option D
  | .ptr b ver off => match H b with
    | some (v, _, _, cs) => if v = ver then (if ag then (if off + sz ≤ cs.length then some (.agg ((cs.drop off).take sz)) else none) else cs[off]?) else none
    | none => none
  | _ => none
def rvD (H : Nat → Blk) (env : Nat → D) : RV → Option D
  | .tmp t => some (env t)
  | .cell a ag sz => ldD H ag sz (env a)
def rvDs (H : Nat → Blk) (env : Nat → D) : List RV → Option (List D)
  | [] => some []
  | x :: l => (rvD H env x).bind fun d => (rvDs H env l).map (d :: ·)
def one? : List D → D
  | [d] => d
  | ds => .tup ds
def Res (rv : List RV) (r : D) (e : AEx) (σ : St) : Prop := (match e with | .exit _ => False | _ => True) ∧ ∃ ks, ((rvDs (hv σ.heap) σ.env rv).bind fun ds => resD (hv σ.heap) 6 (one? ds)) = some (r, ks)
def ini (xs : List D) (t : Nat) : D := xs.getD t (.tup [])
def st0 (xs : List D) : St := ⟨ini xs, []⟩
def resSem (tmps : Array Value) : ResultVar → Sem Value
  | .tmp t => pure (tmps.getD t undef)
  | .cell a t => do loadVar t (← asAddr (tmps.getD a undef))
section
variable {R : Nat → Nat → Bnd} {base : Nat → Prop} {w : World} {H : Nat → Blk}
theorem run_ld {t : TypeId} {ag : Bool} {s : Nat} {v : Value} {d0 d : D} (hr : HRel R S base w H) (hg : aggT P t = some ag) (hs : sizeT P t = some s) (h1 : Rep R (AOf S R H) w v d0) (hd : ldD H ag s d0 = some d) :
    ∃ a u, v = .pointer (some a) ∧ (loadVar t a).run P w = .ok u w ∧ Rep R (AOf S R H) w u d := by
  cases d0 <;> simp only [ldD] at hd <;> try cases hd
  rename_i b ver off
  split at hd
  · rename_i ver' t' s' cs hH
    split at hd
    · rename_i hvv
      subst hvv
      obtain ⟨g, cap, sz, hR, h0s, e⟩ := h1.ptr_inv
      obtain ⟨vs, _, _, hw, _, _, hl, h⟩ := hr.at hH hR h0s
      cases ag with
      | false =>
        simp only [Bool.false_eq_true, if_false] at hd
        have hlt : off < vs.size := by have := (List.getElem?_eq_some_iff.1 hd).1; omega
        have : cellv w g off = some (vs.getD off undef) := by rw [cellv_of_block hw, getD_some hlt]
        exact ⟨_, _, e, run_load_cell hg this, h _ _ hd⟩
      | true =>
        simp only [if_true] at hd
        split at hd
        · rename_i hc
          cases hd
          have hus : ((vs.toList.drop off).take s).length = s := by simp; omega
          have hcell : ∀ j v, ((vs.toList.drop off).take s)[j]? = some v → cellv w g (off + j) = some v := fun j v hj => by
            rw [List.getElem?_take] at hj
            split at hj
            · rw [List.getElem?_drop] at hj
              rw [cellv_of_block hw]
              simpa using hj
            · cases hj
          have hs' : sizeT P t = some ((vs.toList.drop off).take s).length := by rw [hus]; exact hs
          refine ⟨_, _, e, run_load_agg hg hs' hcell, rep_agg_of (by simp; omega) (fun j d hj => ?_)⟩
          rw [List.getElem?_take] at hj
          split at hj
          · rename_i hjs
            rw [List.getElem?_drop] at hj
            have := h _ _ hj
            have e2 : ((vs.toList.drop off).take s).getD j undef = vs.getD (off + j) undef := by
              rw [List.getD_eq_getElem?_getD, List.getElem?_take, if_pos hjs, List.getElem?_drop, Array.getD_eq_getD_getElem?]
              simp
            rw [List.getD_eq_getElem?_getD] at e2 ⊢
            simp only [Array.getD_eq_getD_getElem?, List.getElem?_toArray] at *
            rw [e2]
            exact this
          · cases hj
        · cases hd
    · cases hd
  · cases hd
theorem run_rv {a : Act} {env : Nat → D} {x : ResultVar} {rv : RV} {d : D} (hr : HRel R S base w H) (hs : SRel n R (AOf S R H) w a env) (hx : compRes P [x] = some [rv]) (hd : rvD H env rv = some d) :
    ∃ u, (resSem a.tmps x).run P w = .ok u w ∧ Rep R (AOf S R H) w u d := by
  cases x with
  | tmp t =>
    simp [compRes] at hx
    subst hx
    simp [rvD] at hd
    subst hd
    exact ⟨_, rfl, by simpa using hs.rep t⟩
  | cell c t =>
    simp only [compRes, Option.bind_eq_some_iff, Option.map_some, Option.some.injEq, List.cons.injEq, and_true] at hx
    obtain ⟨ag, hg, s, hsz, rfl⟩ := hx
    obtain ⟨ad, u, e, hrun, hrep⟩ := run_ld hr hg hsz (hs.rep c) hd
    refine ⟨u, ?_, hrep⟩
    simp only [resSem, e, asAddr]
    exact hrun
theorem compRes_cons {x : ResultVar} {l : List ResultVar} {rvs : List RV} (h : compRes P (x :: l) = some rvs) : ∃ r rs, rvs = r :: rs ∧ compRes P [x] = some [r] ∧ compRes P l = some rs := by
  cases x with
  | tmp t =>
    obtain ⟨rs, h1, rfl⟩ := Option.map_eq_some_iff.1 h
    exact ⟨_, rs, rfl, rfl, h1⟩
  | cell c t =>
    simp only [compRes, Option.bind_eq_some_iff, Option.map_eq_some_iff] at h
    obtain ⟨ag, hg, s, hs, rs, h1, rfl⟩ := h
    exact ⟨_, rs, rfl, by simp [compRes, hg, hs], h1⟩
def Runs (P : Program) (w : World) (tmps : Array Value) : List ResultVar → List Value → Prop
  | [], [] => True
  | x :: l, v :: vs => (resSem tmps x).run P w = .ok v w ∧ Runs P w tmps l vs
  | _, _ => False
theorem runs_rvs {a : Act} {env : Nat → D} (hr : HRel R S base w H) (hs : SRel n R (AOf S R H) w a env) : ∀ (l : List ResultVar) (rvs : List RV) (ds : List D), compRes P l = some rvs → rvDs H env rvs = some ds →
    ∃ vs : List Value, vs.length = ds.length ∧ Runs P w a.tmps l vs ∧ ∀ j d, ds[j]? = some d → Rep R (AOf S R H) w (vs.getD j undef) d
  | [], rvs, ds, h, hd => by
    simp [compRes] at h
    subst h
    simp [rvDs] at hd
    subst hd
    exact ⟨[], rfl, trivial, fun j d hj => by simp at hj⟩
  | x :: l, rvs, ds, h, hd => by
    obtain ⟨r, rs, rfl, h1, h2⟩ := compRes_cons h
    simp only [rvDs, Option.bind_eq_some_iff, Option.map_eq_some_iff] at hd
    obtain ⟨d, hd1, ds', hd2, rfl⟩ := hd
    obtain ⟨u, hu, hrep⟩ := run_rv hr hs h1 hd1
    obtain ⟨vs, hl, hruns, hreps⟩ := runs_rvs hr hs l rs ds' h2 hd2
    refine ⟨u :: vs, by simp [hl], ⟨hu, hruns⟩, fun j d hj => ?_⟩
    cases j with
    | zero => simp at hj; subst hj; exact hrep
    | succ j => simpa using hreps j d (by simpa using hj)
def oneV : List Value → Value
  | [v] => v
  | vs => .tuple vs.toArray
theorem run_results {fn : Func} {tmps : Array Value} : ∀ (l : List ResultVar) (vs : List Value), fn.results = l.toArray → l.length ≤ 4 → Runs P w tmps l vs → (results fn tmps).run P w = .ok (oneV vs) w := by
  intro l vs e h4 h
  have e1 : results fn tmps = (do let vs ← fn.results.mapM (resSem tmps); pure (if h : vs.size = 1 then vs[0] else .tuple vs)) := rfl
  rw [e1, e]
  match l, vs, h4, h with
  | [], [], _, _ => simp [oneV]
  | [_], [_], _, h => simp [oneV, h.1]
  | [_, _], [_, _], _, h => simp [oneV, h.1, h.2.1]
  | [_, _, _], [_, _, _], _, h => simp [oneV, h.1, h.2.1, h.2.2.1]
  | [_, _, _, _], [_, _, _, _], _, h => simp [oneV, h.1, h.2.1, h.2.2.1, h.2.2.2.1]
  | _ :: _ :: _ :: _ :: _ :: _, _, h4, _ => simp at h4
theorem rep_one? {vs : List Value} {ds : List D} {A : Nat → Prop} (hl : vs.length = ds.length) (h : ∀ j d, ds[j]? = some d → Rep R A w (vs.getD j undef) d) : Rep R A w (oneV vs) (one? ds) := by
  have tup : ∀ (vs : List Value) (ds : List D), vs.length = ds.length → (∀ j d, ds[j]? = some d → Rep R A w (vs.getD j undef) d) → Rep R A w (.tuple vs.toArray) (.tup ds) := fun vs ds hl h =>
    .tup _ _ (by simpa using hl) fun j d hj => by have := h j d hj; simpa [Array.getD_eq_getD_getElem?, List.getD_eq_getElem?_getD] using this
  match vs, ds, hl with
  | [], [], hl => exact tup [] [] hl h
  | [v], [d], _ => exact h 0 d rfl
  | v :: v' :: l, d :: d' :: m, hl => exact tup _ _ hl h
end

theorem pcr_of_awp {f : FuncId} {fn : Func} {ir : IR} {rv : List RV} {xs : List D} {r : D} {n : Nat} (hG : Stable G) (hf : P.funcs[f]? = some fn) (hc : fn.body.bind (comp P) = some ir) (hr : compRes P fn.results.toList = some rv) (h4 : fn.results.toList.length ≤ 4) (hn : fn.ntmps = n) (hx : xs.length ≤ n) (hd : dstOk n ir = true)
    (h : awp P G 0 ir (Res rv r) (st0 xs)) : PCr P G f xs r := by
  subst hn
  obtain ⟨c, hb, hc⟩ := Option.bind_eq_some_iff.1 hc
  intro w S vs hg hS hsz hvs
  refine calls_of_wp hf hb (wp_mono (awp_sound (S := S) (w0 := ⟨w, (· < w.heap.size), 0, fun _ _ => .no⟩) c ir _ _ _ w hc hd h ⟨Nat.zero_le _, fun _ _ => .no, ⟨⟨fun b => ?_, fun b ver t sz cs h => ?_, fun b b' ver ver' t t' sz sz' cs cs' g cap cap' s s' h => ?_, hS, fun b ver g cap sz h => ?_⟩, ⟨rfl, ?_, fun t => ?_⟩, BelowK.refl _ _, fun _ h => h, hg, fun w' h => hG w w' hg (h.to fun _ h => h), fun _ _ _ => rfl, fun _ _ h => absurd rfl h⟩, fun _ _ _ => rfl⟩) ?_)
  · show BlkRel _ _ _ _ _ (hv [] b)
    rw [hv_ge (Nat.zero_le _)]
    exact trivial
  · have : hv [] b = some (ver, t, sz, cs) := h
    rw [hv_ge (Nat.zero_le _)] at this
    cases this
  · have : hv [] b = some (ver, t, sz, cs) := h
    rw [hv_ge (Nat.zero_le _)] at this
    cases this
  · cases h
  · simp [hsz]; omega
  · have hA : ∀ g, AOf S (fun _ _ => Bnd.no) (hv (st0 xs).heap) g → S g := fun g hg => by
      rcases hg with hg | ⟨b, ver, t, sz, cs, cap, sz', h1, h2⟩
      · exact hg
      · cases h2
    show Rep _ _ _ ((vs ++ Array.replicate (fn.ntmps - vs.size) undef).getD t undef) (xs.getD t (D.tup []))
    rw [Array.getD_eq_getD_getElem?, List.getD_eq_getElem?_getD, Array.getElem?_append, hsz]
    split
    · rename_i ht
      have h1 := hvs t xs[t] (List.getElem?_eq_getElem ht)
      rw [List.getElem?_eq_getElem ht]
      rw [Array.getD_eq_getD_getElem?] at h1
      exact .imm (h1.weak hA)
    · rename_i ht
      rw [List.getElem?_eq_none (by omega), Array.getElem?_replicate]
      split
      · exact rep_undef
      · exact rep_undef
  · rintro e a w' ⟨ae, σ, rfl, ⟨hae, ks, hres⟩, _, R, hm, hfr⟩
    obtain ⟨ds, hds, hres⟩ := Option.bind_eq_some_iff.1 hres
    obtain ⟨vs', hl', hruns, hreps⟩ := runs_rvs hm.hrel hm.srel _ _ _ hr hds
    have hrun := run_results (fn := fn) _ _ (by simp) h4 hruns
    have hrep := resD_ok hm.hrel 6 _ _ _ _ (rep_one? hl' hreps) hres ks (fun _ h => h)
    have hend : a.defers = [] ∧ ∃ v, (results fn a.tmps).run P w' = .ok v w' ∧ ∃ u, Ending.returned v = .returned u ∧ RepI S w' u r ∧ Below w.heap.size w w' :=
      ⟨hm.srel.nod, _, hrun, _, rfl, hrep.weak (fun g hg => .inl hg), hm.below.to fun _ h => h⟩
    cases ae with
    | normal => exact hend
    | exit id => exact hae.elim
    | ret => exact hend
theorem pcr_by {f : FuncId} {fn : Func} {ir : IR} {rv : List RV} {xs : List D} {rr : D} {n : Nat} (hG : Stable G) (hf : P.funcs[f]? = some fn) (hc : fn.body.bind (comp P) = some ir) (hr : compRes P fn.results.toList = some rv) (h4 : fn.results.toList.length ≤ 4) (hn : fn.ntmps = n) (hx : xs.length ≤ n) (hd : dstOk n ir = true)
    (h : ∀ r, r = rr → awp P G 0 ir (Res rv r) (st0 xs)) : PCr P G f xs rr := pcr_of_awp hG hf hc hr h4 hn hx hd (h rr rfl)
theorem pcr_byq {f : FuncId} {fn : Func} {ir : IR} {rv : List RV} {xs : List D} {rr : D} {n : Nat} (hc : fn.body.bind (comp P) = some ir) (hG : Stable G) (h : ∀ r, r = rr → awp P G 0 ir (Res rv r) (st0 xs)) (hf : P.funcs[f]? = some fn := by kernel_rfl) (hr : compRes P fn.results.toList = some rv := by kernel_rfl) (h4 : fn.results.toList.length ≤ 4 := by decide) (hn : fn.ntmps = n := by kernel_rfl) (hx : xs.length ≤ n := by simp) (hd : dstOk n ir = true := by kernel_rfl) : PCr P G f xs rr := pcr_of_awp hG hf hc hr h4 hn hx hd (h rr rfl)
theorem PCr.mono {G' : World → Prop} {f : FuncId} {xs : List D} {r : D} (h : PCr P G f xs r) (hG : ∀ w, G' w → G w) : PCr P G' f xs r := fun w S vs hg => h w S vs (hG w hg)

/-! telling less -/
theorem Ent.refl (σ : St) : Ent σ σ := fun _ _ R _ _ _ _ _ hm hf => ⟨R, hm, hf⟩
def Less (env env' : Nat → D) : Prop := ∀ t, env' t = .un ∨ env' t = env t
theorem Ent.env {σ : St} {env : Nat → D} (h : Less σ.env env) : Ent σ ⟨env, σ.heap⟩ := fun n G R S w0 w a _ hm hf => by
  refine ⟨R, ⟨hm.hrel, ⟨hm.srel.nod, hm.srel.len, fun t => ?_⟩, hm.below, hm.kin, hm.g, hm.gk, hm.r0m, hm.keepR⟩, hf⟩
  show Rep _ _ _ _ (env t)
  rcases h t with e | e
  · rw [e]; exact .imm (.un _)
  · rw [e]; exact hm.srel.rep t
def un0 : Nat → D := fun _ => .un
theorem less_un0 (env : Nat → D) : Less env un0 := fun _ => .inl rfl
theorem less_put {env env' : Nat → D} {t : Nat} {d : D} (h : Less env env') (hd : env t = d) : Less env (putE env' (some t) d) := fun t' => by
  unfold putE
  split
  · rename_i e; cases e; exact .inr hd.symm
  · exact h t'
theorem less_refl (env : Nat → D) : Less env env := fun _ => .inr rfl
end
end Go.Proofs.YtgimaioeifnajaaGreatDoorK.AI
/-
  The abstract interpreter, part 18: lemmas to run it by.
-/
namespace Go.Proofs.YtgimaioeifnajaaGreatDoorK.AI
open Go.RowKit

section
variable {P : Program} {G : World → Prop} {m : Nat} {Q : AEx → St → Prop} {σ : St}
theorem of_eq {α : Sort _} {a b : α} (h : a = b) : a = b := h
theorem awp_skip : awp P G m .skip Q σ = Q .normal σ := of_eq rfl
theorem awp_reg {ops : List IOper} {anc : List Nat} : awp P G m (.reg false ops anc) Q σ = awpOps P G (fun _ σ => Q .normal σ) ops [] σ := of_eq rfl
theorem awp_draw {ops : List IOper} {anc : List Nat} : awp P G m (.reg true ops anc) Q σ = awpOps P G (fun tr σ => clear anc tr = true ∧ Q .normal σ) ops [] σ := of_eq rfl
theorem awp_block {id : Nat} {a : IR} : awp P G m (.block id a) Q σ = awp P G m a (AEx.inBlock id Q) σ := of_eq rfl
theorem awp_exit {id : Nat} : awp P G m (.exit id) Q σ = Q (.exit id) σ := of_eq rfl
theorem awp_ret : awp P G m .ret Q σ = Q .ret σ := of_eq rfl
theorem awp_cond {c : Opd} {a b : IR} {t : Bool} {env : Nat → D} {h : List Blk} (hc : getO env c = .bool t) : awp P G m (.cond c a b) Q ⟨env, h⟩ = if t = true then awp P G m a Q ⟨env, h⟩ else awp P G m b Q ⟨env, h⟩ := by
  simp only [awp, hc]
theorem awp_cond_sym {c : Opd} {a b : IR} {t : Bool} {env : Nat → D} {h : List Blk} (hc : getO env c = .bool t) (h1 : t = true → awp P G m a Q ⟨env, h⟩) (h2 : t = false → awp P G m b Q ⟨env, h⟩) : awp P G m (.cond c a b) Q ⟨env, h⟩ := by
  rw [awp_cond hc]
  cases t
  · exact h2 rfl
  · exact h1 rfl
theorem awp_cond_t {c : Opd} {a b : IR} {env : Nat → D} {h : List Blk} (hc : getO env c = .bool true) (hk : awp P G m a Q ⟨env, h⟩) : awp P G m (.cond c a b) Q ⟨env, h⟩ := by
  rw [awp_cond hc, if_pos rfl]; exact hk
theorem awp_cond_f {c : Opd} {a b : IR} {env : Nat → D} {h : List Blk} (hc : getO env c = .bool false) (hk : awp P G m b Q ⟨env, h⟩) : awp P G m (.cond c a b) Q ⟨env, h⟩ := by
  rw [awp_cond hc, if_neg (by decide)]; exact hk
theorem awp_loopm {a : IR} (I : Nat → St → Prop) (n : Nat) {σ1 : St} (h0 : Ent σ σ1) (h1 : I n σ1) (hl : ∀ n σ1, I n σ1 → m ≤ σ1.heap.length) (h : ∀ n σ1, I n σ1 → awp P G m a (AEx.then (fun σ2 => ∃ j σ3, j < n ∧ Ent σ2 σ3 ∧ I j σ3) Q) σ1) : awp P G m (.loop a) Q σ := ⟨I, ⟨n, σ1, h0, h1⟩, hl, h⟩
theorem awp_loop {a : IR} (I : Nat → St → Prop) (n : Nat) {σ1 : St} (h0 : Ent σ σ1) (h1 : I n σ1) (h : ∀ n σ1, I n σ1 → awp P G 0 a (AEx.then (fun σ2 => ∃ j σ3, j < n ∧ Ent σ2 σ3 ∧ I j σ3) Q) σ1) : awp P G 0 (.loop a) Q σ := awp_loopm I n h0 h1 (fun _ _ _ => Nat.zero_le _) h
theorem then_normal {next : St → Prop} : AEx.then next Q .normal σ = next σ := of_eq rfl
theorem then_exit {next : St → Prop} {id : Nat} : AEx.then next Q (.exit id) σ = Q (.exit id) σ := of_eq rfl
theorem then_ret {next : St → Prop} : AEx.then next Q .ret σ = Q .ret σ := of_eq rfl
theorem inBlock_normal {id : Nat} : AEx.inBlock id Q .normal σ = Q .normal σ := of_eq rfl
theorem inBlock_exit {id i : Nat} : AEx.inBlock id Q (.exit i) σ = if i = id then Q .normal σ else Q (.exit i) σ := of_eq rfl
theorem inBlock_ret {id : Nat} : AEx.inBlock id Q .ret σ = Q .ret σ := of_eq rfl

theorem awp_skip_i (h : Q .normal σ) : awp P G m .skip Q σ := h
theorem awp_reg_i {ops : List IOper} {anc : List Nat} (h : awpOps P G (fun _ σ => Q .normal σ) ops [] σ) : awp P G m (.reg false ops anc) Q σ := h
theorem awp_draw_i {ops : List IOper} {anc : List Nat} (h : awpOps P G (fun tr σ => clear anc tr = true ∧ Q .normal σ) ops [] σ) : awp P G m (.reg true ops anc) Q σ := h
theorem kO_mono {o : Option Eff} {k k' : Eff → Prop} (hk : ∀ e, k e → k' e) (h : kO o k) : kO o k' := by
  cases o with
  | none => exact h
  | some e => exact hk e h
theorem aCall_mono {env : Nat → D} {H : Nat → Blk} {nk : Nat} {f : FuncId} {args : List Opd} {k k' : Eff → Prop} (hk : ∀ e, k e → k' e) (h : aCall P G env H nk f args k) : aCall P G env H nk f args k' := by
  rcases h with h | ⟨κ, xs, h0, r, h', hc, h⟩
  · left
    split at h
    · rename_i p hp
      obtain ⟨r, fz, hr, hz, h⟩ := h
      exact ⟨r, fz, hr, hz, hk _ h⟩
    · exact h.elim
  · exact .inr ⟨κ, xs, h0, r, h', hc, hk _ h⟩
theorem aOp_mono {env : Nat → D} {H : Nat → Blk} {nk : Nat} {op : IOp} {k k' : Eff → Prop} (hk : ∀ e, k e → k' e) (h : aOp P G env H nk op k) : aOp P G env H nk op k' := by
  have gen : ∀ o : Option Eff, kO o k → kO o k' := fun o h => kO_mono hk h
  cases op
  case call f args => exact aCall_mono hk h
  case dcall x args =>
    obtain ⟨f, cs, h1, h2, h⟩ := h
    exact ⟨f, cs, h1, h2, aCall_mono hk h⟩
  all_goals
    simp only [aOp] at h ⊢
    exact gen _ h
theorem awpOps_mono {K K' : Tr → St → Prop} (hk : ∀ tr σ, K tr σ → K' tr σ) : ∀ (l : List IOper) (tr : Tr) (σ : St), awpOps P G K l tr σ → awpOps P G K' l tr σ
  | [], tr, σ, h => hk tr σ h
  | o :: l, tr, σ, h => by
    simp only [awpOps] at h ⊢
    split at h
    · exact aOp_mono (fun e h => awpOps_mono hk l _ _ h) h
    · exact awpOps_mono hk l _ _ h
    · exact h.elim
theorem then_mono {next next' : St → Prop} {Q Q' : AEx → St → Prop} (hn : ∀ σ, next σ → next' σ) (hQ : ∀ e σ, Q e σ → Q' e σ) (e : AEx) (σ : St) (h : AEx.then next Q e σ) : AEx.then next' Q' e σ := by
  cases e with
  | normal => exact hn σ h
  | exit id => exact hQ _ σ h
  | ret => exact hQ _ σ h
theorem awp_mono : ∀ (ir : IR) (Q Q' : AEx → St → Prop) (σ : St), (∀ e σ, Q e σ → Q' e σ) → awp P G m ir Q σ → awp P G m ir Q' σ
  | .skip, Q, Q', σ, hQ, h => hQ _ _ h
  | .reg false ops _, Q, Q', σ, hQ, h => awpOps_mono (fun _ _ h => hQ _ _ h) ops [] σ h
  | .reg true ops _, Q, Q', σ, hQ, h => awpOps_mono (fun _ _ h => ⟨h.1, hQ _ _ h.2⟩) ops [] σ h
  | .seq a b, Q, Q', σ, hQ, h => by
    obtain ⟨J, ha, hb⟩ := h
    exact ⟨J, awp_mono a _ _ σ (then_mono (fun _ h => h) hQ) ha, fun σ hj => awp_mono b Q Q' σ hQ (hb σ hj)⟩
  | .cond c a b, Q, Q', σ, hQ, h => by
    simp only [awp] at h ⊢
    split at h
    · split at h
      · rename_i ht; rw [if_pos ht]; exact awp_mono a Q Q' σ hQ h
      · rename_i ht; rw [if_neg ht]; exact awp_mono b Q Q' σ hQ h
    · exact h.elim
  | .block id a, Q, Q', σ, hQ, h => by
    refine awp_mono a _ _ σ (fun e σ h => ?_) h
    cases e with
    | normal => exact hQ _ _ h
    | ret => exact hQ _ _ h
    | exit i =>
      simp only [AEx.inBlock] at h ⊢
      split
      · rename_i e; rw [if_pos e] at h; exact hQ _ _ h
      · rename_i e; rw [if_neg e] at h; exact hQ _ _ h
  | .loop a, Q, Q', σ, hQ, h => by
    obtain ⟨I, h0, hl, h⟩ := h
    exact ⟨I, h0, hl, fun n σ1 hi => awp_mono a _ _ σ1 (then_mono (fun _ h => h) hQ) (h n σ1 hi)⟩
  | .exit id, Q, Q', σ, hQ, h => hQ _ _ h
  | .ret, Q, Q', σ, hQ, h => hQ _ _ h
  | .dead, _, _, _, _, h => h.elim
theorem awp_seq_i {a b : IR} (h : awp P G m a (AEx.then (awp P G m b Q) Q) σ) : awp P G m (.seq a b) Q σ :=
  ⟨awp P G m b Q, awp_mono a _ _ σ (then_mono (fun σ h => ⟨σ, .inl rfl, h⟩) fun _ _ h => h) h, fun _ h => h⟩
theorem awp_seq_mid {a b : IR} (J : St → Prop) (hb : ∀ σ, J σ → awp P G m b Q σ) (h : awp P G m a (AEx.then (fun σ2 => ∃ σ3, m ≤ σ3.heap.length ∧ Ent σ2 σ3 ∧ J σ3) Q) σ) : awp P G m (.seq a b) Q σ :=
  ⟨J, awp_mono a _ _ σ (then_mono (fun σ ⟨σ3, hl, he, hj⟩ => ⟨σ3, .inr ⟨hl, he⟩, hj⟩) fun _ _ h => h) h, hb⟩
theorem awp_block_i {id : Nat} {a : IR} (h : awp P G m a (AEx.inBlock id Q) σ) : awp P G m (.block id a) Q σ := h
theorem awp_exit_i {id : Nat} (h : Q (.exit id) σ) : awp P G m (.exit id) Q σ := h
theorem awp_ret_i (h : Q .ret σ) : awp P G m .ret Q σ := h
theorem then_normal_i {next : St → Prop} (h : next σ) : AEx.then next Q .normal σ := h
theorem then_exit_i {next : St → Prop} {id : Nat} (h : Q (.exit id) σ) : AEx.then next Q (.exit id) σ := h
theorem then_ret_i {next : St → Prop} (h : Q .ret σ) : AEx.then next Q .ret σ := h
theorem in_normal_i {id : Nat} (h : Q .normal σ) : AEx.inBlock id Q .normal σ := h
theorem in_exit_i {id : Nat} (h : Q .normal σ) : AEx.inBlock id Q (.exit id) σ := by rw [inBlock_exit, if_pos rfl]; exact h
theorem in_exit_ne {id i : Nat} (hne : i ≠ id) (h : Q (.exit i) σ) : AEx.inBlock id Q (.exit i) σ := by rw [inBlock_exit, if_neg hne]; exact h
theorem in_ret_i {id : Nat} (h : Q .ret σ) : AEx.inBlock id Q .ret σ := h
variable {K : Tr → St → Prop} {tr : Tr} {env : Nat → D} {h : List Blk} {dst : Option Nat} {op : IOp} {l : List IOper} {t : Nat} {w : Bool}
theorem ops_nil : awpOps P G K [] tr σ = K tr σ := of_eq rfl
theorem ops_nil_i (hk : K tr σ) : awpOps P G K [] tr σ := hk
theorem ops_cons : awpOps P G K (⟨dst, op, none⟩ :: l) tr ⟨env, h⟩ = aOp P G env (hv h) h.length op fun e => awpOps P G K l ((e.2.1.map (·.1), e.2.2) :: tr) ⟨putE env dst e.1, setH h e.2.1⟩ := of_eq rfl
theorem ops_guard {b : Bool} (hb : env t = .bool b) : awpOps P G K (⟨dst, op, some (some t, w)⟩ :: l) tr ⟨env, h⟩ = if b = w then (aOp P G env (hv h) h.length op fun e => awpOps P G K l ((e.2.1.map (·.1), e.2.2) :: tr) ⟨putE env dst e.1, setH h e.2.1⟩) else awpOps P G K l (([], []) :: tr) ⟨putE env dst (.tup []), h⟩ := by
  simp only [awpOps, wantedI, hb]
  cases b <;> cases w <;> rfl
theorem ops_tup {ds : List D} (hb : env t = .tup ds) : awpOps P G K (⟨dst, op, some (some t, w)⟩ :: l) tr ⟨env, h⟩ = awpOps P G K l (([], []) :: tr) ⟨putE env dst (.tup []), h⟩ := by
  simp only [awpOps, wantedI, hb]; rfl
theorem kO_some {e : Eff} {k : Eff → Prop} : kO (some e) k = k e := rfl
theorem kO_pos {c : Prop} [Decidable c] {x y : Option Eff} {k : Eff → Prop} (hc : c) : kO (if c then x else y) k = kO x k := by rw [if_pos hc]
theorem kO_neg {c : Prop} [Decidable c] {x y : Option Eff} {k : Eff → Prop} (hc : ¬ c) : kO (if c then x else y) k = kO y k := by rw [if_neg hc]
theorem kO_and {c : Prop} [Decidable c] {x : Option Eff} {k : Eff → Prop} : kO (if c then x else none) k = (c ∧ kO x k) := by
  by_cases hc : c
  · rw [if_pos hc]; simp [hc]
  · rw [if_neg hc]; simp [hc, kO]
theorem kO_nand {c : Prop} [Decidable c] {x : Option Eff} {k : Eff → Prop} : kO (if c then none else x) k = (¬ c ∧ kO x k) := by
  by_cases hc : c
  · rw [if_pos hc]; simp [hc, kO]
  · rw [if_neg hc]; simp [hc]
theorem map_ite {α β : Type} {c : Prop} [Decidable c] {x y : Option α} {f : α → β} : (if c then x else y).map f = if c then x.map f else y.map f := by split <;> rfl
theorem putE_same {d : D} : putE env (some t) d t = d := by simp [putE]
theorem putE_ne {d : D} {t' : Nat} (hne : t ≠ t') : putE env (some t) d t' = env t' := by simp [putE, hne]
theorem putE_none {d : D} : putE env none d = env := by funext t; simp [putE]
theorem res_ret {rv : List RV} {r r' : D} {ks : List Nat} (hr : ((rvDs (hv h) env rv).bind fun ds => resD (hv h) 6 (one? ds)) = some (r', ks)) (e : r' = r) : Res rv r .ret ⟨env, h⟩ := ⟨trivial, ks, by rw [← e]; exact hr⟩
theorem res_end {rv : List RV} {r r' : D} {ks : List Nat} (hr : ((rvDs (hv h) env rv).bind fun ds => resD (hv h) 6 (one? ds)) = some (r', ks)) (e : r' = r) : Res rv r .normal ⟨env, h⟩ := ⟨trivial, ks, by rw [← e]; exact hr⟩
theorem un0_at (t : Nat) : un0 t = .un := rfl
theorem ini_zero {x : D} {xs : List D} : ini (x :: xs) 0 = x := rfl
theorem ini_succ {x : D} {xs : List D} {t : Nat} : ini (x :: xs) (t + 1) = ini xs t := rfl
theorem ini_one {x y : D} {xs : List D} : ini (x :: y :: xs) 1 = y := rfl
theorem ini_two {x y z : D} {xs : List D} : ini (x :: y :: z :: xs) 2 = z := rfl
theorem ini_three {x y z u : D} {xs : List D} : ini (x :: y :: z :: u :: xs) 3 = u := rfl
theorem ini_nil {t : Nat} : ini [] t = .tup [] := rfl
end
theorem resD_int {H : Nat → Blk} {m : Nat} {k : IntKind} {n : Int} : resD H (m + 1) (.int k n) = some (.int k n, []) := by simp [resD]
theorem resD_bool {H : Nat → Blk} {m : Nat} {b : Bool} : resD H (m + 1) (.bool b) = some (.bool b, []) := by simp [resD]
theorem resD_str {H : Nat → Blk} {m : Nat} {s : ByteArray} : resD H (m + 1) (.str s) = some (.str s, []) := by simp [resD]
theorem resD_sl {H : Nat → Blk} {m n : Nat} {cs : List D} : resD H (m + 1) (.sl n cs) = some (.sl n cs, []) := by simp [resD]
theorem resD_rp {H : Nat → Blk} {m : Nat} {cs : List D} : resD H (m + 1) (.rp cs) = some (.rp cs, []) := by simp [resD]
theorem resD_nils {H : Nat → Blk} {m : Nat} : resD H (m + 1) .nils = some (.sl 0 [], []) := by simp [resD]
theorem resD_null {H : Nat → Blk} {m : Nat} : resD H (m + 1) .null = some (.null, []) := by simp [resD]
theorem resD_agg {H : Nat → Blk} {m : Nat} {cs : List D} : resD H (m + 1) (.agg cs) = (resD.resL H m cs).map fun p => (.agg p.1, p.2) := by simp [resD]
theorem resD_tup {H : Nat → Blk} {m : Nat} {cs : List D} : resD H (m + 1) (.tup cs) = (resD.resL H m cs).map fun p => (.tup p.1, p.2) := by simp [resD]
theorem resL_eq {H : Nat → Blk} {m : Nat} {cs : List D} : resD.resL H m cs = if cs.all D.imm = true then some (cs, []) else resD.go H m cs := by rw [resD.resL]
def rdOwn (H : Nat → Blk) (m b ver off n : Nat) : Blk → Option (D × List Nat)
  | some (v, _, sz, cs) => if v = ver ∧ off * sz + n * sz ≤ cs.length then (resD.resL H m ((cs.drop (off * sz)).take (n * sz))).map fun p => (.sl n p.1, b :: p.2) else none
  | none => none
theorem resD_own {H : Nat → Blk} {m b ver off n : Nat} : resD H (m + 1) (.own b ver off n) = rdOwn H m b ver off n (H b) := by
  simp only [resD]
  cases H b <;> rfl
def rdPtr (H : Nat → Blk) (m b ver off : Nat) : Blk → Option (D × List Nat)
  | some (v, _, _, cs) => if v = ver then (resD.resL H m (cs.drop off)).map fun p => (.rp p.1, b :: p.2) else none
  | none => none
theorem resD_ptr {H : Nat → Blk} {m b ver off : Nat} : resD H (m + 1) (.ptr b ver off) = rdPtr H m b ver off (H b) := by
  simp only [resD]
  cases H b <;> rfl
theorem resD_nilm {H : Nat → Blk} {m : Nat} : resD H (m + 1) .nilm = some (.nilm, []) := by simp [resD]
theorem resD_mf {H : Nat → Blk} {m : Nat} {kvs : List D} : resD H (m + 1) (.mf kvs) = some (.mf kvs, []) := by simp [resD]
theorem resD_fn {H : Nat → Blk} {m : Nat} {f : FuncId} {cs : List D} : resD H (m + 1) (.fn f cs) = (resD.resL H m cs).map fun p => (.fn f p.1, p.2) := by simp [resD]
def rdMo (H : Nat → Blk) (m b ver : Nat) : Blk → Option (D × List Nat)
  | some (v, _, _, [.mp kvs]) => if v = ver then (resD.resL H m kvs).map fun p => (.mf p.1, b :: p.2) else none
  | _ => none
theorem resD_mo {H : Nat → Blk} {m b ver : Nat} : resD H (m + 1) (.mo b ver) = rdMo H m b ver (H b) := by
  simp only [resD]
  rfl
theorem rd_ite {c : Prop} [Decidable c] {x : Option (D × List Nat)} (hc : c) : (if c then x else none) = x := if_pos hc
theorem go_nil {H : Nat → Blk} {m : Nat} : resD.go H m [] = some ([], []) := by simp [resD.go]
theorem go_cons {H : Nat → Blk} {m : Nat} {d : D} {l : List D} : resD.go H m (d :: l) = (resD H m d).bind fun p => (resD.go H m l).map fun q => (p.1 :: q.1, p.2 ++ q.2) := by simp [resD.go]
theorem shr32 {a : Int} : a.fdiv (2 ^ min 32 64) = a / 4294967296 := by
  rw [Int.fdiv_eq_ediv_of_nonneg _ (by decide)]; rfl
theorem shl32 {a : Int} : a * 2 ^ min 32 64 = a * 4294967296 := rfl
theorem toNat_pred {n : Nat} : ((n : Int) - 1).toNat = n - 1 := by omega
theorem zero_ne_succ {n : Nat} : ¬ (0 = n + 1) := by omega
theorem succ_ne_zero {n : Nat} : ¬ (n + 1 = 0) := by omega
theorem decT {p : Prop} [Decidable p] (h : p) : decide p = true := decide_eq_true h
theorem decF {p : Prop} [Decidable p] (h : ¬ p) : decide p = false := decide_eq_false h
theorem dec_true : decide True = true := rfl
theorem dec_false : decide False = false := rfl
theorem beq_true_false : (true == false) = false := rfl
theorem beq_false_true : (false == true) = false := rfl
theorem wrap_i64 {x : Int} (h : -9223372036854775808 ≤ x ∧ x ≤ 9223372036854775807) : IntKind.i64.wrap x = x := by
  unfold IntKind.wrap
  simp only [IntKind.bits, IntKind.signed]
  simp
  omega
theorem wrap_u8 {x : Int} (h : 0 ≤ x ∧ x ≤ 255) : IntKind.u8.wrap x = x := by
  unfold IntKind.wrap
  simp only [IntKind.bits, IntKind.signed]
  simp
  omega
theorem wrap_u32 {x : Int} (h : 0 ≤ x ∧ x ≤ 4294967295) : IntKind.u32.wrap x = x := by
  unfold IntKind.wrap
  simp only [IntKind.bits, IntKind.signed]
  simp
  omega
theorem wrap_u64 {x : Int} (h : 0 ≤ x ∧ x ≤ 18446744073709551615) : IntKind.u64.wrap x = x := by
  unfold IntKind.wrap
  simp only [IntKind.bits, IntKind.signed]
  simp
  omega
theorem wrap_u32_mod {x : Int} : IntKind.u32.wrap x = x % 4294967296 := by
  unfold IntKind.wrap
  simp only [IntKind.bits, IntKind.signed]
  simp
theorem wrap_u64_mod {x : Int} : IntKind.u64.wrap x = x % 18446744073709551616 := by
  unfold IntKind.wrap
  simp only [IntKind.bits, IntKind.signed]
  simp
end Go.Proofs.YtgimaioeifnajaaGreatDoorK.AI
