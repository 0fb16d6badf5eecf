/-
  From a contract to a row: arguments of any plain type (numbers, texts, rows, structs, arrays, one within the other), told by their data; the texts are bounded by what the data hold.
-/
import Derived.Test.YtgimaioeifnajaaGreatDoorKRw
import Derived.ChangeBears
set_option linter.all false
set_option maxHeartbeats 4000000
namespace Go.Proofs.YtgimaioeifnajaaGreatDoorK.RowU
open RowT
open Go.ChangeShapes Go.WideShapes Go.ChangeAt Go.RowKit AI
variable {H : Type} {enc : TypeId × Value → H} {P : Program} {W W' : World}
inductive RepL (W : World) : List Value → List D → Prop
  | nil : RepL W [] []
  | cons {v : Value} {d : D} {vs : List Value} {ds : List D} (h : RepI (fun _ => False) W v d) (t : RepL W vs ds) : RepL W (v :: vs) (d :: ds)
theorem RepL.app : ∀ {a b : List Value} {x y : List D}, RepL W a x → RepL W b y → RepL W (a ++ b) (x ++ y)
  | _, _, _, _, .nil, h => h
  | _, _, _, _, .cons h t, k => .cons h (t.app k)
theorem RepL.len : ∀ {a : List Value} {x : List D}, RepL W a x → x.length = a.length
  | _, _, .nil => rfl
  | _, _, .cons _ t => by simp [t.len]
theorem RepL.get : ∀ {a : List Value} {x : List D}, RepL W a x → ∀ i d, x[i]? = some d → RepI (fun _ => False) W (a.getD i undef) d
  | _, _, .nil, i, d, h => by simp at h
  | _, _, .cons h t, 0, d, hi => by simp at hi; subst hi; simpa using h
  | _, _, .cons h t, i + 1, d, hi => by simpa using t.get i d (by simpa using hi)
theorem RepL.un : ∀ (a : List Value), RepL W a (a.map fun _ => .un)
  | [] => .nil
  | _ :: l => .cons (.un _) (RepL.un l)
structure Below (Q : DataW H → Prop) (R : ByteArray → Prop) : Prop where
  str : ∀ s : ByteArray, Q (.lit (.string s.data.toList)) → R s
  agg : ∀ l, Q (.agg l) → ∀ d ∈ l, Q d
  sl : ∀ l m, Q (.slice l m) → ∀ d ∈ l, Q d
variable {Q : DataW H → Prop} {R : ByteArray → Prop}
def IsC (P : Program) (R : ByteArray → Prop) : Nat → TypeId → List D → Prop
  | 0, _, _ => False
  | n + 1, t, ds => match P.underlying t with
    | some .bool => ∃ b, ds = [.bool b]
    | some (.int k) => ∃ z, ds = [.int k z] ∧ (Lit.int k z).wf = true
    | some .string => ∃ s : ByteArray, ds = [.str s] ∧ s.size ≤ 9223372036854775807 ∧ R s
    | some (.slice e) => ∃ rows : List (List D), ds = [.sl rows.length rows.flatten] ∧ rows.length ≤ 9223372036854775807 ∧ ∀ r ∈ rows, r.length = P.cellsOf e ∧ IsC P R n e r
    | some (.struct fs) => ∃ parts : List (List D), ds = parts.flatten ∧ parts.length = fs.toList.length ∧ ∀ (i : Nat) f p, fs.toList[i]? = some f → parts[i]? = some p → p.length = P.cellsOf f.type ∧ IsC P R n f.type p
    | some (.array k e) => ∃ parts : List (List D), ds = parts.flatten ∧ parts.length = k ∧ ∀ p ∈ parts, p.length = P.cellsOf e ∧ IsC P R n e p
    | _ => True
theorem take_drop_app {α : Type} (l : List α) (o a b : Nat) : ((l.drop o).take a) ++ ((l.drop (o + a)).take b) = (l.drop o).take (a + b) := by
  rw [← List.drop_drop, List.take_add]
theorem mapM_cons_some {α β : Type} {f : α → Option β} {x : α} {l : List α} {r : List β} (h : (x :: l).mapM f = some r) : ∃ y ys, f x = some y ∧ l.mapM f = some ys ∧ r = y :: ys := by
  simp only [List.mapM_cons, Option.bind_eq_bind, Option.bind_eq_some_iff, Option.pure_def, Option.some.injEq] at h
  obtain ⟨y, hy, ys, hys, rfl⟩ := h
  exact ⟨y, ys, hy, hys, rfl⟩
theorem fields_rep {n : Nat} {cs : List Value} {g : Field → Option (DataW H × List MemPlace)}   : ∀ (l : List Field) (o : Nat) (xs : List (DataW H × List MemPlace)), (∀ f ∈ l, ∀ x, g f = some x → Q x.1 → ∃ p, RepL W ((cs.drop f.offset).take (P.cellsOf f.type)) p ∧ p.length = P.cellsOf f.type ∧ IsC P R n f.type p) → l.mapM g = some xs → (∀ x ∈ xs, Q x.1) →
    (∀ (j : Nat) f, l[j]? = some f → f.offset = o + ((l.take j).map fun f => P.cellsOf f.type).sum) →
    ∃ parts : List (List D), RepL W ((cs.drop o).take (l.map fun f => P.cellsOf f.type).sum) parts.flatten ∧ parts.length = l.length ∧ ∀ (i : Nat) f p, l[i]? = some f → parts[i]? = some p → p.length = P.cellsOf f.type ∧ IsC P R n f.type p
  | [], o, xs, hg, h, hq, ho => ⟨[], by simpa using RepL.nil, rfl, fun i f p hf => by simp at hf⟩
  | f :: l, o, xs, hg, h, hq, ho => by
    obtain ⟨y, ys, hy, hys, rfl⟩ := mapM_cons_some h
    obtain ⟨p, hp, hpl, hpc⟩ := hg f List.mem_cons_self y hy (hq y List.mem_cons_self)
    have h0 : f.offset = o := by simpa using ho 0 f rfl
    obtain ⟨parts, h1, h2, h3⟩ := fields_rep l (o + P.cellsOf f.type) ys (fun f hf => hg f (List.mem_cons_of_mem _ hf)) hys (fun x hx => hq x (List.mem_cons_of_mem _ hx)) (fun j f' hj => by
      have := ho (j + 1) f' (by simpa using hj)
      simp only [List.take_succ_cons, List.map_cons, List.sum_cons] at this
      omega)
    refine ⟨p :: parts, ?_, by simp [h2], fun i f' p' hf hp' => ?_⟩
    · rw [h0] at hp
      have := hp.app h1
      rw [take_drop_app] at this
      simpa using this
    · cases i with
      | zero => simp at hf hp'; subst hf hp'; exact ⟨hpl, hpc⟩
      | succ i => exact h3 i f' p' (by simpa using hf) (by simpa using hp')
theorem items_rep {n : Nat} {e : TypeId} {sz : Nat} {cs : List Value} {g : Nat → Option (DataW H × List MemPlace)}   : ∀ (k o : Nat) (xs : List (DataW H × List MemPlace)), (∀ i, o ≤ i → i < o + k → ∀ x, g i = some x → Q x.1 → ∃ p, RepL W ((cs.drop (i * sz)).take sz) p ∧ p.length = sz ∧ IsC P R n e p) → (List.range' o k).mapM g = some xs → (∀ x ∈ xs, Q x.1) →
    ∃ parts : List (List D), RepL W ((cs.drop (o * sz)).take (k * sz)) parts.flatten ∧ parts.length = k ∧ ∀ p ∈ parts, p.length = sz ∧ IsC P R n e p
  | 0, o, xs, hg, h, hq => ⟨[], by simpa using RepL.nil, rfl, fun p hp => by simp at hp⟩
  | k + 1, o, xs, hg, h, hq => by
    rw [List.range'_succ] at h
    obtain ⟨y, ys, hy, hys, rfl⟩ := mapM_cons_some h
    obtain ⟨p, hp, hpl, hpc⟩ := hg o (Nat.le_refl _) (by omega) y hy (hq y List.mem_cons_self)
    obtain ⟨parts, h1, h2, h3⟩ := items_rep k (o + 1) ys (fun i h1 h2 => hg i (by omega) (by omega)) hys (fun x hx => hq x (List.mem_cons_of_mem _ hx))
    refine ⟨p :: parts, ?_, by simp [h2], fun p' hp' => ?_⟩
    · have := hp.app h1
      rw [show (o + 1) * sz = o * sz + sz by rw [Nat.add_mul]; omega, take_drop_app] at this
      rw [show (k + 1) * sz = sz + k * sz by rw [Nat.add_mul]; omega]
      simpa using this
    · rcases List.mem_cons.1 hp' with rfl | hp'
      · exact ⟨hpl, hpc⟩
      · exact h3 p' hp'
theorem range_mapM_len {α : Type} {g : Nat → Option α} : ∀ (k o : Nat) (xs : List α), (List.range' o k).mapM g = some xs → xs.length = k ∧ ∀ i, i < k → g (o + i) = xs[i]?
  | 0, o, xs, h => by simp at h; subst h; exact ⟨rfl, fun i hi => absurd hi (Nat.not_lt_zero _)⟩
  | k + 1, o, xs, h => by
    rw [List.range'_succ] at h
    obtain ⟨y, ys, hy, hys, rfl⟩ := mapM_cons_some h
    obtain ⟨h1, h2⟩ := range_mapM_len k (o + 1) ys hys
    refine ⟨by simp [h1], fun i hi => ?_⟩
    cases i with
    | zero => simpa using hy
    | succ i => rw [show o + (i + 1) = o + 1 + i by omega, h2 i (by omega)]; simp
theorem rep_cells (hB : Below Q R) (hl : laidOutB P = true) : ∀ (n : Nat) (t : TypeId) (cs : List Value) (x : DataW H × List MemPlace), t < P.types.size → DataW.trod enc P W 0 (fun _ => true) true n t cs = some x → Q x.1 → ∃ ds, RepL W cs ds ∧ IsC P R n t ds
  | 0, t, cs, x, ht, h, hx => by simp [DataW.trod] at h
  | n + 1, t, cs, x, ht, h, hx => by
    simp only [DataW.trod] at h
    simp only [IsC]
    split at h
    case h_1 b hu => simp only [hu]; exact ⟨[.bool b], .cons (.bool b) .nil, b, rfl⟩
    case h_2 k k' z hu =>
      simp only [hu]
      split at h
      · rename_i hc
        obtain ⟨rfl, hw⟩ := hc
        exact ⟨[.int k' z], .cons (.int _ _) .nil, z, rfl, hw⟩
      · cases h
    case h_4 s hu =>
      simp only [hu]
      split at h
      · rename_i hc
        have : maxLen = 9223372036854775807 := rfl
        cases h
        exact ⟨[.str s], .cons (.str _) .nil, s, rfl, by omega, hB.str s hx⟩
      · cases h
    case h_7 e hu =>
      simp only [hu]
      exact ⟨[.sl 0 []], .cons (.sl none 0 0 [] 0 0 (fun _ => undef) (Nat.le_refl _) (Nat.zero_le _) (fun h => absurd rfl h) (fun h => absurd rfl h) (fun j d h => by simp at h) (fun j d h => by simp at h)) .nil, [], rfl, Nat.zero_le _, fun r hr => by simp at hr⟩
    case h_8 e a len cap hu =>
      simp only [hu]
      split at h
      · rename_i hc
        obtain ⟨_, hlc, hcm⟩ := hc
        have hmx : maxLen = 9223372036854775807 := rfl
        obtain ⟨elems, he, h⟩ := Option.bind_eq_some_iff.1 h
        have hqe : ∀ y ∈ elems, Q y.1 := by
          obtain ⟨rest, _, h⟩ := Option.map_eq_some_iff.1 h
          subst h
          exact fun y hy => hB.sl _ _ hx _ (List.mem_map_of_mem hy)
        have hkid := kid_slice hl ht hu
        rw [List.range_eq_range'] at he
        -- the cells, one behind the other
        obtain ⟨sz, hsz⟩ : ∃ sz, P.cellsOf e = sz := ⟨_, rfl⟩
        rw [hsz] at he ⊢
        let us : Nat → Value := fun j => (W.cell? (a.add j)).getD undef
        have hadd : ∀ i j, (a.add i).add j = a.add (i + j) := fun i j => by
          obtain ⟨g, o, sp⟩ := a
          unfold Addr.add
          by_cases hi : i = 0
          · subst hi; simp
          · by_cases hj : j = 0
            · subst hj; simp [hi]
            · simp [hi, hj, Nat.add_assoc]
        have hrow : ∀ (i : Nat) cs', W.cells? 0 (a.add (i * sz)) sz = some cs' → cs'.length = sz ∧ ∀ j, j < sz → W.cell? (a.add (i * sz + j)) = cs'[j]? := fun i cs' hcs => by
          unfold World.cells? at hcs
          rw [if_pos (Nat.zero_le _), List.range_eq_range'] at hcs
          obtain ⟨h1, h2⟩ := range_mapM_len _ _ _ hcs
          refine ⟨h1, fun j hj => ?_⟩
          have := h2 j hj
          rw [Nat.zero_add, hadd] at this
          exact this
        have hlist : ((List.range (len * sz)).map us).length = len * sz := by simp
        have hslice : ∀ i, i < len → ∀ cs', W.cells? 0 (a.add (i * sz)) sz = some cs' → ((((List.range (len * sz)).map us).drop (i * sz)).take sz) = cs' := fun i hi cs' hcs => by
          obtain ⟨h1, h2⟩ := hrow i cs' hcs
          have hle : i * sz + sz ≤ len * sz := by
            have := Nat.mul_le_mul_right sz (show i + 1 ≤ len by omega)
            rw [Nat.add_mul] at this
            omega
          refine List.ext_getElem? fun j => ?_
          rw [List.getElem?_take]
          split
          · rename_i hj
            rw [List.getElem?_drop, List.getElem?_map, List.getElem?_range (by omega), Option.map_some, ← h2 j hj]
            show some ((W.cell? _).getD undef) = _
            rw [h2 j hj, List.getElem?_eq_getElem (by omega)]; rfl
          · rename_i hj
            rw [List.getElem?_eq_none (by omega)]
        have hel := range_mapM_len _ _ _ he
        obtain ⟨rows, h1, h2, h3⟩ := items_rep (n := n) (e := e) (P := P) (W := W) (cs := (List.range (len * sz)).map us) (sz := sz) len 0 elems (fun i _ hi x hx hqx => by
          obtain ⟨cs', hcs, hx⟩ := Option.bind_eq_some_iff.1 hx
          obtain ⟨ds, h1, h2⟩ := rep_cells hB hl n e cs' x hkid hx hqx
          rw [hslice i (by omega) cs' hcs]
          exact ⟨ds, h1, by rw [h1.len]; exact (hrow i cs' hcs).1, h2⟩) he hqe
        rw [Nat.zero_mul, List.drop_zero, List.take_of_length_le (by rw [hlist]; exact Nat.le_refl _)] at h1
        have hfl : rows.flatten.length = len * sz := by rw [h1.len, hlist]
        -- where they lie
        have hcell : ∀ j, j < len * sz → ∃ v, W.cell? (a.add j) = some v ∧ us j = v := fun j hj => by
          have hsz0 : 0 < sz := by
            rcases Nat.eq_zero_or_pos sz with h | h
            · subst h; simp at hj
            · exact h
          have hi : j / sz < len := Nat.div_lt_of_lt_mul (by rw [Nat.mul_comm]; exact hj)
          have hx := hel.2 (j / sz) hi
          rw [Nat.zero_add, List.getElem?_eq_getElem (by omega)] at hx
          obtain ⟨cs', hcs, _⟩ := Option.bind_eq_some_iff.1 hx
          obtain ⟨h1, h2⟩ := hrow _ cs' hcs
          have hm := Nat.mod_lt j hsz0
          have := h2 (j % sz) hm
          rw [Nat.mul_comm, Nat.div_add_mod, List.getElem?_eq_getElem (by omega)] at this
          exact ⟨_, this, by show (W.cell? _).getD undef = _; rw [this]; rfl⟩
        obtain ⟨g, o, sp⟩ := a
        have hsp : rows.flatten ≠ [] → sp = none := fun hne => by
          have hpos : 0 < len * sz := by
            rcases Nat.eq_zero_or_pos (len * sz) with h | h
            · exact absurd (List.eq_nil_of_length_eq_zero (by rw [hfl, h])) hne
            · exact h
          obtain ⟨v, hv, _⟩ := hcell 0 hpos
          unfold World.cell? Addr.add at hv
          simp only [if_true] at hv
          split at hv
          · split at hv
            · cases hv
            · rename_i hs
              cases sp with
              | none => rfl
              | some s => simp at hs
          · cases hv
        subst h2
        refine ⟨[.sl rows.length rows.flatten], .cons (.sl (some ⟨g, o, sp⟩) rows.length cap rows.flatten g o us (by omega) hcm (fun hne => by rw [hsp hne]) (fun _ h => h) (fun j d hj => ?_) (fun j d hj => ?_)) .nil, rows, rfl, by omega, h3⟩
        · have hjl : j < rows.length * sz := by have := (List.getElem?_eq_some_iff.1 hj).1; omega
          have hne : rows.flatten ≠ [] := fun e => by rw [e] at hj; simp at hj
          obtain ⟨v, hv, hu'⟩ := hcell j hjl
          rw [hsp hne] at hv
          rw [hu', ← hv, cellv]
          unfold Addr.add
          by_cases h0 : j = 0
          · subst h0; simp
          · rw [if_neg h0]
        · have hjl : j < rows.length * sz := by have := (List.getElem?_eq_some_iff.1 hj).1; omega
          have := h1.get j d hj
          rwa [List.getD_eq_getElem?_getD, List.getElem?_map, List.getElem?_range hjl] at this
      · cases h
    case h_9 cs o0 cs2 fs hu =>
      simp only [hu]
      split at h
      · rename_i hlen
        obtain ⟨xs, hxs, hxe⟩ := Option.map_eq_some_iff.1 h
        have hqe : ∀ y ∈ xs, Q y.1 := by
          subst hxe
          exact fun y hy => hB.agg _ hx _ (List.mem_map_of_mem hy)
        obtain ⟨k1, k2, k3⟩ := kid_struct hl ht hu
        obtain ⟨parts, h1, h2, h3⟩ := fields_rep (n := n) (P := P) (W := W) (cs := cs) fs.toList 0 xs (fun f hf x hx hqx => by
          obtain ⟨ds, h1, h2⟩ := rep_cells hB hl n f.type _ x (k1 f hf) hx hqx
          refine ⟨ds, h1, ?_, h2⟩
          obtain ⟨j, hj⟩ := List.mem_iff_getElem?.1 hf
          have h3 := k3 j f hj
          have h4 : f.offset + P.cellsOf f.type ≤ cs.length := by
            rw [hlen, k2, h3]
            have hjl := (List.getElem?_eq_some_iff.1 hj).1
            have e : fs.toList = fs.toList.take j ++ f :: fs.toList.drop (j + 1) := by
              rw [← (List.getElem?_eq_some_iff.1 hj).2, ← List.drop_eq_getElem_cons hjl, List.take_append_drop]
            rw [e, List.take_append_of_le_length (by rw [List.length_take]; omega), List.take_take, Nat.min_self]
            simp only [List.map_append, List.map_cons, List.sum_append, List.sum_cons]
            omega
          rw [h1.len, List.length_take, List.length_drop]
          omega) hxs hqe (fun j f hj => by rw [Nat.zero_add]; exact k3 j f hj)
        rw [List.drop_zero, List.take_of_length_le (by rw [hlen, k2]; exact Nat.le_refl _)] at h1
        exact ⟨parts.flatten, h1, parts, rfl, h2, h3⟩
      · cases h
    case h_10 cs o0 cs2 k e hu =>
      simp only [hu]
      split at h
      · rename_i hlen
        obtain ⟨xs, hxs, hxe⟩ := Option.map_eq_some_iff.1 h
        have hqe : ∀ y ∈ xs, Q y.1 := by
          subst hxe
          exact fun y hy => hB.agg _ hx _ (List.mem_map_of_mem hy)
        obtain ⟨k1, k2⟩ := kid_array hl ht hu
        rw [List.range_eq_range'] at hxs
        obtain ⟨parts, h1, h2, h3⟩ := items_rep (n := n) (e := e) (P := P) (W := W) (cs := cs) (sz := P.cellsOf e) k 0 xs (fun i _ hi x hx hqx => by
          obtain ⟨ds, h1, h2⟩ := rep_cells hB hl n e _ x k1 hx hqx
          refine ⟨ds, h1, ?_, h2⟩
          have := Nat.mul_le_mul_right (P.cellsOf e) (show i + 1 ≤ k by omega)
          rw [Nat.add_mul] at this
          rw [h1.len, List.length_take, List.length_drop, hlen, k2]
          omega) hxs hqe
        rw [Nat.zero_mul, List.drop_zero, List.take_of_length_le (by rw [hlen, k2]; exact Nat.le_refl _)] at h1
        exact ⟨parts.flatten, h1, parts, rfl, h2, h3⟩
      · cases h
    all_goals first
      | (cases h; done)
      | (refine ⟨_, RepL.un _, ?_⟩; simp only [*]; done)
      | (refine ⟨_, RepL.un _, ?_⟩; simp_all; done)
      | (rename_i hu; refine ⟨_, RepL.un _, ?_⟩; rw [hu]; trivial)
      | (rename_i hu _; refine ⟨_, RepL.un _, ?_⟩; rw [hu]; trivial)
      | (rename_i hu _ _; refine ⟨_, RepL.un _, ?_⟩; rw [hu]; trivial)
theorem arg_agg (hB : Below Q R) (hl : laidOutB P = true) {base : Nat} {t : TypeId} {v : Value} {d : DataW H} {p : List MemPlace} (ht : t < P.types.size) (hu : (match P.underlying t with | some (.struct _) => true | some (.array _ _) => true | _ => false) = true)
    (hval : Value.okWide P W .any base t v) (h : DataW.Trod enc P W 0 (fun _ => true) true t v d p) (hd : Q d) : ∃ n ds, RepI (fun _ => False) W v (.agg ds) ∧ IsC P R n t ds := by
  have hv : ∃ cs : Array Value, v = .agg cs := by
    unfold Value.okWide at hval
    split at hval
    · obtain ⟨cs, h, _⟩ := hval; exact ⟨cs, h⟩
    · obtain ⟨cs, h, _⟩ := hval; exact ⟨cs, h⟩
    · rename_i h1 h2
      split at hu
      · rename_i h3; exact absurd h3 (h1 _)
      · rename_i h3; exact absurd h3 (h2 _ _)
      · cases hu
  obtain ⟨cs, rfl⟩ := hv
  obtain ⟨n, h⟩ := h
  obtain ⟨ds, h1, h2⟩ := rep_cells hB hl n t cs.toList _ ht h hd
  refine ⟨n, ds, .agg cs ds (by rw [h1.len]; simp) fun j d hj => ?_, h2⟩
  have := h1.get j d hj
  rwa [List.getD_eq_getElem?_getD, Array.getElem?_toList, ← Array.getD_eq_getD_getElem?] at this
theorem arg_one (hB : Below Q R) (hl : laidOutB P = true) {t : TypeId} {v : Value} {d : DataW H} {p : List MemPlace} (ht : t < P.types.size) (hv : v.cells = #[v]) (h : DataW.Trod enc P W 0 (fun _ => true) true t v d p) (hd : Q d) : ∃ n e, RepI (fun _ => False) W v e ∧ IsC P R n t [e] := by
  obtain ⟨n, h⟩ := h
  rw [hv] at h
  obtain ⟨ds, h1, h2⟩ := rep_cells hB hl n t [v] _ ht h hd
  cases h1 with
  | cons h t =>
    cases t
    exact ⟨n, _, h, h2⟩
section
variable {n : Nat} {t e : TypeId} {ds : List D}
theorem IsC.int {k : IntKind} (h : IsC P R n t ds) (hu : P.underlying t = some (.int k)) : ∃ z, ds = [.int k z] ∧ (Lit.int k z).wf = true := by
  cases n with
  | zero => exact h.elim
  | succ n => simp only [IsC, hu] at h; exact h
theorem IsC.bool (h : IsC P R n t ds) (hu : P.underlying t = some .bool) : ∃ b, ds = [.bool b] := by
  cases n with
  | zero => exact h.elim
  | succ n => simp only [IsC, hu] at h; exact h
theorem IsC.str (h : IsC P R n t ds) (hu : P.underlying t = some .string) : ∃ s : ByteArray, ds = [.str s] ∧ s.size ≤ 9223372036854775807 ∧ R s := by
  cases n with
  | zero => exact h.elim
  | succ n => simp only [IsC, hu] at h; exact h
theorem IsC.slice (h : IsC P R n t ds) (hu : P.underlying t = some (.slice e)) : ∃ m, ∃ rows : List (List D), ds = [.sl rows.length rows.flatten] ∧ rows.length ≤ 9223372036854775807 ∧ ∀ r ∈ rows, r.length = P.cellsOf e ∧ IsC P R m e r := by
  cases n with
  | zero => exact h.elim
  | succ n => simp only [IsC, hu] at h; exact ⟨n, h⟩
theorem IsC.struct {fs : Array Field} (h : IsC P R n t ds) (hu : P.underlying t = some (.struct fs)) : ∃ m, ∃ parts : List (List D), ds = parts.flatten ∧ parts.length = fs.toList.length ∧ ∀ (i : Nat) f p, fs.toList[i]? = some f → parts[i]? = some p → p.length = P.cellsOf f.type ∧ IsC P R m f.type p := by
  cases n with
  | zero => exact h.elim
  | succ n => simp only [IsC, hu] at h; exact ⟨n, h⟩
theorem IsC.array {k : Nat} (h : IsC P R n t ds) (hu : P.underlying t = some (.array k e)) : ∃ m, ∃ parts : List (List D), ds = parts.flatten ∧ parts.length = k ∧ ∀ p ∈ parts, p.length = P.cellsOf e ∧ IsC P R m e p := by
  cases n with
  | zero => exact h.elim
  | succ n => simp only [IsC, hu] at h; exact ⟨n, h⟩
theorem ints_of {k : IntKind} (hu : P.underlying e = some (.int k)) {m : Nat} : ∀ parts : List (List D), (∀ p ∈ parts, p.length = P.cellsOf e ∧ IsC P R m e p) → ∃ l : List Int, parts.flatten = l.map (.int k) ∧ l.length = parts.length ∧ ∀ z ∈ l, (Lit.int k z).wf = true
  | [], _ => ⟨[], rfl, rfl, fun z hz => by simp at hz⟩
  | p :: ps, h => by
    obtain ⟨l, h1, h2, h3⟩ := ints_of hu ps (fun q hq => h q (List.mem_cons_of_mem _ hq))
    obtain ⟨z, rfl, hw⟩ := (h p List.mem_cons_self).2.int hu
    refine ⟨z :: l, by simp [h1], by simp [h2], fun y hy => ?_⟩
    rcases List.mem_cons.1 hy with rfl | hy
    · exact hw
    · exact h3 y hy
theorem strs_of (hu : P.underlying e = some .string) {m : Nat} : ∀ parts : List (List D), (∀ p ∈ parts, p.length = P.cellsOf e ∧ IsC P R m e p) → ∃ l : List ByteArray, parts.flatten = l.map .str ∧ l.length = parts.length ∧ ∀ z ∈ l, z.size ≤ 9223372036854775807
  | [], _ => ⟨[], rfl, rfl, fun z hz => by simp at hz⟩
  | p :: ps, h => by
    obtain ⟨l, h1, h2, h3⟩ := strs_of hu ps (fun q hq => h q (List.mem_cons_of_mem _ hq))
    obtain ⟨z, rfl, hw⟩ := (h p List.mem_cons_self).2.str hu
    refine ⟨z :: l, by simp [h1], by simp [h2], fun y hy => ?_⟩
    rcases List.mem_cons.1 hy with rfl | hy
    · exact hw.1
    · exact h3 y hy
theorem IsC.row {k : IntKind} (h : IsC P R n t ds) (hu : P.underlying t = some (.slice e)) (he : P.underlying e = some (.int k)) : ∃ l : List Int, ds = [.sl l.length (l.map (.int k))] ∧ (∀ z ∈ l, (Lit.int k z).wf = true) ∧ l.length ≤ 9223372036854775807 := by
  obtain ⟨m, rows, rfl, h1, h2⟩ := h.slice hu
  obtain ⟨l, h3, h4, h5⟩ := ints_of he rows h2
  exact ⟨l, by rw [h3, h4], h5, by omega⟩
theorem IsC.strs (h : IsC P R n t ds) (hu : P.underlying t = some (.slice e)) (he : P.underlying e = some .string) : ∃ l : List ByteArray, ds = [.sl l.length (l.map .str)] ∧ (∀ z ∈ l, z.size ≤ 9223372036854775807) ∧ l.length ≤ 9223372036854775807 := by
  obtain ⟨m, rows, rfl, h1, h2⟩ := h.slice hu
  obtain ⟨l, h3, h4, h5⟩ := strs_of he rows h2
  exact ⟨l, by rw [h3, h4], h5, by omega⟩
theorem IsC.ints {k : IntKind} {m : Nat} (h : IsC P R n t ds) (hu : P.underlying t = some (.array m e)) (he : P.underlying e = some (.int k)) : ∃ l : List Int, ds = l.map (.int k) ∧ l.length = m ∧ ∀ z ∈ l, (Lit.int k z).wf = true := by
  obtain ⟨q, parts, rfl, h1, h2⟩ := h.array hu
  obtain ⟨l, h3, h4, h5⟩ := ints_of he parts h2
  exact ⟨l, h3, by omega, h5⟩
def AllC (P : Program) (R : ByteArray → Prop) (m : Nat) : List TypeId → List (List D) → Prop
  | [], [] => True
  | u :: us, p :: ps => IsC P R m u p ∧ AllC P R m us ps
  | _, _ => False
theorem allC_of {m : Nat} : ∀ (l : List Field) (parts : List (List D)), parts.length = l.length → (∀ (i : Nat) f p, l[i]? = some f → parts[i]? = some p → p.length = P.cellsOf f.type ∧ IsC P R m f.type p) → AllC P R m (l.map (·.type)) parts
  | [], [], _, _ => trivial
  | [], p :: ps, h, _ => by simp at h
  | f :: l, [], h, _ => by simp at h
  | f :: l, p :: ps, h, h2 => ⟨(h2 0 f p rfl rfl).2, allC_of l ps (by simpa using h) fun i f' p' hf hp => h2 (i + 1) f' p' (by simpa using hf) (by simpa using hp)⟩
theorem IsC.fields {fs : Array Field} {ts : List TypeId} (h : IsC P R n t ds) (hu : P.underlying t = some (.struct fs)) (hts : fs.toList.map (·.type) = ts) : ∃ m parts, ds = parts.flatten ∧ AllC P R m ts parts := by
  obtain ⟨m, parts, h1, h2, h3⟩ := h.struct hu
  exact ⟨m, parts, h1, by rw [← hts]; exact allC_of _ _ h2 h3⟩
theorem AllC.one {m : Nat} {t0 : TypeId} {parts : List (List D)} (h : AllC P R m [t0] parts) : ∃ p0, parts = [p0] ∧ IsC P R m t0 p0 := by
  match parts, h with
  | [p0], ⟨h0, _⟩ => exact ⟨p0, rfl, h0⟩
theorem AllC.two {m : Nat} {t0 t1 : TypeId} {parts : List (List D)} (h : AllC P R m [t0, t1] parts) : ∃ p0 p1, parts = [p0, p1] ∧ IsC P R m t0 p0 ∧ IsC P R m t1 p1 := by
  match parts, h with
  | [p0, p1], ⟨h0, h1, _⟩ => exact ⟨p0, p1, rfl, h0, h1⟩
theorem AllC.three {m : Nat} {t0 t1 t2 : TypeId} {parts : List (List D)} (h : AllC P R m [t0, t1, t2] parts) : ∃ p0 p1 p2, parts = [p0, p1, p2] ∧ IsC P R m t0 p0 ∧ IsC P R m t1 p1 ∧ IsC P R m t2 p2 := by
  match parts, h with
  | [p0, p1, p2], ⟨h0, h1, h2, _⟩ => exact ⟨p0, p1, p2, rfl, h0, h1, h2⟩
theorem AllC.five {m : Nat} {t0 t1 t2 t3 t4 : TypeId} {parts : List (List D)} (h : AllC P R m [t0, t1, t2, t3, t4] parts) : ∃ p0 p1 p2 p3 p4, parts = [p0, p1, p2, p3, p4] ∧ IsC P R m t0 p0 ∧ IsC P R m t1 p1 ∧ IsC P R m t2 p2 ∧ IsC P R m t3 p3 ∧ IsC P R m t4 p4 := by
  match parts, h with
  | [p0, p1, p2, p3, p4], ⟨h0, h1, h2, h3, h4, _⟩ => exact ⟨p0, p1, p2, p3, p4, rfl, h0, h1, h2, h3, h4⟩
theorem IsC.nat {fs : Array Field} {tS tU : TypeId} (h : IsC P R n t ds) (hu : P.underlying t = some (.struct fs)) (hts : fs.toList.map (·.type) = [tS]) (hS : P.underlying tS = some (.slice tU)) (hU : P.underlying tU = some (.int .u32)) :
    ∃ l : List Int, ds = [.sl l.length (l.map (.int .u32))] ∧ (∀ z ∈ l, (Lit.int .u32 z).wf = true) ∧ l.length ≤ 9223372036854775807 := by
  obtain ⟨m, parts, rfl, hc⟩ := h.fields hu hts
  obtain ⟨p0, rfl, hd⟩ := AllC.one hc
  obtain ⟨l, rfl, h1, h2⟩ := hd.row hS hU
  exact ⟨l, by simp, h1, h2⟩
theorem IsC.rat {fs fz fn : Array Field} {tZ tN tB tS tU : TypeId} (h : IsC P R n t ds) (hu : P.underlying t = some (.struct fs)) (hts : fs.toList.map (·.type) = [tZ, tN]) (hz : P.underlying tZ = some (.struct fz)) (htz : fz.toList.map (·.type) = [tB, tN]) (hB : P.underlying tB = some .bool)
    (hn : P.underlying tN = some (.struct fn)) (htn : fn.toList.map (·.type) = [tS]) (hS : P.underlying tS = some (.slice tU)) (hU : P.underlying tU = some (.int .u32)) :
    ∃ (b : Bool) (x y : List Int), ds = [.bool b, .sl x.length (x.map (.int .u32)), .sl y.length (y.map (.int .u32))] ∧ (∀ z ∈ x, (Lit.int .u32 z).wf = true) ∧ x.length ≤ 9223372036854775807 ∧ (∀ z ∈ y, (Lit.int .u32 z).wf = true) ∧ y.length ≤ 9223372036854775807 := by
  obtain ⟨m, parts, rfl, hc⟩ := h.fields hu hts
  obtain ⟨p0, p1, rfl, h0, h1⟩ := AllC.two hc
  obtain ⟨m0, parts0, rfl, hd⟩ := h0.fields hz htz
  obtain ⟨q0, q1, rfl, g0, g1⟩ := AllC.two hd
  obtain ⟨b, rfl⟩ := g0.bool hB
  obtain ⟨x, rfl, x1, x2⟩ := g1.nat hn htn hS hU
  obtain ⟨y, rfl, y1, y2⟩ := h1.nat hn htn hS hU
  exact ⟨b, x, y, by simp, x1, x2, y1, y2⟩
end
theorem arg_sl (hB : Below Q R) (hl : laidOutB P = true) {base : Nat} {t e : TypeId} {v : Value} {d : DataW H} {p : List MemPlace} (ht : t < P.types.size) (hu : P.underlying t = some (.slice e))
    (hval : Value.okWide P W .any base t v) (h : DataW.Trod enc P W 0 (fun _ => true) true t v d p) (hd : Q d) : ∃ n x, RepI (fun _ => False) W v x ∧ IsC P R n t [x] := by
  have hcell : Cell.ok P W .any base t v := by
    simp only [Value.okWide, hu, Cell.okWide] at hval
    exact hval
  have hv : v.cells = #[v] := by
    cases v <;> first | rfl | (exfalso; simp [Cell.ok, hu] at hcell)
  exact arg_one hB hl ht hv h hd
section
variable {n : Nat} {t e : TypeId} {ds : List D} {α : Type} {f : α → List D} {q : α → Prop}
theorem rows_of {m : Nat} (hq : ∀ r, IsC P R m e r → ∃ x, r = f x ∧ q x) : ∀ rows : List (List D), (∀ r ∈ rows, r.length = P.cellsOf e ∧ IsC P R m e r) → ∃ l : List α, rows.flatten = l.flatMap f ∧ l.length = rows.length ∧ ∀ x ∈ l, q x
  | [], _ => ⟨[], rfl, rfl, fun x h => by simp at h⟩
  | r :: rows, h => by
    obtain ⟨l, h1, h2, h3⟩ := rows_of hq rows (fun q hq => h q (List.mem_cons_of_mem _ hq))
    obtain ⟨x, rfl, hx⟩ := hq r (h r List.mem_cons_self).2
    refine ⟨x :: l, by simp [h1], by simp [h2], fun y hy => ?_⟩
    rcases List.mem_cons.1 hy with rfl | hy
    · exact hx
    · exact h3 y hy
theorem IsC.list (h : IsC P R n t ds) (hu : P.underlying t = some (.slice e)) (hq : ∀ m r, IsC P R m e r → ∃ x, r = f x ∧ q x) : ∃ l : List α, ds = [.sl l.length (l.flatMap f)] ∧ l.length ≤ 9223372036854775807 ∧ ∀ x ∈ l, q x := by
  obtain ⟨m, rows, rfl, h1, h2⟩ := h.slice hu
  obtain ⟨l, h3, h4, h5⟩ := rows_of (hq m) rows h2
  exact ⟨l, by rw [h3, h4], by omega, h5⟩
end
end Go.Proofs.YtgimaioeifnajaaGreatDoorK.RowU
