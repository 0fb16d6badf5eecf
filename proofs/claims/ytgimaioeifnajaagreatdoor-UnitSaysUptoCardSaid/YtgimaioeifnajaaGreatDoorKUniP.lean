/-
  Units and their texts, plainly: words, atoms, parts; a unit's text is the text that it was read from.
-/
import Derived.Test.YtgimaioeifnajaaGreatDoorKAtD
import Derived.Test.YtgimaioeifnajaaGreatDoorKP
import Derived.Test.YtgimaioeifnajaaGreatDoorKParseN
import Derived.Lib.Join
set_option linter.all false
set_option maxHeartbeats 4000000
namespace Go.Proofs.YtgimaioeifnajaaGreatDoorK.TabT
open AI Dig NatT Go.Lib
abbrev Wd := ByteArray
/-! ### words between signs -/
def jn (l : List Wd) : List UInt8 := join (l.map (·.data.toList)) [45]
def J (l : List Wd) : Wd := ⟨(jn l).toArray⟩
theorem jt_app (s : List UInt8) (a b : List (List UInt8)) : joinTail s (a ++ b) = joinTail s a ++ joinTail s b := by simp [joinTail]
theorem jt_cons (s x : List UInt8) (r : List (List UInt8)) : joinTail s (x :: r) = s ++ x ++ joinTail s r := by simp [joinTail]
theorem join_app {s : List UInt8} {a b : List (List UInt8)} (ha : a ≠ []) (hb : b ≠ []) : join (a ++ b) s = join a s ++ s ++ join b s := by
  match a, b, ha, hb with
  | x :: a, y :: b, _, _ => rw [List.cons_append, join_cons, join_cons, join_cons, jt_app, jt_cons]; simp [List.append_assoc]
theorem jn_one (w : Wd) : jn [w] = w.data.toList := join_one _ _
theorem J_one (w : Wd) : J [w] = w := ba_ext (by simp [J, jn_one])
theorem jn_app {a b : List Wd} (ha : a ≠ []) (hb : b ≠ []) : jn (a ++ b) = jn a ++ 45 :: jn b := by
  unfold jn
  rw [List.map_append, join_app (by simpa using ha) (by simpa using hb)]
  simp
theorem J_data (l : List Wd) : (J l).data.toList = jn l := by simp [J]
theorem jn_flat : ∀ {l : List (List Wd)}, (∀ x ∈ l, x ≠ []) → jn (l.map J) = jn l.flatten
  | [], _ => rfl
  | [a], _ => by simp [jn_one, J_data]
  | a :: b :: l, h => by
    have ih := jn_flat (l := b :: l) (fun x hx => h x (List.mem_cons_of_mem _ hx))
    have ha := h a (List.mem_cons_self)
    have hb := h b (List.mem_cons_of_mem _ List.mem_cons_self)
    rw [List.map_cons, show J a :: (b :: l).map J = [J a] ++ (b :: l).map J from rfl, jn_app (by simp) (by simp), jn_one, J_data, ih, List.flatten_cons (l := a), jn_app ha]
    intro e
    rw [List.flatten_cons] at e
    exact hb (List.append_eq_nil_iff.1 e).1
def inter (w : Wd) : List (List Wd) → List Wd
  | [] => []
  | [a] => a
  | a :: b :: l => a ++ w :: inter w (b :: l)
theorem inter_ne {w : Wd} : ∀ {l : List (List Wd)}, l ≠ [] → (∀ x ∈ l, x ≠ []) → inter w l ≠ []
  | [], h, _ => absurd rfl h
  | [a], _, h => h a List.mem_cons_self
  | a :: b :: l, _, _ => by simp [inter]
theorem join_inter {w : Wd} {s : List UInt8} (hs : s = 45 :: w.data.toList ++ [45]) : ∀ {l : List (List Wd)}, (∀ x ∈ l, x ≠ []) → join (l.map jn) s = jn (inter w l)
  | [], _ => rfl
  | [a], _ => by simp [inter, join_one]
  | a :: b :: l, h => by
    have ih := join_inter hs (l := b :: l) (fun x hx => h x (List.mem_cons_of_mem _ hx))
    have ha := h a (List.mem_cons_self)
    have hb := inter_ne (w := w) (l := b :: l) (by simp) (fun x hx => h x (List.mem_cons_of_mem _ hx))
    rw [List.map_cons, show jn a :: (b :: l).map jn = [jn a] ++ (b :: l).map jn from rfl, join_app (by simp) (by simp), join_one, ih, inter, show w :: inter w (b :: l) = [w] ++ inter w (b :: l) from rfl, jn_app ha (by simp), jn_app (by simp) hb, jn_one, hs]
    simp [List.append_assoc]
theorem join_spl (c : UInt8) : ∀ l, join (spl c l) [c] = l
  | [] => rfl
  | x :: l => by
    have ih := join_spl c l
    rw [spl]
    split
    · rename_i h
      have h : x = c := UInt8.toNat_inj.1 (Nat.eq_of_beq_eq_true h)
      rw [show [] :: spl c l = [[]] ++ spl c l from rfl, join_app (by simp) (spl_ne c l), join_one, ih, h]; rfl
    · cases hs : spl c l with
      | nil => exact absurd hs (spl_ne c l)
      | cons a t =>
        rw [hs] at ih
        rw [join_cons] at ih ⊢
        rw [List.cons_append, ih]
/-! ### words -/
def wc (c : UInt8) : Bool := decide (97 ≤ c.toNat ∧ c.toNat ≤ 122) || isD c
def goodW (w : Wd) : Bool := decide (w.size ≠ 0) && decide (w.size ≤ 20) && w.data.toList.all wc
def numW (w : Wd) : Bool := decide (w.size ≠ 0) && decide (w.size ≤ 20) && !decide (bt w 0 = 48) && allD w
def words (s : Wd) : List Wd := (spl 45 s.data.toList).map fun x => ⟨⟨x⟩⟩
def splW (s : Wd) : Except Int (List Wd) := if 256 < s.size then .error 11 else if (words s).all goodW then .ok (words s) else .error 2
theorem J_words (s : Wd) : J (words s) = s := by
  refine ba_ext ?_
  rw [J_data, jn, words, List.map_map]
  have : (spl 45 s.data.toList).map ((fun x : Wd => x.data.toList) ∘ fun x => (⟨⟨x⟩⟩ : Wd)) = spl 45 s.data.toList := List.map_id'' (fun x => rfl) _
  rw [this, join_spl]
theorem words_ne (s : Wd) : words s ≠ [] := by
  unfold words
  intro h
  exact spl_ne _ _ (List.map_eq_nil_iff.1 h)
def cutA (at' : Wd) (done : List (List Wd)) (cur : List Wd) : List Wd → List (List Wd)
  | [] => done ++ [cur]
  | x :: l => if x = at' then cutA at' (done ++ [cur]) [] l else cutA at' done (cur ++ [x]) l
def cutW (at' : Wd) (l : List Wd) : List (List Wd) := cutA at' [] [] l
theorem inter_snoc {w : Wd} : ∀ {l : List (List Wd)} {a : List Wd} (y : List Wd), inter w (l ++ [a]) ++ w :: y = inter w (l ++ [a, y])
  | [], a, y => rfl
  | [b], a, y => by simp [inter]
  | b :: c :: l, a, y => by
    have := inter_snoc (w := w) (l := c :: l) (a := a) y
    simp only [List.cons_append] at this ⊢
    rw [inter, inter, List.append_assoc, List.cons_append, this]
theorem inter_add {w : Wd} : ∀ {l : List (List Wd)} {a : List Wd} (y : List Wd), inter w (l ++ [a]) ++ y = inter w (l ++ [a ++ y])
  | [], a, y => rfl
  | [b], a, y => by simp [inter]
  | b :: c :: l, a, y => by
    have := inter_add (w := w) (l := c :: l) (a := a) y
    simp only [List.cons_append] at this ⊢
    rw [inter, inter, List.append_assoc, List.cons_append, this]
theorem inter_cutA {w : Wd} : ∀ {l : List Wd} {done : List (List Wd)} {cur : List Wd}, inter w (cutA w done cur l) = inter w (done ++ [cur]) ++ l
  | [], done, cur => by simp [cutA]
  | x :: l, done, cur => by
    rw [cutA]
    split
    · rename_i h
      subst h
      rw [inter_cutA, show x :: l = [x] ++ l from rfl, ← List.append_assoc, inter_snoc, List.append_assoc]; rfl
    · rw [inter_cutA, ← inter_add, List.append_assoc]; rfl
theorem inter_cutW {w : Wd} {l : List Wd} : inter w (cutW w l) = l := by rw [cutW, inter_cutA]; rfl
theorem cutA_ne {w : Wd} : ∀ {l : List Wd} {done : List (List Wd)} {cur : List Wd}, 0 < (cutA w done cur l).length
  | [], done, cur => by simp [cutA]
  | x :: l, done, cur => by
    rw [cutA]
    split
    · exact cutA_ne
    · exact cutA_ne
/-! ### atoms -/
structure Kn where
  names : List Wd
  prefs : List Wd
def Kn.D (k : Kn) : D := .agg [.sl k.names.length (k.names.map .str), .sl k.prefs.length (k.prefs.map .str)]
def wSq : Wd := ⟨#[115, 113, 117, 97, 114, 101]⟩
def wCu : Wd := ⟨#[99, 117, 98, 105, 99]⟩
def wPow (n : Nat) : Wd := (⟨#[112, 111, 119]⟩ : Wd) ++ ⟨(itoa (n : Int)).toArray⟩
def wPer : Wd := ⟨#[112, 101, 114]⟩
def wAnd : Wd := ⟨#[97, 110, 100]⟩
def w1 : Wd := ⟨#[49]⟩
def powF (w : Wd) : Nat → Nat → Nat
  | 0, _ => 1
  | f + 1, n => if w = wPow n then n else powF w f (n + 1)
def powW (w : Wd) : Nat := if w = wSq then 2 else if w = wCu then 3 else powF w 12 4
theorem powF_bnd {w : Wd} : ∀ (f n : Nat), 1 ≤ n → 1 ≤ powF w f n ∧ (powF w f n ≠ 1 → n ≤ powF w f n ∧ powF w f n < n + f ∧ w = wPow (powF w f n))
  | 0, n, h => ⟨Nat.le_refl 1, fun h => absurd rfl h⟩
  | f + 1, n, h => by
    rw [powF]
    split
    · rename_i e; exact ⟨h, fun _ => ⟨Nat.le_refl n, by omega, e⟩⟩
    · have := powF_bnd (w := w) f (n + 1) (by omega)
      exact ⟨this.1, fun h => by have := this.2 h; exact ⟨by omega, by omega, this.2.2⟩⟩
def powS (n : Int) : List Wd := if n = 1 then [] else if n = 2 then [wSq] else if n = 3 then [wCu] else [wPow n.toNat]
theorem powW_bnd (w : Wd) : 1 ≤ powW w ∧ powW w ≤ 15 ∧ (powW w ≠ 1 → powS (powW w) = [w]) := by
  unfold powW
  split
  · rename_i h; subst h; exact ⟨by decide, by decide, fun _ => rfl⟩
  · split
    · rename_i h; subst h; exact ⟨by decide, by decide, fun _ => rfl⟩
    · obtain ⟨h1, h2⟩ := powF_bnd (w := w) 12 4 (by omega)
      by_cases h : powF w 12 4 = 1
      · rw [h]; exact ⟨by decide, by decide, fun h => absurd rfl h⟩
      · obtain ⟨h3, h4, h5⟩ := h2 h
        refine ⟨h1, by omega, fun _ => ?_⟩
        unfold powS
        rw [if_neg (by omega), if_neg (by omega), if_neg (by omega), Int.toNat_natCast, ← h5]
def behind (p s : Wd) : Wd := ⟨(trimPrefix s.data.toList p.data.toList).toArray⟩
def hasP (p s : Wd) : Bool := hasPrefix s.data.toList p.data.toList
theorem behind_app {p s : Wd} (h : hasP p s = true) : p ++ behind p s = s := by
  unfold hasP hasPrefix at h
  refine ba_ext ?_
  rw [ByteArray.data_append, Array.toList_append, behind, trimPrefix, hasPrefix, if_pos h]
  obtain ⟨t, ht⟩ := List.isPrefixOf_iff_prefix.1 h
  rw [← ht]
  simp
def inW (s : Wd) (l : List Wd) : Bool := l.any fun x => decide (x = s)
def bestS (names : List Wd) (s : Wd) (b : Option (Wd × Wd)) (p : Wd) : Option (Wd × Wd) :=
  if (hasP p s && inW (behind p s) names && (match b with | none => true | some q => decide (q.1.size < p.size))) = true then some (p, behind p s) else b
def bestF (names : List Wd) (s : Wd) (b : Option (Wd × Wd)) (l : List Wd) : Option (Wd × Wd) := l.foldl (bestS names s) b
theorem bestF_app {names : List Wd} {s : Wd} : ∀ {l : List Wd} {b : Option (Wd × Wd)}, (∀ q, b = some q → q.1 ++ q.2 = s) → ∀ q, bestF names s b l = some q → q.1 ++ q.2 = s
  | [], b, h, q, hq => h q hq
  | p :: l, b, h, q, hq => by
    refine bestF_app (l := l) (b := bestS names s b p) (fun q hq => ?_) q hq
    unfold bestS at hq
    by_cases hc : hasP p s = true
    · rw [hc, Bool.true_and] at hq
      generalize (inW (behind p s) names && _) = c at hq
      cases c with
      | true => cases hq; exact behind_app hc
      | false => exact h q hq
    · rw [Bool.not_eq_true] at hc
      rw [hc] at hq
      exact h q hq
def nameA (k : Kn) (s : Wd) : Option (Wd × Wd) := if inW s k.names = true then some (⟨#[]⟩, s) else bestF k.names s none k.prefs
theorem nameA_app {k : Kn} {s : Wd} {q : Wd × Wd} (h : nameA k s = some q) : q.1 ++ q.2 = s := by
  unfold nameA at h
  split at h
  · cases h
    exact ba_ext (by simp [ByteArray.data_append])
  · exact bestF_app (fun q h => by cases h) q h
def parseA (k : Kn) : List Wd → Option (At × Nat)
  | [] => none
  | w :: l => match (if powW w = 1 then some w else l[0]?) with
    | none => none
    | some s => match nameA k s with
      | none => none
      | some q => some (⟨q.1, q.2, (powW w : Int)⟩, if powW w = 1 then 1 else 2)
def atW (a : At) : List Wd := powS a.pw ++ [a.pre ++ a.name]
theorem atW_ne (a : At) : atW a ≠ [] := by simp [atW]
theorem parseA_words {k : Kn} {l : List Wd} {a : At} {n : Nat} (h : parseA k l = some (a, n)) : l = atW a ++ l.drop n ∧ 1 ≤ n ∧ n ≤ l.length ∧ 1 ≤ a.pw ∧ a.pw ≤ 15 := by
  match l, h with
  | w :: l, h =>
    rw [parseA] at h
    obtain ⟨h1, h2, h3⟩ := powW_bnd w
    by_cases hp : powW w = 1
    · rw [if_pos hp, if_pos hp] at h
      dsimp only at h
      cases hn : nameA k w with
      | none => rw [hn] at h; cases h
      | some q =>
        rw [hn] at h
        cases h
        have hq := nameA_app hn
        unfold atW
        dsimp only
        rw [hq, hp]
        exact ⟨rfl, Nat.le_refl 1, by simp, by simp, by simp⟩
    · rw [if_neg hp, if_neg hp] at h
      match l, h with
      | [], h => cases h
      | v :: l, h =>
        rw [List.getElem?_cons_zero] at h
        dsimp only at h
        cases hn : nameA k v with
        | none => rw [hn] at h; cases h
        | some q =>
          rw [hn] at h
          cases h
          have hq := nameA_app hn
          unfold atW
          dsimp only
          rw [hq, h3 hp]
          refine ⟨rfl, by omega, by simp, by omega, by omega⟩
def rowF (k : Kn) : Nat → List Wd → Option (List At)
  | _, [] => some []
  | 0, _ :: _ => none
  | f + 1, w :: l => match parseA k (w :: l) with
    | none => none
    | some (a, n) => (rowF k f ((w :: l).drop n)).map fun r => a :: r
def rowA (k : Kn) (l : List Wd) : Option (List At) := rowF k l.length l
def good15 (a : At) : Prop := 1 ≤ a.pw ∧ a.pw ≤ 15
theorem rowF_words {k : Kn} : ∀ {f : Nat} {l : List Wd} {r : List At}, rowF k f l = some r → l = r.flatMap atW ∧ ∀ a ∈ r, good15 a
  | 0, [], r, h => by cases h; exact ⟨rfl, (fun a h => by cases h)⟩
  | f + 1, [], r, h => by cases h; exact ⟨rfl, (fun a h => by cases h)⟩
  | 0, w :: l, r, h => by cases h
  | f + 1, w :: l, r, h => by
    rw [rowF] at h
    cases hp : parseA k (w :: l) with
    | none => rw [hp] at h; cases h
    | some q =>
      obtain ⟨a, n⟩ := q
      rw [hp] at h
      dsimp only at h
      obtain ⟨r', hr, rfl⟩ := Option.map_eq_some_iff.1 h
      obtain ⟨h1, h2, h3, h4, h5⟩ := parseA_words hp
      obtain ⟨h6, h7⟩ := rowF_words hr
      refine ⟨?_, fun x hx => ?_⟩
      · rw [List.flatMap_cons, ← h6]; exact h1
      · rcases List.mem_cons.1 hx with rfl | hx
        · exact ⟨h4, h5⟩
        · exact h7 x hx
theorem rowF_more {k : Kn} : ∀ {f g : Nat} {l : List Wd}, l.length ≤ f → l.length ≤ g → rowF k f l = rowF k g l
  | 0, 0, l, _, _ => rfl
  | 0, g + 1, l, h, _ => by
    have : l = [] := List.eq_nil_of_length_eq_zero (by omega)
    subst this; rfl
  | f + 1, 0, l, _, h => by
    have : l = [] := List.eq_nil_of_length_eq_zero (by omega)
    subst this; rfl
  | f + 1, g + 1, [], _, _ => rfl
  | f + 1, g + 1, w :: l, h1, h2 => by
    rw [rowF, rowF]
    cases hp : parseA k (w :: l) with
    | none => rfl
    | some q =>
      obtain ⟨a, n⟩ := q
      obtain ⟨_, h3, h4, _⟩ := parseA_words hp
      dsimp only
      rw [rowF_more (f := f) (g := g)]
      · rw [List.length_drop]; simp only [List.length_cons] at *; omega
      · rw [List.length_drop]; simp only [List.length_cons] at *; omega
theorem rowA_step {k : Kn} {l : List Wd} (h : l ≠ []) : rowA k l = (match parseA k l with | none => none | some (a, n) => (rowA k (l.drop n)).map fun r => a :: r) := by
  match l, h with
  | w :: l, _ =>
    rw [rowA, List.length_cons, rowF]
    cases hp : parseA k (w :: l) with
    | none => rfl
    | some q =>
      obtain ⟨a, n⟩ := q
      obtain ⟨_, h3, h4, _⟩ := parseA_words hp
      dsimp only
      rw [rowA, rowF_more (f := l.length) (g := ((w :: l).drop n).length)]
      · rw [List.length_drop]; simp only [List.length_cons] at *; omega
      · exact Nat.le_refl _
theorem rowA_nil {k : Kn} : rowA k [] = some [] := rfl
/-! ### parts -/
structure Pt where
  num : List At
  den : List At
  c : Nat
def denA (k : Kn) (num : List At) (c : Nat) (l : List Wd) : Option Pt := match rowA k l with
  | none => none
  | some den => if num.length + den.length ≤ 8 then some ⟨num, den, c⟩ else none
def partA (k : Kn) (l : List Wd) : Option Pt :=
  match cutW wPer l with
  | [r0] => if l = [] then none else match rowA k r0 with
    | none => none
    | some num => if num.length ≤ 8 then some ⟨num, [], 1⟩ else none
  | [r0, r1] => match rowA k r0 with
    | none => none
    | some num => match r1 with
      | [] => none
      | w :: r => if numW w = true ∧ w ≠ w1 then denA k num (decV w.data.toList) r else denA k num 1 (w :: r)
  | _ => none
def txt (c : Nat) : Wd := ⟨(decDigits c).toArray⟩
def ptW (p : Pt) : List Wd := p.num.flatMap atW ++ ((if p.c ≠ 1 ∨ p.den ≠ [] then [wPer] else []) ++ ((if p.c ≠ 1 then [txt p.c] else []) ++ p.den.flatMap atW))
theorem dec_decV : ∀ {l : List UInt8}, l ≠ [] → (∀ c ∈ l, isD c = true) → l.head? ≠ some 48 → 0 < decV l ∧ decDigits (decV l) = l := by
  intro l
  induction hn : l.length generalizing l with
  | zero => intro h; exact absurd (List.eq_nil_of_length_eq_zero hn) h
  | succ n ih =>
    intro h0 hd hz
    obtain ⟨m, c, rfl⟩ : ∃ m c, l = m ++ [c] := ⟨l.dropLast, l.getLast h0, (List.dropLast_concat_getLast h0).symm⟩
    have hc := hd c (by simp)
    unfold isD at hc
    have hc := of_decide_eq_true hc
    have e1 : decV (m ++ [c]) = decV m * 10 + (c.toNat - 48) := by
      rw [decV_app]
      simp [decV]
    have hcc : UInt8.ofNat (48 + (c.toNat - 48)) = c := by
      rw [show 48 + (c.toNat - 48) = c.toNat by omega]
      simp
    by_cases hm : m = []
    · subst hm
      rw [e1, show decV [] = 0 from rfl]
      have hc0 : c.toNat ≠ 48 := fun h => hz (by simp; exact UInt8.toNat_inj.1 h)
      refine ⟨by omega, ?_⟩
      rw [dec_small (by omega), show 0 * 10 + (c.toNat - 48) = c.toNat - 48 by omega, hcc]; rfl
    · obtain ⟨h1, h2⟩ := ih (l := m) (by simpa using hn) hm (fun x hx => hd x (by simp [hx])) (fun h => hz (by
        cases m with
        | nil => exact absurd rfl hm
        | cons x m => simpa using h))
      rw [e1]
      refine ⟨by omega, ?_⟩
      rw [dec_big (by omega), show (decV m * 10 + (c.toNat - 48)) / 10 = decV m by omega, show (decV m * 10 + (c.toNat - 48)) % 10 = c.toNat - 48 by omega, h2, hcc]
theorem num_txt {w : Wd} (h : numW w = true) (h1 : w ≠ w1) : txt (decV w.data.toList) = w ∧ decV w.data.toList ≠ 1 ∧ decV w.data.toList ≠ 0 ∧ decV w.data.toList < 100000000000000000000 := by
  unfold numW at h
  simp only [Bool.and_eq_true, Bool.not_eq_true', decide_eq_true_eq, decide_eq_false_iff_not] at h
  obtain ⟨⟨⟨h2, h3⟩, h4⟩, h5⟩ := h
  have hd := allD_iff.1 h5
  have hne : w.data.toList ≠ [] := fun e => h2 (by rw [← ba_len, e]; rfl)
  obtain ⟨h6, h7⟩ := dec_decV hne hd (fun e => h4 (by
    obtain ⟨⟨l⟩⟩ := w
    cases l with
    | nil => cases e
    | cons x l =>
      simp at e
      subst e
      rfl))
  refine ⟨ba_ext (by rw [txt]; simpa using h7), fun e => h1 ?_, by omega, ?_⟩
  · rw [e] at h7
    refine ba_ext ?_
    rw [← h7, dec_small (by omega)]
    rfl
  · have := decV_lt w.data.toList hd
    refine Nat.lt_of_lt_of_le this (Nat.le_trans (Nat.pow_le_pow_right (n := 10) (by omega) (show w.data.toList.length ≤ 20 from h3)) (by decide))
structure Pt.ok (p : Pt) : Prop where
  num15 : ∀ a ∈ p.num, good15 a
  den15 : ∀ a ∈ p.den, good15 a
  few : p.num.length + p.den.length ≤ 8
  c0 : p.c ≠ 0
  c20 : p.c < 100000000000000000000
theorem partA_words {k : Kn} {l : List Wd} {p : Pt} (h : partA k l = some p) : l = ptW p ∧ l ≠ [] ∧ p.ok := by
  have hl := inter_cutW (w := wPer) (l := l)
  unfold partA at h
  match hc : cutW wPer l, h with
  | [], h => cases h
  | [r0], h =>
    rw [hc] at hl
    dsimp only at h
    split at h
    · cases h
    · rename_i hne
      cases hr : rowA k r0 with
      | none => rw [hr] at h; cases h
      | some num =>
        rw [hr] at h
        dsimp only at h
        split at h
        · rename_i h8
          cases h
          obtain ⟨h1, h2⟩ := rowF_words hr
          refine ⟨?_, hne, ⟨h2, (fun a h => by cases h), by simpa using h8, Nat.one_ne_zero, by show (1 : Nat) < _; decide⟩⟩
          rw [← hl]
          show r0 = _
          unfold ptW
          simp [h1]
        · cases h
  | [r0, r1], h =>
    rw [hc] at hl
    have hne : l ≠ [] := by rw [← hl]; simp [inter]
    dsimp only at h
    cases hr : rowA k r0 with
    | none => rw [hr] at h; cases h
    | some num =>
      rw [hr] at h
      dsimp only at h
      obtain ⟨h1, h2⟩ := rowF_words hr
      match r1, h with
      | [], h => cases h
      | w :: r, h =>
        have hl2 : l = r0 ++ wPer :: w :: r := hl.symm
        dsimp only at h
        split at h
        · rename_i hw
          obtain ⟨t1, t2, t3, t4⟩ := num_txt hw.1 hw.2
          unfold denA at h
          cases hd : rowA k r with
          | none => rw [hd] at h; cases h
          | some den =>
            rw [hd] at h
            dsimp only at h
            split at h
            · rename_i h8
              cases h
              obtain ⟨h3, h4⟩ := rowF_words hd
              refine ⟨?_, hne, ⟨h2, h4, h8, t3, t4⟩⟩
              unfold ptW
              dsimp only
              rw [if_pos (.inl t2), if_pos t2, t1, ← h1, ← h3, hl2]
              rfl
            · cases h
        · unfold denA at h
          cases hd : rowA k (w :: r) with
          | none => rw [hd] at h; cases h
          | some den =>
            rw [hd] at h
            dsimp only at h
            split at h
            · rename_i h8
              cases h
              obtain ⟨h3, h4⟩ := rowF_words hd
              refine ⟨?_, hne, ⟨h2, h4, h8, Nat.one_ne_zero, by show (1 : Nat) < _; decide⟩⟩
              have hdn : den ≠ [] := fun e => by rw [e] at h3; cases h3
              unfold ptW
              dsimp only
              rw [if_pos (.inr hdn), if_neg (by omega), ← h1, ← h3, hl2]
              rfl
            · cases h
  | _ :: _ :: _ :: _, h => cases h
/-! ### units -/
def partsA (k : Kn) : List (List Wd) → Option (List Pt)
  | [] => some []
  | w :: l => match partA k w with
    | none => none
    | some p => (partsA k l).map fun r => p :: r
def unitA (k : Kn) (s : Wd) : Except Int (List Pt) := match splW s with
  | .error e => .error e
  | .ok l => if 4 < (cutW wAnd l).length then .error 2 else match partsA k (cutW wAnd l) with
    | none => .error 2
    | some u => .ok u
def ptS (p : Pt) : Wd := J (ptW p)
def andS : List UInt8 := [45, 97, 110, 100, 45]
def unitS (u : List Pt) : Wd := ⟨(join ((u.map ptS).map (·.data.toList)) andS).toArray⟩
theorem partsA_words {k : Kn} : ∀ {l : List (List Wd)} {u : List Pt}, partsA k l = some u → l = u.map ptW ∧ (∀ x ∈ l, x ≠ []) ∧ u.length = l.length ∧ ∀ p ∈ u, p.ok
  | [], u, h => by cases h; exact ⟨rfl, (fun x h => by cases h), rfl, (fun x h => by cases h)⟩
  | w :: l, u, h => by
    rw [partsA] at h
    cases hp : partA k w with
    | none => rw [hp] at h; cases h
    | some p =>
      rw [hp] at h
      dsimp only at h
      obtain ⟨r, hr, rfl⟩ := Option.map_eq_some_iff.1 h
      obtain ⟨h1, h2, h3⟩ := partA_words hp
      obtain ⟨h4, h5, h6, h7⟩ := partsA_words hr
      refine ⟨by rw [List.map_cons, ← h1, ← h4], fun x hx => ?_, by simp [h6], fun x hx => ?_⟩
      · rcases List.mem_cons.1 hx with rfl | hx
        · exact h2
        · exact h5 x hx
      · rcases List.mem_cons.1 hx with rfl | hx
        · exact h3
        · exact h7 x hx
theorem unitA_ok {k : Kn} {s : Wd} {u : List Pt} (h : unitA k s = .ok u) : unitS u = s ∧ u.length ≤ 4 ∧ 1 ≤ u.length ∧ (∀ p ∈ u, p.ok) ∧ s.size ≤ 256 := by
  unfold unitA splW at h
  by_cases h1 : 256 < s.size
  · rw [if_pos h1] at h; cases h
  · rw [if_neg h1] at h
    by_cases h2 : (words s).all goodW = true
    · rw [if_pos h2] at h
      dsimp only at h
      split at h
      · cases h
      · rename_i h4
        cases hp : partsA k (cutW wAnd (words s)) with
        | none => rw [hp] at h; cases h
        | some u' =>
          rw [hp] at h
          cases h
          obtain ⟨h5, h6, h7, h8⟩ := partsA_words hp
          have h9 : 0 < (cutW wAnd (words s)).length := cutA_ne
          refine ⟨?_, by omega, by omega, h8, by omega⟩
          refine ba_ext ?_
          unfold unitS
          rw [List.map_map]
          have e : (u.map ((fun x : Wd => x.data.toList) ∘ ptS)) = (u.map ptW).map jn := by
            rw [List.map_map]
            exact List.map_congr_left fun p _ => J_data _
          show (join (u.map ((fun x : Wd => x.data.toList) ∘ ptS)) andS).toArray.toList = _
          rw [e, ← h5, join_inter (w := wAnd) (s := andS) rfl h6, List.toList_toArray, inter_cutW, ← J_data, J_words]
    · rw [if_neg h2] at h; cases h
theorem unitA_again {k : Kn} {s : Wd} {u : List Pt} (h : unitA k s = .ok u) : unitA k (unitS u) = .ok u := by rw [(unitA_ok h).1, h]
end Go.Proofs.YtgimaioeifnajaaGreatDoorK.TabT
