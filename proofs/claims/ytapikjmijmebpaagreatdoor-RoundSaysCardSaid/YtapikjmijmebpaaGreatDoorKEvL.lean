/-
  Closed calls, run: functions by what they compute, in a form that the kernel runs fast.
-/
import Derived.Test.YtapikjmijmebpaaGreatDoorKEv
import Derived.Test.YtapikjmijmebpaaGreatDoorKNd
import Derived.Test.YtapikjmijmebpaaGreatDoorKRe
import Derived.Test.YtapikjmijmebpaaGreatDoorKLb
set_option linter.all false
set_option linter.unusedVariables false
set_option linter.unusedSimpArgs false
set_option maxHeartbeats 4000000
namespace Go.Proofs.YtapikjmijmebpaaGreatDoorK.EvT
open Go.Proofs.YtapikjmijmebpaaGreatDoorK.AI Go.Proofs.YtapikjmijmebpaaGreatDoorK.NatIr Go.Proofs.YtapikjmijmebpaaGreatDoorK.Dig Go.Proofs.YtapikjmijmebpaaGreatDoorK.NatT Go.Proofs.YtapikjmijmebpaaGreatDoorK.RefT Go.Proofs.YtapikjmijmebpaaGreatDoorK.LibT
variable {G : World → Prop}
def wdF (B : Nat) : Nat → Nat → List Int
  | 0, _ => []
  | f + 1, n => match n with
    | 0 => []
    | m + 1 => (((m + 1) % B : Nat) : Int) :: wdF B f ((m + 1) / B)
theorem wdF_eq {B : Nat} (hB : 2 ≤ B) : ∀ (f n : Nat), n < 2 ^ f → wdF B f n = wd B n
  | 0, n, h => by
    obtain rfl : n = 0 := by simp at h; omega
    rw [wdF, wd_zero]
  | f + 1, 0, _ => by rw [wdF, wd_zero]
  | f + 1, m + 1, h => by
    rw [wdF, wd_pos hB (by omega), wdF_eq hB f _ ?_]
    have h1 : (m + 1) / B ≤ (m + 1) / 2 := Nat.div_le_div_left hB (by omega)
    rw [Nat.pow_succ] at h
    omega
def wdE (B n : Nat) : List Int := wdF B (Nat.log2 n + 1) n
theorem wdE_eq {B : Nat} (hB : 2 ≤ B) (n : Nat) : wdE B n = wd B n := wdF_eq hB _ _ Nat.lt_log2_self
def nD (X : Nat) : D := frcL (wdE 4294967296 X) fun l => .agg [.sl l.length (W l)]
theorem nD_eq (X : Nat) : nD X = N X := by rw [nD, frcL_eq, wdE_eq (by omega)]; rfl
def mD (X : Nat) : D := frcL (wdE 10000 X) fun l => .sl l.length (V l)
theorem mD_eq (X : Nat) : mD X = M X := by rw [mD, frcL_eq, wdE_eq (by omega)]; rfl
def dcF : Nat → Nat → List UInt8 → List UInt8
  | 0, _, acc => acc
  | f + 1, n, acc => frcN n fun n => match Nat.ble 10 n with
    | false => UInt8.ofNat (48 + n) :: acc
    | true => dcF f (n / 10) (UInt8.ofNat (48 + n % 10) :: acc)
theorem dcF_eq : ∀ (f n : Nat) (acc : List UInt8), n < 2 ^ f → 0 < f → dcF f n acc = Lib.decDigits n ++ acc
  | 0, _, _, _, h => absurd h (Nat.lt_irrefl 0)
  | f + 1, n, acc, h, _ => by
    rw [dcF, frcN_eq]
    split
    · rename_i hb
      have hb : ¬ 10 ≤ n := fun h => by rw [Nat.ble_eq_true_of_le h] at hb; cases hb
      rw [dec_small (by omega)]; rfl
    · rename_i hb
      have hb := Nat.le_of_ble_eq_true hb
      rw [Nat.pow_succ] at h
      have hf : 0 < f := by
        rcases Nat.eq_zero_or_pos f with h0 | h0
        · subst h0; simp at h; omega
        · exact h0
      rw [dcF_eq f _ _ (by omega) hf, dec_big (u := n) (by omega), List.append_assoc]; rfl
def dcE (n : Nat) : List UInt8 := dcF (Nat.log2 n + 1) n []
theorem dcE_eq (n : Nat) : dcE n = Lib.decDigits n := by rw [dcE, dcF_eq _ _ _ Nat.lt_log2_self (Nat.succ_pos _), List.append_nil]
def toL (k : IntKind) (B : Int) : List D → Option (List Int)
  | [] => some []
  | .int k' x :: l => if k' = k ∧ 0 ≤ x ∧ x < B then match toL k B l with
    | some l => some (x :: l)
    | none => none else none
  | _ => none
theorem toL_ok {k : IntKind} {B : Nat} : ∀ {cs : List D} {l : List Int}, toL k B cs = some l → cs = l.map (.int k ·) ∧ ok B l
  | [], l, h => by cases h; exact ⟨rfl, ok_nil _⟩
  | d :: cs, l, h => by
    unfold toL at h
    split at h
    · cases ‹_ = []›
    · rename_i k' x l' he
      cases he
      split at h
      · rename_i hc
        obtain ⟨rfl, h1, h2⟩ := hc
        split at h
        · rename_i l2 hl
          cases h
          obtain ⟨rfl, h3⟩ := toL_ok hl
          refine ⟨rfl, fun y hy => ?_⟩
          rcases List.mem_cons.1 hy with rfl | hy
          · exact ⟨h1, h2⟩
          · exact h3 y hy
        · cases h
      · cases h
    · cases h
def dN : D → Option Nat
  | .agg [.sl n cs] => match toL .u32 4294967296 cs with
    | some l => if n = l.length ∧ l.length ≤ 199 then some (vl 4294967296 l) else none
    | none => none
  | _ => none
theorem dN_ok {d : D} {X : Nat} (h : dN d = some X) : Nm 199 X d := by
  unfold dN at h
  split at h
  · split at h
    · rename_i l hl
      split at h
      · rename_i hc
        cases h
        obtain ⟨rfl, hk⟩ := toL_ok (B := 4294967296) hl
        exact ⟨l, _, hc.1, hk, rfl, hc.2, rfl⟩
      · cases h
    · cases h
  · cases h
def dM : D → Option Nat
  | .sl n cs => match toL .i64 10000 cs with
    | some l => if n = l.length ∧ l.length ≤ 800 then (if n = 0 ∨ l.getD (n - 1) 0 ≠ 0 then some (vl 10000 l) else none) else none
    | none => none
  | _ => none
theorem dM_ok {d : D} {X : Nat} (h : dM d = some X) : d = M X ∧ (wd 10000 X).length ≤ 800 := by
  unfold dM at h
  split at h
  · split at h
    · rename_i l hl
      split at h
      · rename_i hc
        split at h
        · rename_i hc2
          cases h
          obtain ⟨rfl, hk⟩ := toL_ok (B := 10000) hl
          have e : l = wd 10000 (vl 10000 l) := eq_wd (by omega) hk fun x hx => by
            by_cases hl0 : l = []
            · subst hl0; cases hx
            · rw [getD_last hl0] at hx
              cases hx
              rcases hc2 with h0 | h0
              · exact absurd (List.eq_nil_of_length_eq_zero (by omega)) hl0
              · rw [hc.1] at h0; exact h0
          rw [M, ← e, hc.1]
          exact ⟨rfl, hc.2⟩
        · cases h
      · cases h
    · cases h
  · cases h
/-! functions of numbers -/
def g1 (f : Nat → D) : List D → Option D
  | [d] => match dN d with
    | some X => some (f X)
    | none => none
  | _ => none
def g2 (f : Nat → Nat → D) : List D → Option D
  | [d, e] => match dN d, dN e with
    | some X, some Y => some (f X Y)
    | _, _ => none
  | _ => none
def h1 (f : Nat → D) : List D → Option D
  | [d] => match dM d with
    | some X => some (f X)
    | none => none
  | _ => none
def h2 (f : Nat → Nat → D) : List D → Option D
  | [d, e] => match dM d, dM e with
    | some X, some Y => some (f X Y)
    | _, _ => none
  | _ => none
variable {P : Program} {F : FuncId}
theorem g1_ok {f : Nat → D} (h : ∀ X d, Nm 199 X d → PCr P G F [d] (f X)) (xs : List D) (r : D) (hx : g1 f xs = some r) : PCr P G F xs r := by
  unfold g1 at hx
  split at hx
  · split at hx
    · rename_i X hX; cases hx; exact h X _ (dN_ok hX)
    · cases hx
  · cases hx
theorem g2_ok {f : Nat → Nat → D} (h : ∀ X Y d e, Nm 199 X d → Nm 199 Y e → PCr P G F [d, e] (f X Y)) (xs : List D) (r : D) (hx : g2 f xs = some r) : PCr P G F xs r := by
  unfold g2 at hx
  split at hx
  · split at hx
    · rename_i X Y hX hY; cases hx; exact h X Y _ _ (dN_ok hX) (dN_ok hY)
    · cases hx
  · cases hx
theorem h1_ok {f : Nat → D} (h : ∀ X, (wd 10000 X).length ≤ 800 → PCr P G F [M X] (f X)) (xs : List D) (r : D) (hx : h1 f xs = some r) : PCr P G F xs r := by
  unfold h1 at hx
  split at hx
  · split at hx
    · rename_i X hX; cases hx; obtain ⟨rfl, h3⟩ := dM_ok hX; exact h X h3
    · cases hx
  · cases hx
theorem h2_ok {f : Nat → Nat → D} (h : ∀ X Y, (wd 10000 X).length ≤ 800 → (wd 10000 Y).length ≤ 800 → PCr P G F [M X, M Y] (f X Y)) (xs : List D) (r : D) (hx : h2 f xs = some r) : PCr P G F xs r := by
  unfold h2 at hx
  split at hx
  · split at hx
    · rename_i X Y hX hY; cases hx; obtain ⟨rfl, h3⟩ := dM_ok hX; obtain ⟨rfl, h4⟩ := dM_ok hY; exact h X Y h3 h4
    · cases hx
  · cases hx
def eOf : List D → Option D
  | [.int .u64 n] => if 0 ≤ n ∧ n < 18446744073709551616 then some (nD n.toNat) else none
  | _ => none
def eCmp : List D → Option D := g2 fun X Y => .int .i64 (cmpN X Y)
def eAdd : List D → Option D := g2 fun X Y => nD (X + Y)
def eSub : List D → Option D := g2 fun X Y => .tup [nD (X - Y), .bool (Nat.ble Y X)]
def eMul : List D → Option D := g2 fun X Y => nD (X * Y)
def eDiv : List D → Option D := g2 fun X Y => match Y with
  | 0 => .tup [.agg [.sl 0 []], .agg [.sl 0 []], .bool false]
  | Z + 1 => .tup [nD (X / (Z + 1)), nD (X % (Z + 1)), .bool true]
def eGcd : List D → Option D := g2 fun X Y => nD (Nat.gcd X Y)
def ePow : List D → Option D
  | [d, .int .i64 k] => match dN d with
    | some X => if k < 1000 then some (nD (X ^ k.toNat)) else none
    | none => none
  | _ => none
def eText : List D → Option D := g1 fun X => .str ⟨⟨dcE X⟩⟩
def eParse : List D → Option D
  | [.str s] => if s.size < 1000000 then (match s.size with
    | 0 => some (.tup [.agg [.sl 0 []], .bool false])
    | _ + 1 => match allD s with
      | true => some (.tup [nD (decV s.data.toList), .bool true])
      | false => some (.tup [.agg [.sl 0 []], .bool false])) else none
  | _ => none
theorem N_zero : N 0 = .agg [.sl 0 []] := by rw [N, wd_zero]; rfl
theorem eOf_ok (hG : Stable G) (xs : List D) (r : D) (h : eOf xs = some r) : PCr Tryz.prog G 38 xs r := by
  unfold eOf at h
  split at h
  · rename_i n
    split at h
    · rename_i hc
      cases h
      have := pcr_of hG n.toNat (by omega)
      rwa [Int.toNat_of_nonneg hc.1, ← nD_eq] at this
    · cases h
  · cases h
theorem eCmp_ok (hG : Stable G) : ∀ xs r, eCmp xs = some r → PCr Tryz.prog G 69 xs r := g2_ok fun X Y d e hx hy => pcr_cmpN hG hx hy (by omega) (by omega)
theorem eAdd_ok (hG : Stable G) : ∀ xs r, eAdd xs = some r → PCr Tryz.prog G 137 xs r := g2_ok fun X Y d e hx hy => by rw [nD_eq]; exact pcr_addN hG hx hy (by omega) (by omega)
theorem eMul_ok (hG : Stable G) : ∀ xs r, eMul xs = some r → PCr Tryz.prog G 118 xs r := g2_ok fun X Y d e hx hy => by rw [nD_eq]; exact pcr_mulN hG hx hy (by omega) (by omega)
theorem eGcd_ok (hG : Stable G) : ∀ xs r, eGcd xs = some r → PCr Tryz.prog G 112 xs r := g2_ok fun X Y d e hx hy => by rw [nD_eq]; exact pcr_gcdN hG hx hy (by omega) (by omega)
theorem ble_dec (X Y : Nat) : Nat.ble Y X = decide (Y ≤ X) := by
  rw [Bool.eq_iff_iff, Nat.ble_eq, decide_eq_true_iff]
theorem eSub_ok (hG : Stable G) : ∀ xs r, eSub xs = some r → PCr Tryz.prog G 138 xs r := g2_ok fun X Y d e hx hy => by rw [nD_eq, ble_dec]; exact pcr_subN hG hx hy (by omega) (by omega)
theorem eDiv_ok (hG : Stable G) : ∀ xs r, eDiv xs = some r → PCr Tryz.prog G 117 xs r := g2_ok fun X Y d e hx hy => by
  cases Y with
  | zero => simp only [← N_zero]; exact pcr_div0 hG hx hy (by omega) (by omega)
  | succ Z => simp only [nD_eq]; exact pcr_divN hG hx hy (by omega) (by omega) (by omega)
theorem ePow_ok (hG : Stable G) (xs : List D) (r : D) (h : ePow xs = some r) : PCr Tryz.prog G 132 xs r := by
  unfold ePow at h
  split at h
  · split at h
    · rename_i X hX
      split at h
      · rename_i hk
        cases h
        rw [nD_eq]
        exact pcr_powN hG (dN_ok hX) _ (by omega) hk
      · cases h
    · cases h
  · cases h
theorem eText_ok (hG : Stable G) (hT : ∀ w, G w → Lib.TabIs Tryz.prog w "internal/strconv.uint64pow10" .u64 Lib.pow10Tab) : ∀ xs r, eText xs = some r → PCr Tryz.prog G 83 xs r := g1_ok fun X d hx => by
  rw [dcE_eq]; exact pcr_textN hG hT hx (by omega)
theorem eParse_ok (hG : Stable G) (xs : List D) (r : D) (h : eParse xs = some r) : PCr Tryz.prog G 108 xs r := by
  unfold eParse at h
  split at h
  · rename_i s
    split at h
    · rename_i hs
      split at h
      · rename_i h0
        cases h
        rw [← N_zero]
        exact pcr_parse_not hG s hs (.inl h0)
      · rename_i k h0
        split at h
        · rename_i hd
          cases h
          rw [nD_eq]
          exact pcr_parse hG s hs (by omega) hd
        · rename_i hd
          cases h
          rw [← N_zero]
          exact pcr_parse_not hG s hs (.inr hd)
    · cases h
  · cases h
/-! the document's numbers -/
def eSmall : List D → Option D
  | [.int .u64 n] => if 0 ≤ n ∧ n < 18446744073709551616 then some (mD n.toNat) else none
  | _ => none
def eRCmp : List D → Option D := h2 fun X Y => .int .i64 (cmpN X Y)
def eRAdd : List D → Option D := h2 fun X Y => mD (X + Y)
def eRMul : List D → Option D := h2 fun X Y => mD (X * Y)
def eWords : List D → Option D
  | [.sl n cs] => match toL .u32 4294967296 cs with
    | some l => if n = l.length ∧ l.length ≤ 400 then some (mD (vl 4294967296 l)) else none
    | none => none
  | _ => none
theorem eSmall_ok (hG : Stable G) (xs : List D) (r : D) (h : eSmall xs = some r) : PCr Tryz.prog G 59 xs r := by
  unfold eSmall at h
  split at h
  · rename_i n
    split at h
    · rename_i hc
      cases h
      have := pcr_rsmall hG n.toNat (by omega)
      rwa [Int.toNat_of_nonneg hc.1, ← mD_eq] at this
    · cases h
  · cases h
theorem eRCmp_ok (hG : Stable G) : ∀ xs r, eRCmp xs = some r → PCr Tryz.prog G 124 xs r := h2_ok fun X Y hx hy => pcr_rcmp hG X Y (by omega) (by omega)
theorem eRAdd_ok (hG : Stable G) : ∀ xs r, eRAdd xs = some r → PCr Tryz.prog G 105 xs r := h2_ok fun X Y hx hy => by rw [mD_eq]; exact pcr_radd hG X Y (by omega) (by omega)
theorem eRMul_ok (hG : Stable G) : ∀ xs r, eRMul xs = some r → PCr Tryz.prog G 102 xs r := h2_ok fun X Y hx hy => by rw [mD_eq]; exact pcr_rmul hG X Y (by omega) (by omega)
theorem eWords_ok (hG : Stable G) (xs : List D) (r : D) (h : eWords xs = some r) : PCr Tryz.prog G 26 xs r := by
  unfold eWords at h
  split at h
  · rename_i n cs
    split at h
    · rename_i l hl
      split at h
      · rename_i hc
        cases h
        obtain ⟨rfl, hk⟩ := toL_ok (B := 4294967296) hl
        rw [mD_eq]
        exact pcr_words hG l n hc.1 hk (by omega)
      · cases h
    · cases h
  · cases h
/-! the library's texts -/
def preB : List UInt8 → List UInt8 → Bool
  | [], _ => true
  | _ :: _, [] => false
  | x :: p, y :: l => Nat.beq x.toNat y.toNat && preB p l
theorem preB_eq : ∀ (p l : List UInt8), preB p l = p.isPrefixOf l
  | [], _ => by simp [preB]
  | _ :: _, [] => rfl
  | x :: p, y :: l => by
    rw [preB, List.isPrefixOf, preB_eq p l]
    congr 1
    rw [Bool.eq_iff_iff, Nat.beq_eq, beq_iff_eq]
    exact ⟨fun h => UInt8.toNat_inj.1 h, fun h => by rw [h]⟩
def eCutP : List D → Option D
  | [.str s, .str p] => match preB p.data.toList s.data.toList with
    | true => frcL (s.data.toList.drop p.data.toList.length) fun l => some (.tup [.str ⟨⟨l⟩⟩, .bool true])
    | false => some (.tup [.str s, .bool false])
  | _ => none
theorem eCutP_ok (xs : List D) (r : D) (h : eCutP xs = some r) : PCr Tryz.prog G 106 xs r := by
  unfold eCutP at h
  split at h
  · rename_i s p
    have h1 := lib_cutprefix (G := G) s p
    unfold Lib.trimPrefix Lib.hasPrefix at h1
    rw [← preB_eq] at h1
    split at h
    · rename_i hp
      rw [frcL_eq] at h
      cases h
      rw [hp] at h1
      exact h1
    · rename_i hp
      cases h
      rw [hp] at h1
      exact h1
  · cases h
def eRepeat : List D → Option D
  | [.str s, .int .i64 (.ofNat m)] => match Nat.ble (s.size * m) 100000, Nat.ble m 100000 with
    | true, true => frcL (Lib.repeatL s.data.toList m) fun l => some (.str ⟨⟨l⟩⟩)
    | _, _ => none
  | _ => none
theorem eRepeat_ok (xs : List D) (r : D) (h : eRepeat xs = some r) : PCr Tryz.prog G 141 xs r := by
  unfold eRepeat at h
  split at h
  · rename_i s m
    split at h
    · rename_i h1 h2
      have h1 := Nat.le_of_ble_eq_true h1
      have h2 := Nat.le_of_ble_eq_true h2
      rw [frcL_eq] at h
      cases h
      exact lib_repeat s m (by omega) (by omega)
    · cases h
  · cases h
def frcP {α : Type} (p : List UInt8 × List UInt8 × Bool) (k : List UInt8 → List UInt8 → Bool → α) : α := frcL p.1 fun u => frcL p.2.1 fun v => frcB p.2.2 fun b => k u v b
def eCut : List D → Option D
  | [.str s, .str p] => match p.data.toList with
    | [c] => match Nat.ble s.size 100000 with
      | true => frcP (cut1 c s.data.toList) fun u v b => some (.tup [.str ⟨⟨u⟩⟩, .str ⟨⟨v⟩⟩, .bool b])
      | false => none
    | _ => none
  | _ => none
theorem eCut_ok (hM : ∀ w, G w → gMax w) (xs : List D) (r : D) (h : eCut xs = some r) : PCr Tryz.prog G 107 xs r := by
  unfold eCut at h
  split at h
  · rename_i s p
    split at h
    · rename_i c hc
      split at h
      · rename_i hs
        have h1 := lib_cut hM s p (by have := Nat.le_of_ble_eq_true hs; omega)
        rw [hc, cut_cut1] at h1
        simp only [frcP, frcL_eq, frcB_eq] at h
        cases h
        exact h1
      · cases h
    · cases h
  · cases h
end Go.Proofs.YtapikjmijmebpaaGreatDoorK.EvT
