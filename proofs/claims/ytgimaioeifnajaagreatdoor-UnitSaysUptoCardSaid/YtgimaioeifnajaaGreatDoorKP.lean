/-
  Joined: Dig, Dec, DecV, Cut, Spl, Rows, RowsV.
-/
import Derived.RowKit
import Derived.Lib.ItoaNum
import Derived.Lib.Repeat
import Derived.Lib.ParseIntB
import Derived.Lib.SlTrimSet
import Derived.Lib.IndexMore
import Derived.Lib.SplitLaws
import Derived.Lib.Replace
import Derived.Test.YtgimaioeifnajaaGreatDoorKAc
import Derived.ChangeKeysEq
set_option linter.all false
set_option maxHeartbeats 4000000
/-
  Plain arithmetic of numbers by digits: no program in sight. 'vl B l' is the number that the digits l (lowest first) tell in base B, 'wd B n' is n's canonical row of digits.
-/
namespace Go.Proofs.YtgimaioeifnajaaGreatDoorK.Dig

def vl (B : Nat) : List Int → Nat
  | [] => 0
  | x :: l => x.toNat + B * vl B l
def ok (B : Nat) (l : List Int) : Prop := ∀ x ∈ l, 0 ≤ x ∧ x < (B : Int)
def wd (B : Nat) (n : Nat) : List Int := if _h : n = 0 ∨ B < 2 then [] else ((n % B : Nat) : Int) :: wd B (n / B)
  termination_by n
  decreasing_by exact Nat.div_lt_self (by omega) (by omega)

theorem wd_zero (B : Nat) : wd B 0 = [] := by rw [wd]; simp
theorem wd_pos {B n : Nat} (hB : 2 ≤ B) (h : n ≠ 0) : wd B n = ((n % B : Nat) : Int) :: wd B (n / B) := by
  rw [wd, dif_neg (by omega)]
theorem vl_nil (B : Nat) : vl B [] = 0 := rfl
theorem vl_cons (B : Nat) (x : Int) (l : List Int) : vl B (x :: l) = x.toNat + B * vl B l := rfl
theorem vl_wd {B : Nat} (hB : 2 ≤ B) (n : Nat) : vl B (wd B n) = n := by
  induction n using Nat.strongRecOn with
  | _ n ih =>
    by_cases h : n = 0
    · subst h; rw [wd_zero]; rfl
    · rw [wd_pos hB h, vl_cons, ih _ (Nat.div_lt_self (by omega) (by omega))]
      have := Nat.mod_add_div n B
      omega
theorem ok_nil (B : Nat) : ok B [] := fun _ h => by cases h
theorem ok_cons {B : Nat} {x : Int} {l : List Int} : ok B (x :: l) ↔ (0 ≤ x ∧ x < (B : Int)) ∧ ok B l := by
  unfold ok; simp
theorem ok_append {B : Nat} {a b : List Int} : ok B (a ++ b) ↔ ok B a ∧ ok B b := by
  unfold ok
  constructor
  · exact fun h => ⟨fun x hx => h x (List.mem_append.2 (.inl hx)), fun x hx => h x (List.mem_append.2 (.inr hx))⟩
  · rintro ⟨h, k⟩ x hx
    rcases List.mem_append.1 hx with hx | hx
    · exact h x hx
    · exact k x hx
theorem ok_take {B : Nat} {l : List Int} (h : ok B l) (i : Nat) : ok B (l.take i) := fun x hx => h x (List.mem_of_mem_take hx)
theorem ok_drop {B : Nat} {l : List Int} (h : ok B l) (i : Nat) : ok B (l.drop i) := fun x hx => h x (List.mem_of_mem_drop hx)
theorem ok_replicate {B : Nat} (hB : 2 ≤ B) (n : Nat) : ok B (List.replicate n 0) := fun x hx => by
  have := (List.mem_replicate.1 hx).2
  omega
theorem ok_wd {B : Nat} (hB : 2 ≤ B) (n : Nat) : ok B (wd B n) := by
  induction n using Nat.strongRecOn with
  | _ n ih =>
    by_cases h : n = 0
    · subst h; rw [wd_zero]; exact ok_nil B
    · rw [wd_pos hB h, ok_cons]
      refine ⟨⟨by omega, ?_⟩, ih _ (Nat.div_lt_self (by omega) (by omega))⟩
      have := Nat.mod_lt n (show B > 0 by omega)
      omega
theorem ok_set {B : Nat} {l : List Int} (h : ok B l) (i : Nat) {v : Int} (hv : 0 ≤ v ∧ v < (B : Int)) : ok B (l.set i v) := fun x hx => by
  rcases List.mem_or_eq_of_mem_set hx with hx | rfl
  · exact h x hx
  · exact hv
theorem ok_get {B : Nat} {l : List Int} (h : ok B l) (hB : 2 ≤ B) (i : Nat) : 0 ≤ l.getD i 0 ∧ l.getD i 0 < (B : Int) := by
  rw [List.getD_eq_getElem?_getD]
  by_cases hi : i < l.length
  · rw [List.getElem?_eq_getElem hi]; exact h _ (List.getElem_mem hi)
  · rw [List.getElem?_eq_none (by omega)]; simp; omega

theorem vl_append (B : Nat) (a b : List Int) : vl B (a ++ b) = vl B a + B ^ a.length * vl B b := by
  induction a with
  | nil => simp [vl]
  | cons x l ih =>
    rw [List.cons_append, vl_cons, vl_cons, ih, List.length_cons, Nat.pow_succ, Nat.mul_add, Nat.mul_comm (B ^ l.length) B, Nat.mul_assoc]
    omega
theorem vl_replicate (B n : Nat) : vl B (List.replicate n 0) = 0 := by
  induction n with
  | zero => rfl
  | succ n ih => rw [List.replicate_succ, vl_cons, ih]; rfl
theorem vl_lt {B : Nat} {l : List Int} (h : ok B l) : vl B l < B ^ l.length := by
  induction l with
  | nil => simp [vl]
  | cons x l ih =>
    obtain ⟨hx, hl⟩ := ok_cons.1 h
    have h1 := ih hl
    rw [vl_cons, List.length_cons, Nat.pow_succ, Nat.mul_comm (B ^ l.length) B]
    have h2 : B * (vl B l + 1) ≤ B * B ^ l.length := Nat.mul_le_mul_left B h1
    rw [Nat.mul_add] at h2
    omega
theorem vl_take_succ (B : Nat) (l : List Int) (i : Nat) (hi : i < l.length) : vl B (l.take (i + 1)) = vl B (l.take i) + B ^ i * (l.getD i 0).toNat := by
  rw [List.take_succ_eq_append_getElem hi, vl_append, List.length_take, Nat.min_eq_left (by omega), List.getD_eq_getElem?_getD, List.getElem?_eq_getElem hi]
  simp [vl]
theorem vl_drop (B : Nat) (l : List Int) (i : Nat) (hi : i < l.length) : vl B (l.drop i) = (l.getD i 0).toNat + B * vl B (l.drop (i + 1)) := by
  rw [List.drop_eq_getElem_cons hi, vl_cons, List.getD_eq_getElem?_getD, List.getElem?_eq_getElem hi]; rfl
theorem vl_take_drop (B : Nat) (l : List Int) (i : Nat) : vl B l = vl B (l.take i) + B ^ min i l.length * vl B (l.drop i) := by
  conv => lhs; rw [← List.take_append_drop i l]
  rw [vl_append, List.length_take]
theorem vl_take_ge (B : Nat) (l : List Int) (i : Nat) (hi : l.length ≤ i) : vl B (l.take i) = vl B l := by rw [List.take_of_length_le hi]

theorem eq_wd {B : Nat} (hB : 2 ≤ B) {l : List Int} (h : ok B l) (ht : ∀ x, l.getLast? = some x → x ≠ 0) : l = wd B (vl B l) := by
  induction l with
  | nil => rw [vl_nil, wd_zero]
  | cons x l ih =>
    obtain ⟨hx, hl⟩ := ok_cons.1 h
    have hne : vl B (x :: l) ≠ 0 := by
      rw [vl_cons]
      cases l with
      | nil =>
        have := ht x (by simp)
        simp [vl]
        omega
      | cons y l =>
        have ih' := ih hl (fun z hz => ht z (by rw [List.getLast?_cons_cons]; exact hz))
        intro h0
        have : vl B (y :: l) = 0 := by
          rcases Nat.eq_zero_or_pos (vl B (y :: l)) with h1 | h1
          · exact h1
          · have := Nat.mul_pos (show 0 < B by omega) h1
            omega
        rw [this, wd_zero] at ih'
        cases ih'
    have ht' : ∀ z, l.getLast? = some z → z ≠ 0 := fun z hz => by
      cases l with
      | nil => cases hz
      | cons y l => exact ht z (by rw [List.getLast?_cons_cons]; exact hz)
    rw [wd_pos hB hne]
    have e1 : vl B (x :: l) % B = x.toNat := by
      rw [vl_cons, Nat.add_mul_mod_self_left, Nat.mod_eq_of_lt (by omega)]
    have e2 : vl B (x :: l) / B = vl B l := by
      rw [vl_cons, Nat.add_mul_div_left _ _ (by omega), Nat.div_eq_of_lt (by omega), Nat.zero_add]
    rw [e1, e2, ← ih hl ht']
    congr 1
    omega
theorem wd_length_le {B : Nat} (hB : 2 ≤ B) {n k : Nat} (h : n < B ^ k) : (wd B n).length ≤ k := by
  induction k generalizing n with
  | zero =>
    have : n = 0 := by simp at h; exact h
    subst this; rw [wd_zero]; simp
  | succ k ih =>
    by_cases h0 : n = 0
    · subst h0; rw [wd_zero]; simp
    · rw [wd_pos hB h0, List.length_cons]
      have : n / B < B ^ k := by
        rw [Nat.div_lt_iff_lt_mul (by omega), ← Nat.pow_succ]; exact h
      have := ih this
      omega
theorem wd_length_gt {B : Nat} (hB : 2 ≤ B) {n k : Nat} (h : B ^ k ≤ n) : k < (wd B n).length := by
  have h1 := vl_lt (ok_wd hB n)
  rw [vl_wd hB] at h1
  have h2 : B ^ k < B ^ (wd B n).length := by omega
  exact (Nat.pow_lt_pow_iff_right (by omega)).1 h2
theorem wd_inj {B : Nat} (hB : 2 ≤ B) {a b : Nat} (h : wd B a = wd B b) : a = b := by rw [← vl_wd hB a, h, vl_wd hB]
theorem wd_eq_nil {B : Nat} (hB : 2 ≤ B) {n : Nat} : wd B n = [] ↔ n = 0 :=
  ⟨fun h => by rw [← vl_wd hB n, h]; rfl, fun h => by rw [h, wd_zero]⟩
theorem wd_last {B : Nat} (hB : 2 ≤ B) (n : Nat) : ∀ x, (wd B n).getLast? = some x → x ≠ 0 := by
  induction n using Nat.strongRecOn with
  | _ n ih =>
    by_cases h : n = 0
    · subst h; rw [wd_zero]; intro x hx; cases hx
    · rw [wd_pos hB h]
      intro x hx
      by_cases h1 : n / B = 0
      · rw [h1, wd_zero] at hx
        have : ((n % B : Nat) : Int) = x := by simpa using hx
        subst this
        have := Nat.mod_add_div n B
        rw [h1] at this
        omega
      · have h2 := ih (n / B) (Nat.div_lt_self (by omega) (by omega))
        rw [wd_pos hB h1, List.getLast?_cons_cons, ← wd_pos hB h1] at hx
        exact h2 x hx
theorem wd_mul_pow {B : Nat} (hB : 2 ≤ B) (n : Nat) (hn : n ≠ 0) (a : Nat) (ha : a < B) : wd B (a + B * n) = (a : Int) :: wd B n := by
  have hp := Nat.mul_pos (show 0 < B by omega) (show 0 < n by omega)
  rw [wd_pos hB (by omega), Nat.add_mul_mod_self_left, Nat.mod_eq_of_lt ha, Nat.add_mul_div_left _ _ (by omega), Nat.div_eq_of_lt ha, Nat.zero_add]
theorem vl_take_next (B : Nat) (l : List Int) (i : Nat) : vl B (l.take (i + 1)) = vl B (l.take i) + B ^ i * (l.getD i 0).toNat := by
  by_cases hi : i < l.length
  · exact vl_take_succ B l i hi
  · rw [List.take_of_length_le (by omega), List.take_of_length_le (by omega), List.getD_eq_getElem?_getD, List.getElem?_eq_none (by omega)]
    simp
theorem vl_set (B : Nat) (l : List Int) (i : Nat) (v : Int) (hi : i < l.length) : vl B ((l.set i v).take (i + 1)) = vl B (l.take i) + B ^ i * v.toNat := by
  rw [vl_take_next, List.take_set_of_le (Nat.le_refl _), List.getD_eq_getElem?_getD, List.getElem?_set_self hi]
  rfl
theorem vl_setw (B : Nat) : ∀ (l : List Int) (i : Nat) (v : Int), i < l.length → vl B (l.set i v) + B ^ i * (l.getD i 0).toNat = vl B l + B ^ i * v.toNat
  | [], i, v, h => by simp at h
  | x :: l, 0, v, h => by simp [vl]; omega
  | x :: l, i + 1, v, h => by
    have ih := vl_setw B l i v (by simpa using h)
    rw [List.set_cons_succ, vl_cons, vl_cons, List.getD_cons_succ, Nat.pow_succ, Nat.mul_comm (B ^ i) B, Nat.mul_assoc, Nat.mul_assoc]
    have h2 : B * vl B (l.set i v) + B * (B ^ i * (l.getD i 0).toNat) = B * vl B l + B * (B ^ i * v.toNat) := by rw [← Nat.mul_add, ih, Nat.mul_add]
    omega
def zt (l : List Int) (n : Nat) : Prop := ∀ j, n ≤ j → l.getD j 0 = 0
theorem zt_set {l : List Int} {n i : Nat} (h : zt l n) (hi : i < n) (v : Int) : zt (l.set i v) n := fun j hj => by
  rw [List.getD_eq_getElem?_getD, List.getElem?_set_ne (by omega), ← List.getD_eq_getElem?_getD]
  exact h j hj
theorem zt_next {l : List Int} {n : Nat} (h : zt l n) (v : Int) : zt (l.set n v) (n + 1) := fun j hj => by
  rw [List.getD_eq_getElem?_getD, List.getElem?_set_ne (by omega), ← List.getD_eq_getElem?_getD]
  exact h j (by omega)
theorem zt_replicate (n m : Nat) : zt (List.replicate n 0) m := fun j _ => by
  rw [List.getD_eq_getElem?_getD, List.getElem?_replicate]
  split <;> rfl
theorem vl_zeros {B : Nat} : ∀ {l : List Int}, zt l 0 → vl B l = 0
  | [], _ => rfl
  | x :: l, h => by
    have h0 : x = 0 := h 0 (Nat.le_refl _)
    have h1 : vl B l = 0 := vl_zeros fun j _ => h (j + 1) (Nat.zero_le _)
    rw [vl_cons, h1, h0]; rfl
theorem zt_vl {B : Nat} {l : List Int} {n : Nat} (h : zt l n) : vl B l = vl B (l.take n) := by
  rw [vl_take_drop B l n, vl_zeros (l := l.drop n), Nat.mul_zero, Nat.add_zero]
  intro j _
  rw [List.getD_eq_getElem?_getD, List.getElem?_drop, ← List.getD_eq_getElem?_getD]
  exact h _ (by omega)
/-! multiplying -/
theorem mul_step {B i j c x y o O O' M V : Nat} (h : O + B ^ (i + j) * c = M + B ^ i * (x * V)) (hs : O' + B ^ (i + j) * o = O + B ^ (i + j) * ((c + (x * y + o)) % B)) :
    O' + B ^ (i + j + 1) * ((c + (x * y + o)) / B) = M + B ^ i * (x * (V + B ^ j * y)) := by
  have h1 : B ^ (i + j) * ((c + (x * y + o)) % B) + B ^ (i + j + 1) * ((c + (x * y + o)) / B) = B ^ (i + j) * c + (B ^ (i + j) * (x * y) + B ^ (i + j) * o) := by
    rw [Nat.pow_succ, Nat.mul_assoc, ← Nat.mul_add, Nat.mod_add_div, Nat.mul_add, Nat.mul_add]
  have h2 : B ^ i * (x * (V + B ^ j * y)) = B ^ i * (x * V) + B ^ (i + j) * (x * y) := by
    rw [Nat.pow_add, Nat.mul_add, Nat.mul_add, Nat.mul_assoc (B ^ i) (B ^ j), Nat.mul_left_comm x (B ^ j) y]
  omega
theorem mul_bound {x y : Int} {n : Int} (hx : 0 ≤ x ∧ x ≤ n) (hy : 0 ≤ y ∧ y ≤ n) : 0 ≤ x * y ∧ x * y ≤ n * n :=
  ⟨Int.mul_nonneg hx.1 hy.1, Int.mul_le_mul hx.2 hy.2 hy.1 (by omega)⟩
/-! adding -/
theorem add_step {B c x y i A E O : Nat} (h : O + B ^ i * c = A + E) : O + B ^ i * ((c + (x + y)) % B) + B ^ (i + 1) * ((c + (x + y)) / B) = (A + B ^ i * x) + (E + B ^ i * y) := by
  have h1 : B ^ i * ((c + (x + y)) % B) + B ^ (i + 1) * ((c + (x + y)) / B) = B ^ i * (c + (x + y)) := by
    rw [Nat.pow_succ, Nat.mul_assoc, ← Nat.mul_add, Nat.mod_add_div]
  rw [Nat.mul_add, Nat.mul_add] at h1
  omega
theorem add_end {B n : Nat} {a b out : List Int} (hB : 2 ≤ B) (ha : ok B a) (hb : ok B b) (hla : a.length < n) (hlb : b.length < n) {c : Nat} (h : vl B (out.take n) + B ^ n * c = vl B (a.take n) + vl B (b.take n)) (ho : out.length = n) : vl B out = vl B a + vl B b := by
  rw [List.take_of_length_le (by omega), List.take_of_length_le (by omega), List.take_of_length_le (by omega)] at h
  have h1 := vl_lt ha
  have h2 := vl_lt hb
  have h3 : B ^ a.length ≤ B ^ (n - 1) := Nat.pow_le_pow_right (by omega) (by omega)
  have h4 : B ^ b.length ≤ B ^ (n - 1) := Nat.pow_le_pow_right (by omega) (by omega)
  have h5 : B ^ n = B ^ (n - 1) * B := by rw [← Nat.pow_succ]; congr 1; omega
  have h6 : B ^ (n - 1) * 2 ≤ B ^ (n - 1) * B := Nat.mul_le_mul_left _ hB
  cases c with
  | zero => omega
  | succ c => rw [Nat.mul_add] at h; omega
/-! taking away -/
theorem sub_step {B : Nat} {x y c d q i A E O : Nat} (h : O + E = A + B ^ i * c) (hd : d + y + c = x + B * q) : (O + B ^ i * d) + (E + B ^ i * y) = (A + B ^ i * x) + B ^ (i + 1) * q := by
  have h1 : B ^ i * d + B ^ i * y + B ^ i * c = B ^ i * x + B ^ (i + 1) * q := by
    rw [Nat.pow_succ, Nat.mul_assoc, ← Nat.mul_add, ← Nat.mul_add, ← Nat.mul_add, hd]
  omega
theorem sub_end {B n : Nat} {a b out : List Int} (hB : 2 ≤ B) (ha : ok B a) (ho : ok B out) (hn : a.length = n) (hle : vl B b ≤ vl B a) {c : Nat} (hout : out.length = n) (h : vl B (out.take n) + vl B (b.take n) = vl B (a.take n) + B ^ n * c) : vl B out = vl B a - vl B b := by
  rw [List.take_of_length_le (by omega), List.take_of_length_le (l := a) (by omega)] at h
  have h1 := vl_lt ha
  have h2 := vl_lt ho
  rw [hn] at h1
  rw [hout] at h2
  have h3 : vl B b = vl B (b.take n) := by
    by_cases hl : b.length ≤ n
    · rw [List.take_of_length_le hl]
    · have h4 := vl_take_drop B b n
      rw [Nat.min_eq_left (by omega)] at h4
      rcases Nat.eq_zero_or_pos (vl B (b.drop n)) with h5 | h5
      · rw [h5] at h4; omega
      · have h6 : B ^ n * 1 ≤ B ^ n * vl B (b.drop n) := Nat.mul_le_mul_left _ h5
        omega
  cases c with
  | zero => omega
  | succ c => rw [Nat.mul_add] at h; omega
/-! dividing by one digit -/
def sdiv (B d : Nat) : List Int → List Int × Nat
  | [] => ([], 0)
  | x :: l => ((((sdiv B d l).2 * B + x.toNat) / d : Nat) :: (sdiv B d l).1, ((sdiv B d l).2 * B + x.toNat) % d)
theorem sdiv_len (B d : Nat) : ∀ l, (sdiv B d l).1.length = l.length
  | [] => rfl
  | x :: l => by simp [sdiv, sdiv_len B d l]
theorem sdiv_lt {B d : Nat} (hd : 0 < d) : ∀ l, (sdiv B d l).2 < d
  | [] => hd
  | x :: l => Nat.mod_lt _ hd
theorem sdiv_vl {B d : Nat} (hd : 0 < d) : ∀ l, d * vl B (sdiv B d l).1 + (sdiv B d l).2 = vl B l
  | [] => by simp [sdiv, vl]
  | x :: l => by
    have ih := sdiv_vl (B := B) hd l
    simp only [sdiv, vl_cons, Int.toNat_natCast]
    have h1 := Nat.mod_add_div ((sdiv B d l).2 * B + x.toNat) d
    have h2 : d * (B * vl B (sdiv B d l).1) + (sdiv B d l).2 * B = B * vl B l := by
      rw [← ih, Nat.mul_add, Nat.mul_left_comm, Nat.mul_comm B (sdiv B d l).2]
    rw [Nat.mul_add]
    omega
theorem sdiv_ok {B d : Nat} (hB : 2 ≤ B) (hd : 0 < d) : ∀ l, ok B l → ok B (sdiv B d l).1
  | [], _ => ok_nil B
  | x :: l, h => by
    obtain ⟨hx, hl⟩ := ok_cons.1 h
    refine ok_cons.2 ⟨⟨Int.natCast_nonneg _, ?_⟩, sdiv_ok hB hd l hl⟩
    have h1 := sdiv_lt (B := B) hd l
    have h2 : ((sdiv B d l).2 * B + x.toNat) / d < B := by
      rw [Nat.div_lt_iff_lt_mul hd]
      have : ((sdiv B d l).2 + 1) * B ≤ d * B := Nat.mul_le_mul_right B h1
      rw [Nat.add_mul] at this
      rw [Nat.mul_comm B d]
      omega
    omega
theorem sdiv_q {B d : Nat} (hd : 0 < d) (l : List Int) : vl B (sdiv B d l).1 = vl B l / d := by
  have h := sdiv_vl (B := B) hd l
  have h1 := sdiv_lt (B := B) hd l
  rw [← h, Nat.mul_add_div hd, Nat.div_eq_of_lt h1, Nat.add_zero]
theorem sdiv_r {B d : Nat} (hd : 0 < d) (l : List Int) : (sdiv B d l).2 = vl B l % d := by
  have h := sdiv_vl (B := B) hd l
  have h1 := sdiv_lt (B := B) hd l
  rw [← h, Nat.mul_add_mod, Nat.mod_eq_of_lt h1]
theorem drop_cons {l : List Int} {i : Nat} (hi : i < l.length) : l.drop i = l.getD i 0 :: l.drop (i + 1) := by
  rw [List.drop_eq_getElem_cons hi, List.getD_eq_getElem?_getD, List.getElem?_eq_getElem hi]; rfl
theorem drop_set {l : List Int} {i : Nat} (hi : i < l.length) (v : Int) : (l.set i v).drop i = v :: l.drop (i + 1) := by
  rw [drop_cons (by simpa using hi), List.drop_set_of_lt (by omega), List.getD_eq_getElem?_getD, List.getElem?_set_self hi]; rfl
/-! rows of a given length -/
def pd (B : Nat) (n : Nat) : Nat → List Int
  | 0 => []
  | k + 1 => ((n % B : Nat) : Int) :: pd B (n / B) k
theorem pd_length (B : Nat) : ∀ k n, (pd B n k).length = k
  | 0, _ => rfl
  | k + 1, n => by simp [pd, pd_length B k]
theorem pd_ok {B : Nat} (hB : 2 ≤ B) : ∀ k n, ok B (pd B n k)
  | 0, _ => ok_nil B
  | k + 1, n => ok_cons.2 ⟨⟨by omega, by have := Nat.mod_lt n (show B > 0 by omega); omega⟩, pd_ok hB k _⟩
theorem pd_vl {B : Nat} (hB : 2 ≤ B) : ∀ k n, n < B ^ k → vl B (pd B n k) = n
  | 0, n, h => by simp at h; subst h; rfl
  | k + 1, n, h => by
    have h1 : n / B < B ^ k := by rw [Nat.div_lt_iff_lt_mul (by omega), ← Nat.pow_succ]; exact h
    rw [pd, vl_cons, pd_vl hB k _ h1]
    have := Nat.mod_add_div n B
    simp only [Int.toNat_natCast]
    exact this
theorem pd_eq {B : Nat} (hB : 2 ≤ B) : ∀ {l : List Int}, ok B l → l = pd B (vl B l) l.length
  | [], _ => rfl
  | x :: l, h => by
    obtain ⟨hx, hl⟩ := ok_cons.1 h
    have e1 : vl B (x :: l) % B = x.toNat := by rw [vl_cons, Nat.add_mul_mod_self_left, Nat.mod_eq_of_lt (by omega)]
    have e2 : vl B (x :: l) / B = vl B l := by rw [vl_cons, Nat.add_mul_div_left _ _ (by omega), Nat.div_eq_of_lt (by omega), Nat.zero_add]
    rw [List.length_cons, pd, e1, e2, ← pd_eq hB hl]
    congr 1
    omega
theorem pd_getD {B : Nat} : ∀ (k n i : Nat), i < k → (pd B n k).getD i 0 = ((n / B ^ i % B : Nat) : Int)
  | 0, _, _, h => by omega
  | k + 1, n, 0, _ => by simp [pd]
  | k + 1, n, i + 1, h => by rw [pd, List.getD_cons_succ, pd_getD k _ i (by omega), Nat.div_div_eq_div_mul, Nat.pow_succ, Nat.mul_comm B]
theorem take_next {l : List Int} {i : Nat} (h : i < l.length) : l.take (i + 1) = l.take i ++ [l.getD i 0] := by
  rw [List.take_succ_eq_append_getElem h, List.getD_eq_getElem?_getD, List.getElem?_eq_getElem h]; rfl
theorem take_set_next {l : List Int} {i : Nat} (h : i < l.length) (v : Int) : (l.set i v).take (i + 1) = l.take i ++ [v] := by
  rw [take_next (by simpa using h), List.take_set_of_le (Nat.le_refl _), List.getD_eq_getElem?_getD, List.getElem?_set_self h]; rfl
theorem vl_div_pow {B : Nat} {l : List Int} (hB : 2 ≤ B) (h : ok B l) (i : Nat) : vl B l / B ^ i = vl B (l.drop i) := by
  have hlt := vl_lt (ok_take h i)
  rw [vl_take_drop B l i]
  by_cases hi : i ≤ l.length
  · rw [List.length_take, Nat.min_eq_left hi] at hlt
    rw [Nat.min_eq_left hi, Nat.add_mul_div_left _ _ (Nat.pow_pos (by omega)), Nat.div_eq_of_lt hlt, Nat.zero_add]
  · rw [List.drop_of_length_le (by omega), vl_nil, Nat.mul_zero, Nat.add_zero]
    have : (l.take i).length ≤ i := by simp; omega
    exact Nat.div_eq_of_lt (Nat.lt_of_lt_of_le hlt (Nat.pow_le_pow_right (by omega) this))
theorem vl_drop_all (B : Nat) (l : List Int) (i : Nat) : vl B (l.drop i) = (l.getD i 0).toNat + B * vl B (l.drop (i + 1)) := by
  by_cases hi : i < l.length
  · exact vl_drop B l i hi
  · rw [List.drop_of_length_le (by omega), List.drop_of_length_le (by omega), List.getD_eq_getElem?_getD, List.getElem?_eq_none (by omega)]; rfl
theorem shr_digit {B p : Nat} {l : List Int} (hB : 2 ≤ B) (hp : 0 < p) (hd : p ∣ B) (h : ok B l) (i : Nat) : vl B l / p / B ^ i % B = ((l.getD (i + 1) 0).toNat * B + (l.getD i 0).toNat) / p % B := by
  rw [Nat.div_div_eq_div_mul, Nat.mul_comm, ← Nat.div_div_eq_div_mul, vl_div_pow hB h, vl_drop_all, vl_drop_all B l (i + 1)]
  obtain ⟨q, rfl⟩ := hd
  generalize vl (p * q) (l.drop (i + 1 + 1)) = z
  generalize (l.getD i 0).toNat = x
  generalize (l.getD (i + 1) 0).toNat = y
  have e : x + p * q * (y + p * q * z) = (y * (p * q) + x) + p * (p * q * (q * z)) := by
    rw [Nat.mul_add, Nat.mul_comm (p * q) y]
    have : p * q * (p * q * z) = p * (p * q * (q * z)) := by
      simp only [Nat.mul_assoc, Nat.mul_left_comm]
    omega
  rw [e, Nat.add_mul_div_left _ _ hp, Nat.add_mul_mod_self_left]
/-! turning left -/
theorem shl_step {B i c v p A O : Nat} (h : O + B ^ i * c = A * p) : O + B ^ i * ((c + v * p) % B) + B ^ (i + 1) * ((c + v * p) / B) = (A + B ^ i * v) * p := by
  have h1 : B ^ i * ((c + v * p) % B) + B ^ (i + 1) * ((c + v * p) / B) = B ^ i * (c + v * p) := by
    rw [Nat.pow_succ, Nat.mul_assoc, ← Nat.mul_add, Nat.mod_add_div]
  rw [Nat.mul_add] at h1
  rw [Nat.add_mul, Nat.mul_assoc]
  omega
/-! a window of a row -/
def win (l : List Int) (off i : Nat) : List Int := (l.drop off).take i
theorem win_len {l : List Int} {off i : Nat} (h : off + i ≤ l.length) : (win l off i).length = i := by
  simp [win]; omega
theorem win_getD {l : List Int} {off i j : Nat} (h : j < i) : (win l off i).getD j 0 = l.getD (off + j) 0 := by
  simp [win, List.getD_eq_getElem?_getD, List.getElem?_take, h]
theorem win_next {l : List Int} {off i : Nat} (h : off + i < l.length) : win l off (i + 1) = win l off i ++ [l.getD (off + i) 0] := by
  have : (l.drop off).getD i 0 = l.getD (off + i) 0 := by simp [List.getD_eq_getElem?_getD]
  rw [win, take_next (by simp; omega), this]; rfl
theorem win_set_next {l : List Int} {off i : Nat} (h : off + i < l.length) (v : Int) : win (l.set (off + i) v) off (i + 1) = win l off i ++ [v] := by
  rw [win_next (by simpa using h)]
  congr 1
  · rw [win, win, List.drop_set, if_neg (by omega), show off + i - off = i by omega, List.take_set_of_le (Nat.le_refl _)]
  · rw [List.getD_eq_getElem?_getD, List.getElem?_set_self h]; rfl
theorem win_ok {B : Nat} {l : List Int} (h : ok B l) (off i : Nat) : ok B (win l off i) := ok_take (ok_drop h off) i
theorem vl_win_next {B : Nat} {l : List Int} {off i : Nat} (h : off + i < l.length) : vl B (win l off (i + 1)) = vl B (win l off i) + B ^ i * (l.getD (off + i) 0).toNat := by
  rw [win_next h, vl_append, win_len (by omega)]; simp [vl]
theorem vl_win_set {B : Nat} {l : List Int} {off i : Nat} (h : off + i < l.length) (v : Int) : vl B (win (l.set (off + i) v) off (i + 1)) = vl B (win l off i) + B ^ i * v.toNat := by
  rw [win_set_next h, vl_append, win_len (by omega)]; simp [vl]
theorem parts (l : List Int) (off i : Nat) : l = l.take off ++ win l off i ++ l.drop (off + i) := by
  rw [win, List.append_assoc, ← List.drop_drop, List.take_append_drop, List.take_append_drop]
def putW (l : List Int) (off : Nat) (ws : List Int) : List Int := l.take off ++ ws ++ l.drop (off + ws.length)
theorem putW_len {l : List Int} {off : Nat} {ws : List Int} (h : off + ws.length ≤ l.length) : (putW l off ws).length = l.length := by
  simp [putW]; omega
theorem putW_ok {B : Nat} {l : List Int} {off : Nat} {ws : List Int} (h : ok B l) (h' : ok B ws) : ok B (putW l off ws) :=
  ok_append.2 ⟨ok_append.2 ⟨ok_take h off, h'⟩, ok_drop h _⟩
theorem putW_of {l m : List Int} {off i : Nat} (h1 : m.take off = l.take off) (h2 : m.drop (off + i) = l.drop (off + i)) (hl : off + i ≤ m.length) : m = putW l off (win m off i) := by
  rw [putW, win_len hl, ← h1, ← h2]
  exact parts m off i
theorem putW_win {l : List Int} {off : Nat} {ws : List Int} (h : off + ws.length ≤ l.length) : win (putW l off ws) off ws.length = ws := by
  rw [win, putW, List.append_assoc, List.drop_left' (by simp; omega), List.take_left' rfl]
theorem putW_take {l : List Int} {off : Nat} {ws : List Int} (h : off + ws.length ≤ l.length) : (putW l off ws).take off = l.take off := by
  rw [putW, List.append_assoc, List.take_left' (by simp; omega)]
theorem putW_drop {l : List Int} {off : Nat} {ws : List Int} (h : off + ws.length ≤ l.length) : (putW l off ws).drop (off + ws.length) = l.drop (off + ws.length) := by
  rw [putW, List.drop_left' (by simp; omega)]
theorem putW_put {l : List Int} {off : Nat} {ws vs : List Int} (h : off + ws.length ≤ l.length) (hv : vs.length = ws.length) : putW (putW l off ws) off vs = putW l off vs := by
  rw [putW, putW_take h, hv, putW_drop h, putW, hv]
theorem take_set_ge {l : List Int} {off i : Nat} (h : off ≤ i) (v : Int) : (l.set i v).take off = l.take off := List.take_set_of_le h
theorem drop_set_lt {l : List Int} {i j : Nat} (h : i < j) (v : Int) : (l.set i v).drop j = l.drop j := List.drop_set_of_lt h
theorem less_step {B i q x y c b d t A E O : Nat} (h : O + q * E = A + B ^ i * (c + b)) (hd : d + (c + q * y) % B + b = x + B * t) :
    (O + B ^ i * d) + q * (E + B ^ i * y) = (A + B ^ i * x) + B ^ (i + 1) * ((c + q * y) / B + t) := by
  have h1 : B ^ i * d + B ^ i * ((c + q * y) % B) + B ^ i * b = B ^ i * x + B ^ (i + 1) * t := by
    rw [Nat.pow_succ, Nat.mul_assoc, ← Nat.mul_add, ← Nat.mul_add, ← Nat.mul_add, hd]
  have h2 : B ^ i * ((c + q * y) % B) + B ^ (i + 1) * ((c + q * y) / B) = B ^ i * c + q * (B ^ i * y) := by
    rw [Nat.pow_succ, Nat.mul_assoc, ← Nat.mul_add, Nat.mod_add_div, Nat.mul_add, Nat.mul_left_comm]
  rw [Nat.mul_add] at h ⊢
  rw [Nat.mul_add (B ^ (i + 1))]
  omega
def left (P U E : Nat) : Nat := if E ≤ U then U - E else U + P - E
theorem left_of {P U E O t : Nat} (h : O + E = U + P * t) (hO : O < P) (ht : t ≤ 1) (hU : U < P) : O = left P U E ∧ (t = 1 ↔ U < E) := by
  unfold left
  have : t = 0 ∨ t = 1 := by omega
  rcases this with rfl | rfl
  · rw [if_pos (by omega)]; omega
  · rw [if_neg (by omega)]; omega
/-! a digit of the quotient -/
theorem q_less {B P V0 next top U0 u2 H q rest U V : Nat} (hV : V = V0 + P * next + P * B * top) (hU : U = U0 + P * u2 + P * B * H) (hU0 : U0 < P) (hinv : q * top + rest = H) (hV1 : 0 < V) (hUV : U < V * B)
    (hc : B ≤ q ∨ rest * B + u2 < q * next) : U / V < q := by
  rcases hc with hc | hc
  · exact Nat.lt_of_lt_of_le ((Nat.div_lt_iff_lt_mul hV1).2 (by rw [Nat.mul_comm]; exact hUV)) hc
  · rw [Nat.div_lt_iff_lt_mul hV1]
    have h1 : P * (rest * B + u2 + 1) ≤ P * (q * next) := Nat.mul_le_mul_left _ hc
    have h2 : q * V = q * V0 + P * (q * next) + P * (B * (q * top)) := by
      rw [hV, Nat.mul_add, Nat.mul_add, Nat.mul_left_comm q P next, Nat.mul_assoc P B top, Nat.mul_left_comm q P, Nat.mul_left_comm q B]
    have h3 : P * (B * (q * top)) + P * (rest * B) = P * B * H := by
      rw [← hinv, Nat.mul_comm rest B, ← Nat.mul_add, ← Nat.mul_add, Nat.mul_assoc]
    rw [Nat.mul_add, Nat.mul_add] at h1
    omega
theorem q_most {B P V0 next top U0 u2 H q rest U V : Nat} (hV : V = V0 + P * next + P * B * top) (hU : U = U0 + P * u2 + P * B * H) (hV0 : V0 < P) (htop : 0 < top) (hinv : q * top + rest = H)
    (hq : q < B) (hnx : next < B) (hc : B ≤ rest ∨ q * next ≤ rest * B + u2) : q ≤ U / V + 1 := by
  have hc' : q * next ≤ rest * B + u2 := by
    rcases hc with hc | hc
    · have h1 : q * next ≤ B * B := Nat.mul_le_mul (by omega) (by omega)
      have h2 : B * B ≤ rest * B := Nat.mul_le_mul_right _ hc
      omega
    · exact hc
  have h1 : P * (q * next) ≤ P * (rest * B + u2) := Nat.mul_le_mul_left _ hc'
  have h2 : q * V = q * V0 + P * (q * next) + P * (B * (q * top)) := by
    rw [hV, Nat.mul_add, Nat.mul_add, Nat.mul_left_comm q P next, Nat.mul_assoc P B top, Nat.mul_left_comm q P, Nat.mul_left_comm q B]
  have h3 : P * (B * (q * top)) + P * (rest * B) = P * B * H := by
    rw [← hinv, Nat.mul_comm rest B, ← Nat.mul_add, ← Nat.mul_add, Nat.mul_assoc]
  have h4 : q * V0 ≤ q * P := Nat.mul_le_mul_left _ (by omega)
  have h5 : (q + 1) * P ≤ B * P := Nat.mul_le_mul_right _ hq
  have h6 : P * B * 1 ≤ P * B * top := Nat.mul_le_mul_left _ htop
  rw [Nat.add_mul] at h5
  rw [Nat.mul_comm B P] at h5
  rw [Nat.mul_add] at h1
  have hVp : 0 < V := by omega
  have h7 : q * V < U + V := by omega
  have h8 : q < U / V + 1 + 1 := by
    rw [show U / V + 1 + 1 = (U + V) / V + 1 by rw [Nat.add_div_right _ hVp]]
    have : q * V ≤ U + V := by omega
    have := (Nat.le_div_iff_mul_le hVp).2 this
    omega
  omega
theorem back_end {B n O A V un more O' : Nat} (h : O + B ^ n * more = A + V) (hO : O' = O + B ^ n * ((un + more) % B)) (hlt : O' < B ^ (n + 1)) : O' = (A + B ^ n * un + V) % B ^ (n + 1) := by
  have h1 : B ^ n * ((un + more) % B) + B ^ (n + 1) * ((un + more) / B) = B ^ n * un + B ^ n * more := by
    rw [Nat.pow_succ, Nat.mul_assoc, ← Nat.mul_add, Nat.mod_add_div, Nat.mul_add]
  rw [show A + B ^ n * un + V = O' + B ^ (n + 1) * ((un + more) / B) by omega, Nat.add_mul_mod_self_left, Nat.mod_eq_of_lt hlt]
theorem q_first {B P V0 next top U0 u2 H U V : Nat} (hV : V = V0 + P * next + P * B * top) (hU : U = U0 + P * u2 + P * B * H) (hU0 : U0 < P) (hu2 : u2 < B) (hV1 : 0 < V) (htop : 0 < top) : U / V ≤ H / top := by
  have h1 : H < (H / top + 1) * top := by
    have := Nat.div_add_mod H top
    have h2 := Nat.mod_lt H htop
    rw [Nat.add_mul, Nat.mul_comm]
    omega
  have h2 : P * B * (H + 1) ≤ P * B * ((H / top + 1) * top) := Nat.mul_le_mul_left _ h1
  have h3 : P * (u2 + 1) ≤ P * B := Nat.mul_le_mul_left _ hu2
  have h4 : (H / top + 1) * (P * B * top) ≤ (H / top + 1) * V := Nat.mul_le_mul_left _ (by omega)
  rw [Nat.mul_left_comm] at h4
  rw [Nat.mul_add] at h2 h3
  have : U / V < H / top + 1 := (Nat.div_lt_iff_lt_mul hV1).2 (by omega)
  omega
theorem q_top {B P V0 next top U0 u2 H U V : Nat} (hV : V = V0 + P * next + P * B * top) (hU : U = U0 + P * u2 + P * B * H) (hV0 : V0 < P) (hnx : next < B) (hUV : U < V * B) : H < top * B + B := by
  have h3 : P * (next + 1) ≤ P * B := Nat.mul_le_mul_left _ hnx
  rw [Nat.mul_add] at h3
  have h1 : V ≤ P * B * (top + 1) := by rw [Nat.mul_add]; omega
  have h2 : V * B ≤ P * B * (top + 1) * B := Nat.mul_le_mul_right _ h1
  have h4 : P * B * H < P * B * ((top + 1) * B) := by rw [← Nat.mul_assoc]; omega
  have := Nat.lt_of_mul_lt_mul_left h4
  rwa [Nat.add_mul, Nat.one_mul] at this
theorem left_back {P U V q : Nat} (hV : 0 < V) (hVP : V ≤ P) (hq : q = U / V + 1) (hlt : U < q * V) (hqP : q * V ≤ U + V) : (left P U (q * V) + V) % P = U % V := by
  unfold left
  rw [if_neg (by omega)]
  have h1 := Nat.mod_lt U hV
  have h2 := Nat.mod_add_div U V
  have h3 : q * V = V * (U / V) + V := by rw [hq, Nat.add_mul, Nat.mul_comm]; omega
  rw [show U + P - q * V + V = U % V + P by omega, Nat.add_mod_right, Nat.mod_eq_of_lt (by omega)]
theorem left_just {P U V q : Nat} (hV : 0 < V) (hle : q * V ≤ U) (hq : U / V ≤ q) : q = U / V ∧ left P U (q * V) = U % V := by
  have h1 : q ≤ U / V := (Nat.le_div_iff_mul_le hV).2 hle
  have h2 : q = U / V := by omega
  refine ⟨h2, ?_⟩
  unfold left
  rw [if_pos hle, h2, Nat.mul_comm]
  have := Nat.mod_add_div U V
  omega
theorem vl_top2 {B : Nat} {l : List Int} {n : Nat} (hn : 2 ≤ n) (hl : n ≤ l.length) : vl B (l.take n) = vl B (l.take (n - 2)) + B ^ (n - 2) * (l.getD (n - 2) 0).toNat + B ^ (n - 2) * B * (l.getD (n - 1) 0).toNat := by
  obtain ⟨k, rfl⟩ : ∃ k, n = k + 2 := ⟨n - 2, by omega⟩
  rw [vl_take_next, vl_take_next, show k + 2 - 2 = k by omega, show k + 2 - 1 = k + 1 by omega, Nat.pow_succ]
/-! long division -/
theorem vl_take_small {B : Nat} {l : List Int} {n : Nat} (h : vl B l < B ^ n) (hn : n ≤ l.length) : vl B (l.take n) = vl B l ∧ vl B (l.drop n) = 0 := by
  have h1 := vl_take_drop B l n
  rw [Nat.min_eq_left hn] at h1
  rcases Nat.eq_zero_or_pos (vl B (l.drop n)) with h2 | h2
  · rw [h2] at h1; omega
  · have : B ^ n * 1 ≤ B ^ n * vl B (l.drop n) := Nat.mul_le_mul_left _ h2
    omega
theorem vl_putW {B : Nat} {u : List Int} {j : Nat} {ws : List Int} (h : j + ws.length ≤ u.length) (h0 : vl B (u.drop (j + ws.length)) = 0) : vl B (putW u j ws) = vl B (u.take j) + B ^ j * vl B ws ∧ vl B ((putW u j ws).drop j) = vl B ws := by
  have hl : (u.take j).length = j := by simp; omega
  refine ⟨?_, ?_⟩
  · rw [putW, vl_append, vl_append, hl, h0, Nat.mul_zero, Nat.add_zero]
  · rw [putW, List.append_assoc, List.drop_left' hl, vl_append, h0, Nat.mul_zero, Nat.add_zero]
theorem div_step {B j U V O R T : Nat} (h : T + B ^ j * U + V * (B ^ (j + 1) * O) = R) : T + B ^ j * (U % V) + V * (B ^ j * (U / V + B * O)) = R := by
  rw [← h]
  have h1 := Nat.mod_add_div U V
  have h2 : B ^ j * (U % V) + V * (B ^ j * (U / V)) = B ^ j * U := by
    rw [Nat.mul_left_comm, ← Nat.mul_add, h1]
  rw [Nat.mul_add, Nat.mul_add, Nat.pow_succ, Nat.mul_assoc]
  omega
theorem div_end {Q R X Y p : Nat} (hY : 0 < Y) (hp : 0 < p) (h : R + Y * p * Q = X * p) (hR : R < Y * p) : Q = X / Y ∧ R / p = X % Y := by
  have h1 : X * p / (Y * p) = X / Y := Nat.mul_div_mul_right X Y hp
  have h2 : X * p % (Y * p) = X % Y * p := Nat.mul_mod_mul_right p X Y
  rw [← h] at h1 h2
  rw [Nat.add_mul_div_left _ _ (Nat.mul_pos hY hp), Nat.div_eq_of_lt hR, Nat.zero_add] at h1
  rw [Nat.add_mul_mod_self_left, Nat.mod_eq_of_lt hR] at h2
  exact ⟨h1, by rw [h2, Nat.mul_div_cancel _ hp]⟩
/-! comparing -/
def cmpN (a b : Nat) : Int := if a < b then -1 else if a = b then 0 else 1
theorem vl_cut {B : Nat} {l : List Int} {i : Nat} (hi : i < l.length) : vl B l = vl B (l.take i) + B ^ i * ((l.getD i 0).toNat + B * vl B (l.drop (i + 1))) := by
  rw [vl_take_drop B l i, Nat.min_eq_left (by omega), vl_drop B l i hi]
theorem vl_less {B : Nat} {l m : List Int} {i : Nat} (hl : ok B l) (hi : i < l.length) (hj : i < m.length) (hd : l.drop (i + 1) = m.drop (i + 1)) (h : (l.getD i 0).toNat < (m.getD i 0).toNat) : vl B l < vl B m := by
  rw [vl_cut hi, vl_cut hj, hd]
  have h1 := vl_lt (ok_take hl i)
  rw [List.length_take, Nat.min_eq_left (by omega)] at h1
  have h2 : B ^ i * ((l.getD i 0).toNat + 1 + B * vl B (m.drop (i + 1))) ≤ B ^ i * ((m.getD i 0).toNat + B * vl B (m.drop (i + 1))) := Nat.mul_le_mul_left _ (by omega)
  have h3 : B ^ i * ((l.getD i 0).toNat + 1 + B * vl B (m.drop (i + 1))) = B ^ i * ((l.getD i 0).toNat + B * vl B (m.drop (i + 1))) + B ^ i := by
    rw [show (l.getD i 0).toNat + 1 + B * vl B (m.drop (i + 1)) = (l.getD i 0).toNat + B * vl B (m.drop (i + 1)) + 1 by omega, Nat.mul_add, Nat.mul_one]
  omega
theorem wd_less {B : Nat} (hB : 2 ≤ B) {a b : Nat} (h : (wd B a).length < (wd B b).length) : a < b := by
  have h1 := vl_lt (ok_wd hB a)
  rw [vl_wd hB] at h1
  rcases Nat.lt_or_ge b (B ^ (wd B a).length) with h2 | h2
  · have := wd_length_le hB h2
    omega
  · omega
theorem drop_step {l m : List Int} {i : Nat} (hi : i < l.length) (hj : i < m.length) (h : l.getD i 0 = m.getD i 0) (hd : l.drop (i + 1) = m.drop (i + 1)) : l.drop i = m.drop i := by
  rw [List.drop_eq_getElem_cons hi, List.drop_eq_getElem_cons hj, hd]
  rw [List.getD_eq_getElem?_getD, List.getD_eq_getElem?_getD, List.getElem?_eq_getElem hi, List.getElem?_eq_getElem hj] at h
  simp at h
  rw [h]
end Go.Proofs.YtgimaioeifnajaaGreatDoorK.Dig
/-
  Decimal digits, plainly.
-/
namespace Go.Proofs.YtgimaioeifnajaaGreatDoorK.Dig
open Go.Lib
def dg : Nat → Nat → List UInt8
  | 0, _ => []
  | k + 1, r => dg k (r / 10) ++ [UInt8.ofNat (48 + r % 10)]
theorem dg_length : ∀ k r, (dg k r).length = k
  | 0, _ => rfl
  | k + 1, r => by simp [dg, dg_length k]
theorem dec_small {u : Nat} (h : u < 10) : decDigits u = [UInt8.ofNat (48 + u)] := by rw [decDigits, dif_pos h]
theorem dec_big {u : Nat} (h : ¬ u < 10) : decDigits u = decDigits (u / 10) ++ [UInt8.ofNat (48 + u % 10)] := by rw [decDigits, dif_neg h]
theorem dec_pos (u : Nat) : 0 < (decDigits u).length := by
  by_cases h : u < 10
  · rw [dec_small h]; simp
  · rw [dec_big h]; simp
theorem dec_add : ∀ (k q r : Nat), 0 < q → r < 10 ^ k → decDigits (q * 10 ^ k + r) = decDigits q ++ dg k r
  | 0, q, r, _, hr => by
    have : r = 0 := by simpa using hr
    subst this
    simp [dg]
  | k + 1, q, r, hq, hr => by
    have hp : 0 < 10 ^ k := Nat.pow_pos (by omega)
    have h1 : 1 * 10 ^ k ≤ q * 10 ^ k := Nat.mul_le_mul_right _ hq
    have e : q * 10 ^ (k + 1) = q * 10 ^ k * 10 := by rw [Nat.pow_succ, Nat.mul_assoc]
    rw [dec_big (by omega), show (q * 10 ^ (k + 1) + r) / 10 = q * 10 ^ k + r / 10 by omega, show (q * 10 ^ (k + 1) + r) % 10 = r % 10 by omega, dec_add k q (r / 10) hq (by rw [Nat.pow_succ] at hr; omega), dg, List.append_assoc]
theorem dg_dec : ∀ (k r : Nat), 0 < k → r < 10 ^ k → (decDigits r).length ≤ k ∧ dg k r = List.replicate (k - (decDigits r).length) 48 ++ decDigits r
  | 0, _, h, _ => by omega
  | k + 1, r, _, hr => by
    by_cases h : r < 10
    · rw [dec_small h]
      refine ⟨by simp, ?_⟩
      have z : ∀ k, dg k 0 = List.replicate k 48 := fun k => by
        induction k with
        | zero => rfl
        | succ k ih => rw [dg, Nat.zero_div, ih, List.replicate_succ']; rfl
      rw [dg, show r / 10 = 0 by omega, z, show r % 10 = r by omega]
      simp
    · have hk : 0 < k := by
        rcases Nat.eq_zero_or_pos k with h0 | h0
        · subst h0; simp at hr; omega
        · exact h0
      obtain ⟨h1, h2⟩ := dg_dec k (r / 10) hk (by rw [Nat.pow_succ] at hr; omega)
      rw [dec_big h, dg, h2]
      refine ⟨by simp; omega, ?_⟩
      rw [List.length_append, List.length_singleton, List.append_assoc]
      congr 2
      omega
theorem repeat1 (c : UInt8) : ∀ n, repeatL [c] n = List.replicate n c
  | 0 => rfl
  | n + 1 => by rw [repeatL, repeat1 c n, List.replicate_succ]; rfl
end Go.Proofs.YtgimaioeifnajaaGreatDoorK.Dig
/-
  Digits read: plainly.
-/
namespace Go.Proofs.YtgimaioeifnajaaGreatDoorK.Dig
open Go.Lib
def isD (c : UInt8) : Bool := decide (48 ≤ c.toNat ∧ c.toNat ≤ 57)
def decV (l : List UInt8) : Nat := l.foldl (fun a c => a * 10 + (c.toNat - 48)) 0
theorem decV_from : ∀ (l : List UInt8) (a : Nat), l.foldl (fun a c => a * 10 + (c.toNat - 48)) a = a * 10 ^ l.length + decV l
  | [], a => by simp [decV]
  | c :: l, a => by
    rw [decV, List.foldl_cons, List.foldl_cons, decV_from l, decV_from l, List.length_cons, Nat.pow_succ, Nat.add_mul, Nat.zero_mul, Nat.zero_add, Nat.mul_assoc, Nat.mul_comm 10]
    omega
theorem decV_app (l m : List UInt8) : decV (l ++ m) = decV l * 10 ^ m.length + decV m := by
  rw [decV, List.foldl_append, decV_from]; rfl
theorem decV_lt : ∀ (l : List UInt8), (∀ c ∈ l, isD c = true) → decV l < 10 ^ l.length
  | [], _ => by simp [decV]
  | c :: l, h => by
    have h1 := decV_lt l (fun x hx => h x (List.mem_cons_of_mem _ hx))
    have h2 := of_decide_eq_true (h c List.mem_cons_self)
    rw [decV, List.foldl_cons, decV_from, List.length_cons, Nat.pow_succ, Nat.zero_mul, Nat.zero_add]
    have h3 : (c.toNat - 48) * 10 ^ l.length ≤ 9 * 10 ^ l.length := Nat.mul_le_mul_right _ (by omega)
    omega
theorem parse_ok : ∀ (l : List UInt8) (M acc : Nat), (∀ c ∈ l, isD c = true) → acc * 10 ^ l.length + decV l ≤ M → M ≤ 4294967295 → parseUintM M acc l = .ok (acc * 10 ^ l.length + decV l)
  | [], M, acc, _, _, _ => by simp [parseUintM, decV]
  | c :: l, M, acc, h, hM, hM2 => by
    have h2 := of_decide_eq_true (h c List.mem_cons_self)
    have e : acc * 10 ^ (c :: l).length + decV (c :: l) = (acc * 10 + (c.toNat - 48)) * 10 ^ l.length + decV l := by
      rw [decV, List.foldl_cons, decV_from, List.length_cons, Nat.pow_succ]
      simp only [Nat.add_mul, Nat.zero_mul, Nat.zero_add]
      rw [Nat.mul_assoc acc 10, Nat.mul_comm 10]
      omega
    rw [e] at hM ⊢
    have hp : 1 ≤ 10 ^ l.length := Nat.one_le_pow _ _ (by omega)
    have h3 : (acc * 10 + (c.toNat - 48)) * 1 ≤ (acc * 10 + (c.toNat - 48)) * 10 ^ l.length := Nat.mul_le_mul_left _ hp
    rw [parseUintM, if_pos h2, if_neg (by omega), if_neg (by omega)]
    exact parse_ok l M _ (fun x hx => h x (List.mem_cons_of_mem _ hx)) hM hM2
theorem parse32 (l : List UInt8) (h0 : l ≠ []) (h9 : l.length ≤ 9) (h : ∀ c ∈ l, isD c = true) : parseUintB 32 l = .ok (decV l) := by
  have h1 := decV_lt l h
  have h2 : 10 ^ l.length ≤ 10 ^ 9 := Nat.pow_le_pow_right (by omega) h9
  have := parse_ok l (2 ^ 32 - 1) 0 h (by omega) (by omega)
  rw [parseUintB, if_neg h0, this]
  simp
def tenD : List UInt8 := [48, 49, 50, 51, 52, 53, 54, 55, 56, 57]
theorem tenD_isD (c : UInt8) : tenD.contains c = isD c := by
  have : ∀ k : Fin 256, tenD.contains (UInt8.ofNat k.val) = isD (UInt8.ofNat k.val) := by decide +kernel
  have h := this ⟨c.toNat, c.toNat_lt⟩
  simpa using h
theorem dropWhile_all {α : Type} (p : α → Bool) : ∀ (l : List α), (∀ x ∈ l, p x = true) → l.dropWhile p = []
  | [], _ => rfl
  | x :: l, h => by
    rw [List.dropWhile_cons_of_pos (h x List.mem_cons_self)]
    exact dropWhile_all p l fun y hy => h y (List.mem_cons_of_mem _ hy)
theorem dropWhile_some {α : Type} (p : α → Bool) : ∀ (l : List α), (∃ x ∈ l, p x = false) → ∃ x ∈ l.dropWhile p, p x = false
  | [], ⟨x, hx, _⟩ => by cases hx
  | y :: l, ⟨x, hx, hp⟩ => by
    cases hy : p y with
    | false => rw [List.dropWhile_cons_of_neg (by simp [hy])]; exact ⟨y, List.mem_cons_self, hy⟩
    | true =>
      rw [List.dropWhile_cons_of_pos hy]
      rcases List.mem_cons.1 hx with rfl | hx
      · rw [hy] at hp; cases hp
      · exact dropWhile_some p l ⟨x, hx, hp⟩
theorem trim_all {l : List UInt8} (h : ∀ c ∈ l, isD c = true) : trimS l tenD = [] := by
  have h1 : trimRightS l tenD = [] := by
    rw [trimRightS, dropWhile_all _ _ (fun x hx => by rw [tenD_isD]; exact h x (List.mem_reverse.1 hx))]; rfl
  rw [trimS, h1]; rfl
theorem trim_some {l : List UInt8} (h : ¬ ∀ c ∈ l, isD c = true) : trimS l tenD ≠ [] := by
  have h0 : ∃ c ∈ l, isD c = false := by
    rcases Classical.em (∃ c ∈ l, isD c = false) with h1 | h1
    · exact h1
    · exact absurd (fun c hc => by
        cases hb : isD c with
        | true => rfl
        | false => exact absurd ⟨c, hc, hb⟩ h1) h
  obtain ⟨c, hc, hp⟩ := h0
  obtain ⟨x, hx, hp1⟩ := dropWhile_some (tenD.contains ·) l.reverse ⟨c, List.mem_reverse.2 hc, by rw [tenD_isD]; exact hp⟩
  have hr : x ∈ trimRightS l tenD := List.mem_reverse.2 hx
  obtain ⟨y, hy, _⟩ := dropWhile_some (tenD.contains ·) (trimRightS l tenD) ⟨x, hr, hp1⟩
  intro e
  rw [trimS, trimLeftS] at e
  rw [e] at hy
  cases hy
theorem muladd_step {B i c w p A O v : Nat} (h : O + B ^ i * c = A * p + v) : O + B ^ i * ((c + w * p) % B) + B ^ (i + 1) * ((c + w * p) / B) = (A + B ^ i * w) * p + v := by
  have h1 : B ^ i * ((c + w * p) % B) + B ^ (i + 1) * ((c + w * p) / B) = B ^ i * c + B ^ i * (w * p) := by
    rw [Nat.pow_succ, Nat.mul_assoc, ← Nat.mul_add, Nat.mod_add_div, Nat.mul_add]
  rw [Nat.add_mul, Nat.mul_assoc (B ^ i)]
  omega
theorem last_of_ge {B : Nat} (hB : 2 ≤ B) {l : List Int} (h : ok B l) (hge : B ^ (l.length - 1) ≤ vl B l) : ∀ x, l.getLast? = some x → x ≠ 0 := by
  intro x hx
  have hne : l ≠ [] := by intro e; subst e; cases hx
  have hp := List.length_pos_iff.2 hne
  have h1 := vl_take_succ B l (l.length - 1) (by omega)
  rw [show l.length - 1 + 1 = l.length by omega, List.take_length] at h1
  have h2 := vl_lt (ok_take h (l.length - 1))
  rw [List.length_take, Nat.min_eq_left (by omega)] at h2
  have h3 : l.getLast? = some (l.getD (l.length - 1) 0) := by
    rw [List.getLast?_eq_getElem?, List.getD_eq_getElem?_getD, List.getElem?_eq_getElem (by omega)]; rfl
  rw [hx] at h3
  cases h3
  intro h0
  rw [h0] at h1
  simp at h1
  omega
theorem wd_ge {B : Nat} (hB : 2 ≤ B) {n : Nat} (h : n ≠ 0) : B ^ ((wd B n).length - 1) ≤ n := by
  rcases Nat.lt_or_ge n (B ^ ((wd B n).length - 1)) with h1 | h1
  · have h2 := wd_length_le hB h1
    have h3 : (wd B n).length ≠ 0 := fun e => h ((wd_eq_nil hB).1 (List.eq_nil_of_length_eq_zero e))
    omega
  · exact h1
end Go.Proofs.YtgimaioeifnajaaGreatDoorK.Dig
/-
  A text, cut at a byte: plainly.
-/
namespace Go.Proofs.YtgimaioeifnajaaGreatDoorK.Dig
open Go.Lib
def cut1 (c : UInt8) : List UInt8 → List UInt8 × List UInt8 × Bool
  | [] => ([], [], false)
  | x :: l => match Nat.beq x.toNat c.toNat with
    | true => ([], l, true)
    | false => (x :: (cut1 c l).1, (cut1 c l).2.1, (cut1 c l).2.2)
theorem beq_u8 (x c : UInt8) : Nat.beq x.toNat c.toNat = decide (c = x) := by
  rw [Bool.eq_iff_iff, Nat.beq_eq, decide_eq_true_iff]
  exact ⟨fun h => (UInt8.toNat_inj.1 h).symm, fun h => by rw [h]⟩
theorem index_cons (c x : UInt8) (l : List UInt8) : index (x :: l) [c] = if c = x then 0 else if index l [c] = -1 then -1 else index l [c] + 1 := by
  rw [index]
  by_cases h : c = x
  · subst h; simp [List.isPrefixOf]
  · simp [List.isPrefixOf, h]
theorem cut_cut1 (c : UInt8) : ∀ l, cut l [c] = cut1 c l
  | [] => by simp [cut, cut1, index]
  | x :: l => by
    have ih := cut_cut1 c l
    have hge := index_ge l [c]
    rw [cut1, beq_u8, ← ih]
    unfold cut
    rw [index_cons]
    by_cases h : c = x
    · rw [decide_eq_true h, if_pos h]; simp
    · rw [decide_eq_false h, if_neg h]
      by_cases h2 : index l [c] = -1
      · rw [if_pos h2, h2]; simp
      · rw [if_neg h2, if_pos (by omega), if_pos (by omega)]
        have e : (index l [c] + 1).toNat = (index l [c]).toNat + 1 := by omega
        simp [e, Nat.add_right_comm]
theorem cut1_at (c : UInt8) : ∀ (a b : List UInt8), c ∉ a → cut1 c (a ++ c :: b) = (a, b, true)
  | [], b, _ => by rw [List.nil_append, cut1, beq_u8, decide_eq_true rfl]
  | x :: a, b, h => by
    have h1 : c ≠ x := fun e => h (by rw [e]; exact List.mem_cons_self)
    rw [List.cons_append, cut1, beq_u8, decide_eq_false h1, cut1_at c a b (fun hm => h (List.mem_cons_of_mem _ hm))]
theorem cut1_none (c : UInt8) : ∀ (a : List UInt8), c ∉ a → cut1 c a = (a, [], false)
  | [], _ => rfl
  | x :: a, h => by
    have h1 : c ≠ x := fun e => h (by rw [e]; exact List.mem_cons_self)
    rw [cut1, beq_u8, decide_eq_false h1, cut1_none c a (fun hm => h (List.mem_cons_of_mem _ hm))]
theorem cut1_len (c : UInt8) : ∀ (a : List UInt8), (cut1 c a).1.length ≤ a.length ∧ (cut1 c a).2.1.length ≤ a.length
  | [] => ⟨Nat.le_refl _, Nat.le_refl _⟩
  | x :: a => by
    have ih := cut1_len c a
    rw [cut1]
    split
    · exact ⟨Nat.zero_le _, by simp⟩
    · simp only [List.length_cons]; omega
end Go.Proofs.YtgimaioeifnajaaGreatDoorK.Dig
/-
  A text, parted at a byte, or with another text in that byte's place: plainly.
-/
namespace Go.Proofs.YtgimaioeifnajaaGreatDoorK.Dig
open Go.Lib
def spl (c : UInt8) : List UInt8 → List (List UInt8)
  | [] => [[]]
  | x :: l => match Nat.beq x.toNat c.toNat with
    | true => [] :: spl c l
    | false => match spl c l with
      | [] => [[x]]
      | h :: t => (x :: h) :: t
theorem spl_ne (c : UInt8) : ∀ l, spl c l ≠ []
  | [] => by simp [spl]
  | x :: l => by
    rw [spl]
    split
    · simp
    · split <;> simp
theorem count_pos_index {c : UInt8} : ∀ {l : List UInt8}, 0 < count l [c] → ∃ i : Nat, index l [c] = i := fun {l} h => by
  have hge := index_ge l [c]
  by_cases hm : index l [c] = -1
  · rw [count_miss hm] at h; omega
  · exact ⟨(index l [c]).toNat, by omega⟩
theorem splitK_spl (c : UInt8) : ∀ l, splitK [c] 0 (count l [c]) l = spl c l
  | [] => by rw [count_miss (by simp [index])]; rfl
  | x :: l => by
    have ih := splitK_spl c l
    rw [spl, beq_u8]
    by_cases h : c = x
    · subst h
      rw [decide_eq_true rfl, count_cons_eq, Nat.add_comm, splitK, index_cons, if_pos rfl]
      simp only [Int.reduceNeg, reduceCtorEq, beq_iff_eq, Int.toNat_zero, Nat.add_zero, List.take_zero, List.length_singleton, Nat.zero_add, List.drop_succ_cons, List.drop_zero]
      rw [if_neg (by decide), ih]
    · rw [decide_eq_false h, count_cons_ne x c l (Ne.symm h)]
      cases hk : count l [c] with
      | zero =>
        rw [hk] at ih
        simp only [splitK] at ih ⊢
        rw [← ih]
      | succ k =>
        rw [hk] at ih
        obtain ⟨i, hi⟩ := count_pos_index (c := c) (l := l) (by omega)
        have hi2 : index (x :: l) [c] = ((i + 1 : Nat) : Int) := by rw [index_cons, if_neg h, hi, if_neg (by omega)]; omega
        rw [splitK, hi] at ih
        rw [if_neg (by simp)] at ih
        rw [splitK, hi2, if_neg (by simp; omega)]
        simp only [Int.toNat_natCast, Nat.add_zero, List.length_singleton] at ih ⊢
        rw [← ih]
        rfl
def rpl (c : UInt8) (new : List UInt8) : List UInt8 → List UInt8
  | [] => []
  | x :: l => match Nat.beq x.toNat c.toNat with
    | true => new ++ rpl c new l
    | false => x :: rpl c new l
theorem replaceK_rpl (c : UInt8) (new : List UInt8) : ∀ l, replaceK [c] new (count l [c]) l = rpl c new l
  | [] => by rw [count_miss (by simp [index])]; rfl
  | x :: l => by
    have ih := replaceK_rpl c new l
    rw [rpl, beq_u8]
    by_cases h : c = x
    · subst h
      rw [decide_eq_true rfl, count_cons_eq, Nat.add_comm, replaceK, index_cons, if_pos rfl]
      simp only [Int.reduceNeg, reduceCtorEq, beq_iff_eq, Int.toNat_zero, List.take_zero, List.length_singleton, Nat.zero_add, List.drop_succ_cons, List.drop_zero, List.nil_append]
      rw [if_neg (by decide), ih]
    · rw [decide_eq_false h, count_cons_ne x c l (Ne.symm h)]
      cases hk : count l [c] with
      | zero =>
        rw [hk] at ih
        simp only [replaceK] at ih ⊢
        rw [← ih]
      | succ k =>
        rw [hk] at ih
        obtain ⟨i, hi⟩ := count_pos_index (c := c) (l := l) (by omega)
        have hi2 : index (x :: l) [c] = ((i + 1 : Nat) : Int) := by rw [index_cons, if_neg h, hi, if_neg (by omega)]; omega
        rw [replaceK, hi] at ih
        rw [if_neg (by simp)] at ih
        rw [replaceK, hi2, if_neg (by simp; omega)]
        simp only [Int.toNat_natCast, List.length_singleton] at ih ⊢
        rw [← ih]
        rfl
end Go.Proofs.YtgimaioeifnajaaGreatDoorK.Dig
/-
  Rows of words as abstract data.
-/
namespace Go.Proofs.YtgimaioeifnajaaGreatDoorK.AI
def W (l : List Int) : List D := l.map (.int .u32 ·)
theorem W_length (l : List Int) : (W l).length = l.length := by simp [W]
theorem W_nil : W [] = [] := rfl
theorem W_getD {l : List Int} {i : Nat} (h : i < l.length) : (W l).getD i .un = .int .u32 (l.getD i 0) := by
  simp [W, List.getD_eq_getElem?_getD, h]
theorem W_set (l : List Int) (i : Nat) (v : Int) : (W l).set i (.int .u32 v) = W (l.set i v) := by simp [W, List.map_set]
theorem W_take (l : List Int) (i : Nat) : (W l).take i = W (l.take i) := by simp [W, List.map_take]
theorem W_drop (l : List Int) (i : Nat) : (W l).drop i = W (l.drop i) := by simp [W, List.map_drop]
theorem W_imm (l : List Int) : (W l).all D.imm = true := by simp [W, D.imm]
theorem W_one (l : List Int) : (W l).all D.one = true := by simp [W, D.one]
theorem W_app (l m : List Int) : W l ++ W m = W (l ++ m) := by simp [W]
theorem W_repl (n : Nat) : repD [.int .u32 0] n = W (List.replicate n 0) := by
  induction n with
  | zero => rfl
  | succ n ih => rw [repD, ih, List.replicate_succ]; rfl
theorem kbs_W (k : Nat) (l : List Int) : kb.kbs k (W l) := kbs_of_imm (W_imm l)
def SS (l : List ByteArray) : List D := l.map .str
theorem SS_length (l : List ByteArray) : (SS l).length = l.length := by simp [SS]
theorem SS_getD {l : List ByteArray} {i : Nat} (h : i < l.length) : (SS l).getD i .un = .str (l.getD i ByteArray.empty) := by
  simp [SS, List.getD_eq_getElem?_getD, h]
theorem SS_set (l : List ByteArray) (i : Nat) (v : ByteArray) : (SS l).set i (.str v) = SS (l.set i v) := by simp [SS, List.map_set]
theorem SS_take (l : List ByteArray) (i : Nat) : (SS l).take i = SS (l.take i) := by simp [SS, List.map_take]
theorem SS_drop (l : List ByteArray) (i : Nat) : (SS l).drop i = SS (l.drop i) := by simp [SS, List.map_drop]
theorem SS_imm (l : List ByteArray) : (SS l).all D.imm = true := by simp [SS, D.imm]
theorem SS_one (l : List ByteArray) : (SS l).all D.one = true := by simp [SS, D.one]
theorem kbs_SS (k : Nat) (l : List ByteArray) : kb.kbs k (SS l) := kbs_of_imm (SS_imm l)
theorem SS_app1 (l : List ByteArray) (x : ByteArray) : SS l ++ [.str x] = SS (l ++ [x]) := by simp [SS]
theorem ba_ext {x y : ByteArray} (h : x.data.toList = y.data.toList) : x = y := by
  obtain ⟨⟨x⟩⟩ := x
  obtain ⟨⟨y⟩⟩ := y
  simp at h
  rw [h]
theorem ba_beq (x y : ByteArray) : (x.toList == y.toList) = decide (x = y) := by
  rw [ByteArray.toList_eq, ByteArray.toList_eq, Bool.eq_iff_iff, beq_iff_eq, decide_eq_true_eq]
  exact ⟨fun h => ba_ext h, fun h => by rw [h]⟩
theorem strBin_eql {x y : ByteArray} : strBin .eql x y = some (.bool (decide (x = y))) := by rw [← ba_beq]; rfl
theorem strBin_neq {x y : ByteArray} : strBin .neq x y = some (.bool !decide (x = y)) := by rw [← ba_beq]; rfl
theorem i64max : IntKind.i64.max = 9223372036854775807 := of_eq rfl
theorem mx_nat {a b : Nat} : (if (b : Int) > (a : Int) then (b : Int) else (a : Int)) = ((max a b : Nat) : Int) := by
  split <;> omega
theorem toNat_succ {n : Nat} : ((n : Int) + 1).toNat = n + 1 := by omega
theorem toNat_add {n m : Nat} : ((n : Int) + (m : Int)).toNat = n + m := by omega
theorem tdiv_nn {a b : Int} (h : 0 ≤ a) : a.tdiv b = a / b := Int.tdiv_eq_ediv_of_nonneg h
theorem tmod_nn {a b : Int} (h : 0 ≤ a) : a.tmod b = a % b := Int.tmod_eq_emod_of_nonneg h
theorem toNat_pred2 {n : Nat} : ((n : Int) - 2).toNat = n - 2 := by omega
theorem cast_succ {n : Nat} : ((n + 1 : Nat) : Int) = (n : Int) + 1 := by omega
theorem ofInt_nat {a : Int} (h : 0 ≤ a ∧ a ≤ 18446744073709551615) : (BitVec.ofInt 64 a).toNat = a.toNat := by
  rw [BitVec.toNat_ofInt]
  congr 1
  omega
theorem andI_nat {a b : Int} (h : 0 ≤ a ∧ a ≤ 18446744073709551615) (h' : 0 ≤ b ∧ b ≤ 18446744073709551615) : andI .u64 a b = ((a.toNat &&& b.toNat : Nat) : Int) := by
  have h1 : (BitVec.ofInt 64 a &&& BitVec.ofInt 64 b).toNat = a.toNat &&& b.toNat := by rw [BitVec.toNat_and, ofInt_nat h, ofInt_nat h']
  have h2 : (BitVec.ofInt 64 a &&& BitVec.ofInt 64 b).toNat < 18446744073709551616 := BitVec.isLt _
  show IntKind.u64.wrap ((BitVec.ofInt 64 a &&& BitVec.ofInt 64 b).toNat : Nat) = _
  rw [wrap_u64 (by omega), h1]
theorem orI_nat {a b : Int} (h : 0 ≤ a ∧ a ≤ 18446744073709551615) (h' : 0 ≤ b ∧ b ≤ 18446744073709551615) : orI .u64 a b = ((a.toNat ||| b.toNat : Nat) : Int) := by
  have h1 : (BitVec.ofInt 64 a ||| BitVec.ofInt 64 b).toNat = a.toNat ||| b.toNat := by rw [BitVec.toNat_or, ofInt_nat h, ofInt_nat h']
  have h2 : (BitVec.ofInt 64 a ||| BitVec.ofInt 64 b).toNat < 18446744073709551616 := BitVec.isLt _
  show IntKind.u64.wrap ((BitVec.ofInt 64 a ||| BitVec.ofInt 64 b).toNat : Nat) = _
  rw [wrap_u64 (by omega), h1]
theorem and_one {a : Int} (h : 0 ≤ a ∧ a ≤ 18446744073709551615) : andI .u64 a 1 = a % 2 := by
  rw [andI_nat h (by omega)]
  show ((a.toNat &&& 1 : Nat) : Int) = _
  rw [Nat.and_one_is_mod]
  omega
theorem orI_add {a b : Int} {n : Nat} (ha : 0 ≤ a) (hm : a % 2 ^ n = 0) (hb : 0 ≤ b ∧ b < 2 ^ n) (hs : a + b ≤ 18446744073709551615) : orI .u64 a b = a + b := by
  rw [orI_nat (by omega) (by omega)]
  obtain ⟨x, rfl⟩ : ∃ x : Nat, a = x := ⟨a.toNat, by omega⟩
  obtain ⟨y, rfl⟩ : ∃ y : Nat, b = y := ⟨b.toNat, by omega⟩
  have hm' : x % 2 ^ n = 0 := by exact_mod_cast hm
  have hy : y < 2 ^ n := by exact_mod_cast hb.2
  have hx : x = 2 ^ n * (x / 2 ^ n) := by
    have := Nat.mod_add_div x (2 ^ n)
    omega
  have := Nat.two_pow_add_eq_or_of_lt hy (x / 2 ^ n)
  rw [← hx] at this
  simp only [Int.toNat_natCast]
  omega
theorem orI_comm {a b : Int} (h : 0 ≤ a ∧ a ≤ 18446744073709551615) (h' : 0 ≤ b ∧ b ≤ 18446744073709551615) : orI .u64 a b = orI .u64 b a := by
  rw [orI_nat h h', orI_nat h' h, Nat.or_comm]
theorem shr32b {a : Int} : a.fdiv (2 ^ 32) = a / 4294967296 := by
  rw [Int.fdiv_eq_ediv_of_nonneg _ (by decide)]; rfl
theorem shl32b {a : Int} : a * 2 ^ 32 = a * 4294967296 := rfl
theorem min64 {n : Nat} (h : n ≤ 64) : min n 64 = n := by omega
theorem or_shl32 {a b : Int} (ha : 0 ≤ a ∧ a ≤ 4294967295) (hb : 0 ≤ b ∧ b ≤ 4294967295) : orI .u64 (a * 4294967296) b = a * 4294967296 + b :=
  orI_add (n := 32) (by omega) (by show a * 4294967296 % 4294967296 = 0; omega) (by show 0 ≤ b ∧ b < 4294967296; omega) (by omega)
theorem get1 {cs : List D} {i : Nat} (h : i < cs.length) : (List.take 1 (List.drop i cs)).getD 0 .un = cs.getD i .un := by
  simp [List.getD_eq_getElem?_getD, h]
theorem W_get1 {l : List Int} {i : Nat} (h : i < l.length) : (W (List.take 1 (List.drop i l))).getD 0 .un = .int .u32 (l.getD i 0) := by
  rw [← W_take, ← W_drop, get1 (by rw [W_length]; exact h), W_getD h]
theorem W_len1 {l : List Int} {i : Nat} (h : i < l.length) : (List.take 1 (List.drop i l)).length = 1 := by
  simp; omega
def N (n : Nat) : D := .agg [.sl (Dig.wd 4294967296 n).length (W (Dig.wd 4294967296 n))]
attribute [go_sem] getO putE_same putE_ne putE_none un0_at ini_zero ini_one ini_two ini_three ne_eq not_false_eq_true Nat.zero_ne_one Nat.one_ne_zero zero_ne_succ succ_ne_zero sym_nil sym_cons symG_call symG_op symG_skip IOp.isCall gd st_mv st_pick st_new st_box st_build st_lit st_load st_store st_faddr st_fld st_iaddrS st_iaddrA st_idxs st_bin st_beq st_neg st_not st_conv st_slcS st_slcL st_make st_app st_lenS st_lenL st_capL st_appZ st_seq eqAt eq1 st_mx st_mn st_ext st_nilck st_bstr st_idxA st_slcA st_aeq st_isnil nilD st_mkmap st_look st_mput st_mkfn foundD byD pureC loadC setH hv boundO D.cells D.one D.boxable fillD putD rowD binC intBinC decT decF dec_true dec_false bne_self_eq_false beq_self_eq_true beq_true_false beq_false_true bne_iff_ne List.length_nil List.length_cons List.getD_cons_zero List.getD_cons_succ List.set_cons_zero List.set_cons_succ List.all_cons List.all_nil Bool.and_true Bool.true_and Nat.lt_irrefl Nat.sub_self Nat.zero_add Nat.add_zero Nat.mul_one Nat.lt_add_one if_true if_false List.replicate_zero List.nil_append List.cons_append List.append_nil List.map_cons List.map_nil Bool.false_eq_true or_self or_true true_or or_false false_or true_and and_true and_self Int.ofNat_zero wrap_i64 wrap_u32 wrap_u64 wrap_u8 wrap_u32_mod wrap_u64_mod Nat.zero_lt_one Int.toNat_natCast Int.sub_zero toNat_pred List.take_succ_cons List.take_zero List.drop_succ_cons List.drop_zero List.take_nil List.drop_nil Nat.le_refl List.length_singleton rvDs rvD ldD one? Option.bind_some Option.map_some resD_int resD_bool resD_str resD_sl resD_rp resD_nils resD_null resD_agg resD_tup resD_own rdOwn resD_nilm resD_mf resD_fn resD_mo rdMo resD_ptr rdPtr rd_ite resL_eq go_nil go_cons D.imm resArgs shr32 shl32 Nat.zero_mul Bool.and_self Bool.and_false Bool.false_and strBin_eql strBin_neq Bool.not_true Bool.not_false i64max List.length_reverse List.length_set SS_length SS_getD SS_set SS_take SS_drop SS_imm SS_one SS_app1 W_get1 W_len1 W_getD W_set W_take W_drop W_app W_length W_imm W_one W_repl N mx_nat toNat_succ toNat_add toNat_pred2 tdiv_nn tmod_nn List.take_of_length_le cast_succ and_one or_shl32 min64 shr32b shl32b IntKind.bits
end Go.Proofs.YtgimaioeifnajaaGreatDoorK.AI
/-
  Rows of Go's ints as abstract data; the document's own numbers, in base ten thousand.
-/
namespace Go.Proofs.YtgimaioeifnajaaGreatDoorK.AI
def V (l : List Int) : List D := l.map (.int .i64 ·)
theorem V_length (l : List Int) : (V l).length = l.length := by simp [V]
theorem V_nil : V [] = [] := rfl
theorem V_getD {l : List Int} {i : Nat} (h : i < l.length) : (V l).getD i .un = .int .i64 (l.getD i 0) := by
  simp [V, List.getD_eq_getElem?_getD, h]
theorem V_set (l : List Int) (i : Nat) (v : Int) : (V l).set i (.int .i64 v) = V (l.set i v) := by simp [V, List.map_set]
theorem V_take (l : List Int) (i : Nat) : (V l).take i = V (l.take i) := by simp [V, List.map_take]
theorem V_drop (l : List Int) (i : Nat) : (V l).drop i = V (l.drop i) := by simp [V, List.map_drop]
theorem V_imm (l : List Int) : (V l).all D.imm = true := by simp [V, D.imm]
theorem V_one (l : List Int) : (V l).all D.one = true := by simp [V, D.one]
theorem V_app (l m : List Int) : V l ++ V m = V (l ++ m) := by simp [V]
theorem V_app1 (l : List Int) (x : Int) : V l ++ [.int .i64 x] = V (l ++ [x]) := by simp [V]
theorem V_repl (n : Nat) : repD [.int .i64 0] n = V (List.replicate n 0) := by
  induction n with
  | zero => rfl
  | succ n ih => rw [repD, ih, List.replicate_succ]; rfl
theorem kbs_V (k : Nat) (l : List Int) : kb.kbs k (V l) := kbs_of_imm (V_imm l)
theorem V_get1 {l : List Int} {i : Nat} (h : i < l.length) : (V (List.take 1 (List.drop i l))).getD 0 .un = .int .i64 (l.getD i 0) := by
  rw [← V_take, ← V_drop, get1 (by rw [V_length]; exact h), V_getD h]
def M (n : Nat) : D := .sl (Dig.wd 10000 n).length (V (Dig.wd 10000 n))
end Go.Proofs.YtgimaioeifnajaaGreatDoorK.AI
