/-
  Numerals with a point, in plain Lean: digits, their text, what a text tells, and the shortest numeral.
-/
import Derived.Test.YtapikjmijmebpaaGreatDoorKZa
set_option linter.all false
set_option linter.unusedVariables false
set_option linter.unusedSimpArgs false
set_option maxHeartbeats 4000000
namespace Go.Proofs.YtapikjmijmebpaaGreatDoorK.DecT
open Go.Proofs.YtapikjmijmebpaaGreatDoorK.AI Go.Proofs.YtapikjmijmebpaaGreatDoorK.Dig Go.Proofs.YtapikjmijmebpaaGreatDoorK.NatT Go.Proofs.YtapikjmijmebpaaGreatDoorK.NumT
def pd (X s : Nat) : List UInt8 := List.replicate (s + 1 - (Lib.decDigits X).length) 48 ++ Lib.decDigits X
def pw (X s : Nat) : List UInt8 := (pd X s).take ((pd X s).length - s)
def pp (X s : Nat) : List UInt8 := (pd X s).drop ((pd X s).length - s)
variable {X s : Nat} {b : Bool}
theorem pd_len : (pd X s).length = max (s + 1) (Lib.decDigits X).length := by
  rw [pd, List.length_append, List.length_replicate]; omega
theorem pd_isD : ∀ c ∈ pd X s, isD c = true := by
  intro c hc
  rcases List.mem_append.1 hc with h | h
  · rw [(List.mem_replicate.1 h).2]; rfl
  · exact dec_isD X c h
theorem decV_zeros (n : Nat) : decV (List.replicate n 48) = 0 := by
  induction n with
  | zero => rfl
  | succ n ih => rw [List.replicate_succ', decV_app, ih]; rfl
theorem pd_val : decV (pd X s) = X := by
  rw [pd, decV_app, decV_zeros, Nat.zero_mul, Nat.zero_add, dec_val]
theorem pw_app (X s : Nat) : pw X s ++ pp X s = pd X s := List.take_append_drop _ _
theorem pp_len : (pp X s).length = s := by rw [pp, List.length_drop, pd_len]; omega
theorem pw_len : (pw X s).length = (pd X s).length - s := by rw [pw, List.length_take]; omega
theorem pw_ne : pw X s ≠ [] := by
  intro h
  have h1 := pw_len (X := X) (s := s)
  rw [h, pd_len] at h1
  simp only [List.length_nil] at h1
  omega
theorem pw_isD : ∀ c ∈ pw X s, isD c = true := fun c hc => pd_isD c (List.mem_of_mem_take hc)
theorem pp_isD : ∀ c ∈ pp X s, isD c = true := fun c hc => pd_isD c (List.mem_of_mem_drop hc)
theorem pw_pp : decV (pw X s) * 10 ^ s + decV (pp X s) = X := by
  have h := decV_app (pw X s) (pp X s)
  rw [pw_app, pd_val, pp_len] at h
  exact h.symm
theorem pp_lt : decV (pp X s) < 10 ^ s := by
  have h := decV_lt (pp X s) pp_isD
  rwa [pp_len] at h
theorem pw_val : decV (pw X s) = X / 10 ^ s := by
  have h1 := pw_pp (X := X) (s := s)
  have h2 := pp_lt (X := X) (s := s)
  have h3 : 0 < 10 ^ s := Nat.pow_pos (by omega)
  rw [← h1, Nat.add_comm, Nat.add_mul_div_right _ _ h3, Nat.div_eq_of_lt h2, Nat.zero_add]
  rw [Nat.add_comm, h1]
theorem pp_val : decV (pp X s) = X % 10 ^ s := by
  have h1 := pw_pp (X := X) (s := s)
  have h2 := pp_lt (X := X) (s := s)
  have h3 : (decV (pw X s) * 10 ^ s + decV (pp X s)) % 10 ^ s = decV (pp X s) := by
    rw [Nat.add_comm, Nat.add_mul_mod_self_right, Nat.mod_eq_of_lt h2]
  rw [h1] at h3
  exact h3.symm
theorem isD_ne {c k : UInt8} (h : isD c = true) (hk : isD k = false) : c ≠ k := fun e => by rw [e, hk] at h; cases h
def dT (b : Bool) (X s : Nat) : List UInt8 := (if b then [45] else []) ++ (pw X s ++ if s = 0 then [] else 46 :: pp X s)
def dP (l : List UInt8) : Option (Bool × Nat × Nat) :=
  if (cut1 46 (Lib.trimPrefix l [45])).1 ≠ [] ∧ (cut1 46 (Lib.trimPrefix l [45])).1.all isD = true ∧
      ((cut1 46 (Lib.trimPrefix l [45])).2.2 = true → (cut1 46 (Lib.trimPrefix l [45])).2.1 ≠ [] ∧ (cut1 46 (Lib.trimPrefix l [45])).2.1.all isD = true) ∧ (cut1 46 (Lib.trimPrefix l [45])).2.1.length ≤ 60 then
    some (Lib.hasPrefix l [45] && decide (decV ((cut1 46 (Lib.trimPrefix l [45])).1 ++ (cut1 46 (Lib.trimPrefix l [45])).2.1) ≠ 0), decV ((cut1 46 (Lib.trimPrefix l [45])).1 ++ (cut1 46 (Lib.trimPrefix l [45])).2.1), (cut1 46 (Lib.trimPrefix l [45])).2.1.length)
  else none
theorem pw_no : (46 : UInt8) ∉ pw X s := fun h => isD_ne (pw_isD _ h) rfl rfl
theorem dT_trim (b : Bool) (X s : Nat) : Lib.trimPrefix (dT b X s) [45] = (pw X s ++ if s = 0 then [] else 46 :: pp X s) ∧ Lib.hasPrefix (dT b X s) [45] = b := by
  cases b
  · have hh : Lib.hasPrefix (dT false X s) [45] = false := by
      obtain ⟨c, l, hc⟩ := List.exists_cons_of_ne_nil (pw_ne (X := X) (s := s))
      have h1 : c ≠ 45 := isD_ne (pw_isD c (by rw [hc]; exact List.mem_cons_self)) rfl
      rw [dT, hc]
      simp [Lib.hasPrefix, List.isPrefixOf]
      exact fun h => h1 h.symm
    exact ⟨by rw [Lib.trimPrefix, hh]; rfl, hh⟩
  · exact ⟨rfl, rfl⟩
theorem dT_cut (X s : Nat) : cut1 46 (pw X s ++ if s = 0 then [] else 46 :: pp X s) = (pw X s, pp X s, decide (s ≠ 0)) := by
  by_cases h : s = 0
  · rw [if_pos h, List.append_nil, cut1_none 46 _ pw_no, decide_eq_false (fun h1 => h1 h), List.eq_nil_of_length_eq_zero (pp_len.trans h)]
  · rw [if_neg h, cut1_at 46 _ _ pw_no, decide_eq_true h]
theorem dP_dT (hb : b = true → X ≠ 0) (hs : s ≤ 60) : dP (dT b X s) = some (b, X, s) := by
  obtain ⟨h1, h2⟩ := dT_trim b X s
  have hc := dT_cut X s
  unfold dP
  rw [h1, h2, hc]
  dsimp only
  rw [if_pos ⟨pw_ne, List.all_eq_true.2 pw_isD, fun h => ⟨fun e => of_decide_eq_true h (by rw [← pp_len (X := X) (s := s), e]; rfl), List.all_eq_true.2 pp_isD⟩, by rw [pp_len]; exact hs⟩, pw_app, pd_val, pp_len]
  cases b
  · rfl
  · rw [decide_eq_true (hb rfl)]; rfl
def sh : Nat → Nat → Nat × Nat
  | X, 0 => (X, 0)
  | X, s + 1 => if X % 10 = 0 then sh (X / 10) s else (X, s + 1)
theorem sh_le : ∀ (s X : Nat), (sh X s).2 ≤ s
  | 0, _ => Nat.le_refl _
  | s + 1, X => by
    rw [sh]; split
    · exact Nat.le_succ_of_le (sh_le s _)
    · exact Nat.le_refl _
theorem sh_val : ∀ (s X : Nat), (sh X s).1 * 10 ^ (s - (sh X s).2) = X
  | 0, X => by simp [sh]
  | s + 1, X => by
    rw [sh]; split
    · rename_i h
      have h1 := sh_val s (X / 10)
      have h2 := sh_le s (X / 10)
      rw [Nat.succ_sub h2, Nat.pow_succ, ← Nat.mul_assoc, h1]; omega
    · simp
theorem sh_least : ∀ (s X k : Nat), k ≤ s → X * 10 ^ k % 10 ^ s = 0 → (sh X s).2 ≤ k
  | 0, _, _, _, _ => Nat.zero_le _
  | s + 1, X, k, hk, h => by
    rw [sh]; split
    · rename_i h0
      rcases Nat.lt_or_ge s k with h1 | h1
      · exact Nat.le_trans (sh_le s _) (by omega)
      · refine sh_least s (X / 10) k h1 ?_
        have hX : X = X / 10 * 10 := by omega
        rw [hX, Nat.pow_succ, Nat.mul_right_comm, Nat.mul_mod_mul_right] at h
        omega
    · rename_i h0
      rcases Nat.lt_or_ge k (s + 1) with h1 | h1
      · exfalso
        have hd : 10 ^ (s + 1) ∣ X * 10 ^ k := Nat.dvd_of_mod_eq_zero h
        rw [show s + 1 = (s + 1 - k) + k by omega, Nat.pow_add] at hd
        have h2 := Nat.dvd_of_mul_dvd_mul_right (Nat.pow_pos (by omega)) hd
        rw [show s + 1 - k = (s - k) + 1 by omega, Nat.pow_succ] at h2
        have h3 : 10 ∣ X := Nat.dvd_trans (Nat.dvd_mul_left 10 _) h2
        omega
      · exact h1
def lo (n d : Nat) : Nat → Nat → Option (Nat × Nat)
  | 0, k => if n * 10 ^ k % d = 0 then some (n * 10 ^ k / d, k) else none
  | f + 1, k => if n * 10 ^ k % d = 0 then some (n * 10 ^ k / d, k) else lo n d f (k + 1)
theorem lo_hit {n d k0 : Nat} (h0 : n * 10 ^ k0 % d = 0) : ∀ (f k : Nat), k ≤ k0 → k0 ≤ k + f → (∀ j, k ≤ j → j < k0 → n * 10 ^ j % d ≠ 0) → lo n d f k = some (n * 10 ^ k0 / d, k0)
  | 0, k, h1, h2, _ => by
    obtain rfl : k = k0 := by omega
    rw [lo, if_pos h0]
  | f + 1, k, h1, h2, h3 => by
    rw [lo]
    by_cases h : k = k0
    · rw [h, if_pos h0]
    · rw [if_neg (h3 k (Nat.le_refl _) (by omega))]
      exact lo_hit h0 f (k + 1) (by omega) (by omega) fun j a b => h3 j (by omega) b
theorem lo_miss {n d : Nat} : ∀ (f k : Nat), (∀ j, k ≤ j → j ≤ k + f → n * 10 ^ j % d ≠ 0) → lo n d f k = none
  | 0, k, h => by rw [lo, if_neg (h k (Nat.le_refl _) (by omega))]
  | f + 1, k, h => by
    rw [lo, if_neg (h k (Nat.le_refl _) (by omega))]
    exact lo_miss f (k + 1) fun j a b => h j (by omega) (by omega)
theorem low_mod {X D g k : Nat} (hg : 0 < g) (h1 : g ∣ X) (h2 : g ∣ D) : (X / g * 10 ^ k % (D / g) = 0 ↔ X * 10 ^ k % D = 0) ∧ X / g * 10 ^ k / (D / g) = X * 10 ^ k / D := by
  obtain ⟨x, rfl⟩ := h1
  obtain ⟨d, rfl⟩ := h2
  rw [Nat.mul_div_cancel_left _ hg, Nat.mul_div_cancel_left _ hg, Nat.mul_assoc, Nat.mul_mod_mul_left, Nat.mul_div_mul_left _ _ hg]
  refine ⟨⟨fun h => by rw [h, Nat.mul_zero], fun h => ?_⟩, rfl⟩
  rcases Nat.mul_eq_zero.1 h with h3 | h3
  · omega
  · exact h3
theorem sh_hit (X s : Nat) : X * 10 ^ (sh X s).2 = (sh X s).1 * 10 ^ s := by
  have h1 := sh_val s X
  have h2 := sh_le s X
  have h3 : (sh X s).1 * 10 ^ s = (sh X s).1 * 10 ^ (s - (sh X s).2) * 10 ^ (sh X s).2 := by
    rw [Nat.mul_assoc, ← Nat.pow_add, Nat.sub_add_cancel h2]
  rw [h3, h1]
theorem lo_sh {X s most : Nat} (hs : s ≤ most) : lo (X / Nat.gcd X (10 ^ s)) (10 ^ s / Nat.gcd X (10 ^ s)) most 0 = some (sh X s) := by
  have hp : 0 < 10 ^ s := Nat.pow_pos (by omega)
  have hg : 0 < Nat.gcd X (10 ^ s) := Nat.gcd_pos_of_pos_right _ hp
  have hm := fun k => low_mod (k := k) hg (Nat.gcd_dvd_left X (10 ^ s)) (Nat.gcd_dvd_right X (10 ^ s))
  have h1 := sh_hit X s
  have h0 : X * 10 ^ (sh X s).2 % 10 ^ s = 0 := by rw [h1]; exact Nat.mul_mod_left _ _
  rw [lo_hit ((hm _).1.2 h0) most 0 (Nat.zero_le _) (by have := sh_le s X; omega) (fun j _ hj h => by
    have h2 := sh_least s X j (by have := sh_le s X; omega) ((hm j).1.1 h)
    omega)]
  rw [(hm _).2, h1, Nat.mul_div_cancel _ hp]
theorem sg_mul (b : Bool) (X K : Nat) : sg b X * (K : Int) = sg b (X * K) := by
  cases b <;> simp [sg, Int.neg_mul]
theorem sh_rat (b : Bool) (X s : Nat) : mkRat (sg b (sh X s).1) (10 ^ (sh X s).2) = mkRat (sg b X) (10 ^ s) := by
  have h1 := sh_hit X s
  have hp : ∀ k : Nat, (10 : Nat) ^ k ≠ 0 := fun k => by have := Nat.pow_pos (n := k) (show 0 < 10 by omega); omega
  rw [Rat.mkRat_eq_iff (hp _) (hp _), sg_mul, sg_mul, h1]
end Go.Proofs.YtapikjmijmebpaaGreatDoorK.DecT
