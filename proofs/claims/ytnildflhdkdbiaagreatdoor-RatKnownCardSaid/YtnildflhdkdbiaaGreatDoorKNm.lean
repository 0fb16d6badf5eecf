/-
  The contracts of package nat, for numbers however they are told.
-/
import Derived.Test.YtnildflhdkdbiaaGreatDoorKParseN
set_option linter.all false
set_option linter.unusedVariables false
set_option linter.unusedSimpArgs false
set_option maxHeartbeats 4000000
namespace Go.Proofs.YtnildflhdkdbiaaGreatDoorK.NatT
open Go.Proofs.YtnildflhdkdbiaaGreatDoorK.AI Go.Proofs.YtnildflhdkdbiaaGreatDoorK.NatIr Go.Proofs.YtnildflhdkdbiaaGreatDoorK.Dig Go.Proofs.YtnildflhdkdbiaaGreatDoorK.LibT
variable {G : World → Prop}
/-- d tells the number X, in at most L words. -/
def Nm (L X : Nat) (d : D) : Prop := ∃ (a : List Int) (n : Nat), n = a.length ∧ ok 4294967296 a ∧ vl 4294967296 a = X ∧ a.length ≤ L ∧ d = .agg [.sl n (W a)]
variable {L M X Y Z : Nat} {d e : D}
theorem nm_in {a : List Int} {n : Nat} (hn : n = a.length) (ha : ok 4294967296 a) (hl : a.length ≤ L) : Nm L (vl 4294967296 a) (.agg [.sl n (W a)]) := ⟨a, n, hn, ha, rfl, hl, rfl⟩
theorem nm_N (h : X < 4294967296 ^ L) : Nm L X (N X) := ⟨wd 4294967296 X, _, rfl, ok_wd (by omega) _, vl_wd (by omega) _, wd_length_le (by omega) h, rfl⟩
theorem Nm.lt (h : Nm L X d) : X < 4294967296 ^ L := by
  obtain ⟨a, n, _, ha, rfl, hl, _⟩ := h
  exact Nat.lt_of_lt_of_le (vl_lt ha) (Nat.pow_le_pow_right (by omega) hl)
theorem Nm.up (h : Nm L X d) (hl : L ≤ M) : Nm M X d := by
  obtain ⟨a, n, h1, h2, h3, h4, h5⟩ := h
  exact ⟨a, n, h1, h2, h3, Nat.le_trans h4 hl, h5⟩
theorem nm_le (hy : Nm L Y e) (h : X ≤ Y) : Nm L X (N X) := nm_N (Nat.lt_of_le_of_lt h hy.lt)
theorem nm_add (hx : Nm L X d) (hy : Nm L Y e) : Nm (L + 1) (X + Y) (N (X + Y)) := by
  have h1 := hx.lt
  have h2 := hy.lt
  refine nm_N ?_
  rw [Nat.pow_succ]
  omega
theorem nm_mul (hx : Nm L X d) (hy : Nm M Y e) : Nm (L + M) (X * Y) (N (X * Y)) := by
  refine nm_N ?_
  rw [Nat.pow_add]
  exact Nat.mul_lt_mul_of_le_of_lt (Nat.le_of_lt hx.lt) hy.lt (Nat.lt_of_le_of_lt (Nat.zero_le _) hx.lt)
theorem nm_pow (hx : Nm L X d) (k : Nat) : Nm (L * k + 1) (X ^ k) (N (X ^ k)) := by
  refine nm_N ?_
  have h1 : X ^ k ≤ (4294967296 ^ L) ^ k := Nat.pow_le_pow_left (Nat.le_of_lt hx.lt) k
  rw [← Nat.pow_mul] at h1
  exact Nat.lt_of_le_of_lt h1 (Nat.pow_lt_pow_right (by omega) (by omega))
theorem pcr_addN (hG : Stable G) (hx : Nm L X d) (hy : Nm M Y e) (h1 : L < 500000) (h2 : M < 500000) : PCr Tryz.prog G 22 [d, e] (N (X + Y)) := by
  obtain ⟨a, n, a1, a2, rfl, a4, rfl⟩ := hx
  obtain ⟨b, m, b1, b2, rfl, b4, rfl⟩ := hy
  exact pcr_add hG a b n m a1 b1 a2 b2 (by omega) (by omega)
theorem pcr_mulN (hG : Stable G) (hx : Nm L X d) (hy : Nm M Y e) (h1 : L < 400000) (h2 : M < 400000) : PCr Tryz.prog G 24 [d, e] (N (X * Y)) := by
  obtain ⟨a, n, a1, a2, rfl, a4, rfl⟩ := hx
  obtain ⟨b, m, b1, b2, rfl, b4, rfl⟩ := hy
  exact pcr_mul hG a b n m a1 b1 a2 b2 (by omega) (by omega)
theorem pcr_subN (hG : Stable G) (hx : Nm L X d) (hy : Nm M Y e) (h1 : L < 500000) (h2 : M < 500000) : PCr Tryz.prog G 15 [d, e] (.tup [N (X - Y), .bool (decide (Y ≤ X))]) := by
  obtain ⟨a, n, a1, a2, rfl, a4, rfl⟩ := hx
  obtain ⟨b, m, b1, b2, rfl, b4, rfl⟩ := hy
  exact pcr_sub hG a b n m a1 b1 a2 b2 (by omega) (by omega)
theorem pcr_subE (hG : Stable G) (hx : Nm L X d) (hy : Nm M Y e) (h1 : L < 500000) (h2 : M < 500000) (h : X = Z + Y) : PCr Tryz.prog G 15 [d, e] (.tup [N Z, .bool true]) := by
  have h3 := pcr_subN hG hx hy h1 h2
  rwa [show X - Y = Z by omega, show decide (Y ≤ X) = true from decide_eq_true (by omega)] at h3
theorem pcr_cmpN (hG : Stable G) (hx : Nm L X d) (hy : Nm M Y e) (h1 : L < 1000000) (h2 : M < 1000000) : PCr Tryz.prog G 21 [d, e] (.int .i64 (cmpN X Y)) := by
  obtain ⟨a, n, a1, a2, rfl, a4, rfl⟩ := hx
  obtain ⟨b, m, b1, b2, rfl, b4, rfl⟩ := hy
  exact pcr_cmp hG a b n m a1 b1 a2 b2 (by omega) (by omega)
theorem pcr_cmpE (hG : Stable G) (hx : Nm L X d) (hy : Nm M Y e) (h1 : L < 1000000) (h2 : M < 1000000) (h : X = Y) : PCr Tryz.prog G 21 [d, e] (.int .i64 0) := by
  have h3 := pcr_cmpN hG hx hy h1 h2
  rwa [show cmpN X Y = 0 by unfold cmpN; rw [if_neg (by omega), if_pos h]] at h3
theorem pcr_cmpL (hG : Stable G) (hx : Nm L X d) (hy : Nm M Y e) (h1 : L < 1000000) (h2 : M < 1000000) (h : X < Y) : PCr Tryz.prog G 21 [d, e] (.int .i64 (-1)) := by
  have h3 := pcr_cmpN hG hx hy h1 h2
  rwa [show cmpN X Y = -1 by unfold cmpN; rw [if_pos h]] at h3
theorem pcr_divN (hG : Stable G) (hx : Nm L X d) (hy : Nm M Y e) (h1 : L < 400000) (h2 : M < 400000) (h : Y ≠ 0) : PCr Tryz.prog G 19 [d, e] (.tup [N (X / Y), N (X % Y), .bool true]) := by
  obtain ⟨a, n, a1, a2, rfl, a4, rfl⟩ := hx
  obtain ⟨b, m, b1, b2, rfl, b4, rfl⟩ := hy
  have h3 := pcr_div hG a b n m a1 b1 a2 b2 (by omega) (by omega)
  rwa [if_neg h, if_neg h, show decide (vl 4294967296 b ≠ 0) = true from decide_eq_true h] at h3
theorem pcr_div0 (hG : Stable G) (hx : Nm L X d) (hy : Nm M 0 e) (h1 : L < 400000) (h2 : M < 400000) : PCr Tryz.prog G 19 [d, e] (.tup [N 0, N 0, .bool false]) := by
  obtain ⟨a, n, a1, a2, rfl, a4, rfl⟩ := hx
  obtain ⟨b, m, b1, b2, b3, b4, rfl⟩ := hy
  have h3 := pcr_div hG a b n m a1 b1 a2 b2 (by omega) (by omega)
  rwa [if_pos b3, if_pos b3, show decide (vl 4294967296 b ≠ 0) = false from decide_eq_false (by omega)] at h3
theorem pcr_gcdN (hG : Stable G) (hx : Nm L X d) (hy : Nm M Y e) (h1 : L < 400000) (h2 : M < 400000) : PCr Tryz.prog G 28 [d, e] (N (Nat.gcd X Y)) := by
  obtain ⟨a, n, a1, a2, rfl, a4, rfl⟩ := hx
  obtain ⟨b, m, b1, b2, rfl, b4, rfl⟩ := hy
  exact pcr_gcd hG a b n m a1 b1 a2 b2 (by omega) (by omega)
theorem pcr_powN (hG : Stable G) (hx : Nm L X d) (k : Int) (h1 : L < 200) (hk : k < 1000) : PCr Tryz.prog G 115 [d, .int .i64 k] (N (X ^ k.toNat)) := by
  obtain ⟨a, n, a1, a2, rfl, a4, rfl⟩ := hx
  exact pcr_pow hG a n k a1 a2 hk (by omega)
theorem wd_last {n : Nat} (h : n ≠ 0) : (wd 4294967296 n).getD ((wd 4294967296 n).length - 1) 0 ≠ 0 := by
  induction n using Nat.strongRecOn with
  | _ n ih =>
    rw [wd_pos (by omega) h]
    by_cases h2 : n / 4294967296 = 0
    · rw [h2, wd_zero]
      have : n % 4294967296 = n := Nat.mod_eq_of_lt (by omega)
      simp only [List.length_singleton, Nat.sub_self, List.getD_cons_zero]
      omega
    · have h3 := ih (n / 4294967296) (Nat.div_lt_self (by omega) (by omega)) h2
      have h4 : (wd 4294967296 (n / 4294967296)).length ≠ 0 := fun e => h2 ((wd_eq_nil (by omega)).1 (List.eq_nil_of_length_eq_zero e))
      rw [List.length_cons, Nat.add_sub_cancel, show (wd 4294967296 (n / 4294967296)).length = ((wd 4294967296 (n / 4294967296)).length - 1) + 1 by omega, List.getD_cons_succ]
      exact h3
theorem pcr_goodN (hG : Stable G) (hx : X < 4294967296 ^ L) (h1 : L < 1000000) : PCr Tryz.prog G 53 [N X] (.bool true) := by
  have hl := wd_length_le (B := 4294967296) (by omega) hx
  have h3 := pcr_good hG (wd 4294967296 X) _ rfl (by omega)
  by_cases h : X = 0
  · subst h
    rw [wd_zero] at h3
    rw [N, wd_zero]
    exact h3
  · rwa [show (decide (wd 4294967296 X = []) || decide ((wd 4294967296 X).getD ((wd 4294967296 X).length - 1) 0 ≠ 0)) = true by rw [decide_eq_true (wd_last h), Bool.or_true]] at h3
end Go.Proofs.YtnildflhdkdbiaaGreatDoorK.NatT
