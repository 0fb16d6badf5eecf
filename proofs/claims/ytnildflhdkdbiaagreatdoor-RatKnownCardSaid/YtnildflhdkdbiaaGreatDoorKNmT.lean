/-
  A number's text is read as it.
-/
import Derived.Test.YtnildflhdkdbiaaGreatDoorKNm
import Derived.Test.YtnildflhdkdbiaaGreatDoorKAc
set_option linter.all false
set_option linter.unusedVariables false
set_option linter.unusedSimpArgs false
set_option maxHeartbeats 4000000
namespace Go.Proofs.YtnildflhdkdbiaaGreatDoorK.NatT
open Go.Proofs.YtnildflhdkdbiaaGreatDoorK.AI Go.Proofs.YtnildflhdkdbiaaGreatDoorK.NatIr Go.Proofs.YtnildflhdkdbiaaGreatDoorK.Dig
variable {G : World → Prop}
theorem dec_isD (u : Nat) : ∀ c ∈ Lib.decDigits u, isD c = true := by
  induction u using Nat.strongRecOn with
  | _ u ih =>
    have hd : ∀ r, r < 10 → isD (UInt8.ofNat (48 + r)) = true := by
      intro r hr
      refine decide_eq_true ?_
      rw [UInt8.toNat_ofNat', Nat.mod_eq_of_lt (by omega)]
      omega
    by_cases h : u < 10
    · rw [dec_small h]
      intro c hc
      rw [List.mem_singleton] at hc
      subst hc
      exact hd u h
    · rw [dec_big h]
      intro c hc
      rcases List.mem_append.1 hc with hc | hc
      · exact ih _ (by omega) c hc
      · rw [List.mem_singleton] at hc
        subst hc
        exact hd _ (Nat.mod_lt _ (by omega))
theorem dec_val (u : Nat) : decV (Lib.decDigits u) = u := by
  induction u using Nat.strongRecOn with
  | _ u ih =>
    have hd : ∀ r, r < 10 → decV [UInt8.ofNat (48 + r)] = r := by
      intro r hr
      simp only [decV, List.foldl_cons, List.foldl_nil]
      rw [UInt8.toNat_ofNat', Nat.mod_eq_of_lt (by omega)]
      omega
    by_cases h : u < 10
    · rw [dec_small h, hd u h]
    · rw [dec_big h, decV_app, ih _ (by omega), hd _ (Nat.mod_lt _ (by omega))]
      simp
      omega
theorem dec_len {u k : Nat} (h : u < 10 ^ k) (hk : 0 < k) : (Lib.decDigits u).length ≤ k := by
  induction k generalizing u with
  | zero => omega
  | succ k ih =>
    by_cases h1 : u < 10
    · rw [dec_small h1]; simp
    · have hk0 : 0 < k := by
        rcases Nat.eq_zero_or_pos k with h2 | h2
        · subst h2; simp at h; omega
        · exact h2
      rw [dec_big h1, List.length_append, List.length_singleton]
      have := ih (u := u / 10) (by rw [Nat.pow_succ] at h; omega) hk0
      omega
/-- A number's text is read as it. -/
theorem pcr_parse_text (hG : Stable G) {X L : Nat} (hX : X < 4294967296 ^ L) (hL : L < 90000) :
    PCr Tryz.prog G 84 [.str ⟨(Lib.decDigits X).toArray⟩] (.tup [N X, .bool true]) := by
  have hl : (Lib.decDigits X).length ≤ 10 * L + 1 := by
    refine dec_len (Nat.lt_of_lt_of_le hX ?_) (by omega)
    have h1 : 4294967296 ^ L ≤ (10 ^ 10) ^ L := Nat.pow_le_pow_left (by decide) L
    rw [← Nat.pow_mul] at h1
    exact Nat.le_trans h1 (Nat.pow_le_pow_right (by omega) (by omega))
  have hp := dec_pos X
  have hsz := ba_size (Lib.decDigits X)
  have h := pcr_parse hG ⟨(Lib.decDigits X).toArray⟩ (by omega) (by omega) (allD_iff.2 (dec_isD X))
  rwa [show decV (⟨(Lib.decDigits X).toArray⟩ : ByteArray).data.toList = X from dec_val X] at h
theorem pcr_textN (hG : Stable G) (hT : ∀ w, G w → Lib.TabIs Tryz.prog w "internal/strconv.uint64pow10" .u64 Lib.pow10Tab) {L X : Nat} {d : D} (hx : Nm L X d) (h1 : L < 100000) :
    PCr Tryz.prog G 26 [d] (.str ⟨(Lib.decDigits X).toArray⟩) := by
  obtain ⟨a, n, a1, a2, rfl, a4, rfl⟩ := hx
  exact pcr_text hG hT a n a1 a2 (by omega)
end Go.Proofs.YtnildflhdkdbiaaGreatDoorK.NatT
