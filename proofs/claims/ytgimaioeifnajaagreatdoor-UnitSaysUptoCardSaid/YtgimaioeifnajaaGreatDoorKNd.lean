/-
  Joined: Nm, NmT, Zm.
-/
import Derived.Test.YtgimaioeifnajaaGreatDoorKParseN
import Derived.Test.YtgimaioeifnajaaGreatDoorKAc
set_option linter.all false
set_option maxHeartbeats 4000000
/-
  The contracts of package nat, for numbers however they are told.
-/
namespace Go.Proofs.YtgimaioeifnajaaGreatDoorK.NatT
open AI NatIr Dig LibT
variable {G : World → Prop}
def Nm (L X : Nat) (d : D) : Prop := ∃ (a : List Int) (n : Nat), n = a.length ∧ ok 4294967296 a ∧ vl 4294967296 a = X ∧ a.length ≤ L ∧ d = .agg [.sl n (W a)]
variable {L M X Y Z : Nat} {d e : D}
theorem nm_in {a : List Int} {n : Nat} (hn : n = a.length) (ha : ok 4294967296 a) (hl : a.length ≤ L) : Nm L (vl 4294967296 a) (.agg [.sl n (W a)]) := ⟨a, n, hn, ha, rfl, hl, rfl⟩
theorem nm_N (h : X < 4294967296 ^ L) : Nm L X (N X) := ⟨wd 4294967296 X, _, rfl, ok_wd (by omega) _, vl_wd (by omega) _, wd_length_le (by omega) h, rfl⟩
theorem Nm.lt (h : Nm L X d) : X < 4294967296 ^ L := by
  obtain ⟨a, n, _, ha, rfl, hl, _⟩ := h
  exact Nat.lt_of_lt_of_le (vl_lt ha) (Nat.pow_le_pow_right (by omega) hl)
theorem Nm.up (h : Nm L X d) (hl : L ≤ M) : Nm M X d := by
  obtain ⟨a, n, h1, h2, h3, h4, h5⟩ := h
  exact ⟨a, n, h1, h2, h3, Nat.le_trans h4 hl, h5⟩
theorem nm_le (hy : Nm L Y e) (h : X ≤ Y) : Nm L X (N X) := nm_N (Nat.lt_of_le_of_lt h hy.lt)
theorem nm_add (hx : Nm L X d) (hy : Nm L Y e) : Nm (L + 1) (X + Y) (N (X + Y)) := by
  have h1 := hx.lt
  have h2 := hy.lt
  refine nm_N ?_
  rw [Nat.pow_succ]
  omega
theorem nm_mul (hx : Nm L X d) (hy : Nm M Y e) : Nm (L + M) (X * Y) (N (X * Y)) := by
  refine nm_N ?_
  rw [Nat.pow_add]
  exact Nat.mul_lt_mul_of_le_of_lt (Nat.le_of_lt hx.lt) hy.lt (Nat.lt_of_le_of_lt (Nat.zero_le _) hx.lt)
theorem nm_pow (hx : Nm L X d) (k : Nat) : Nm (L * k + 1) (X ^ k) (N (X ^ k)) := by
  refine nm_N ?_
  have h1 : X ^ k ≤ (4294967296 ^ L) ^ k := Nat.pow_le_pow_left (Nat.le_of_lt hx.lt) k
  rw [← Nat.pow_mul] at h1
  exact Nat.lt_of_le_of_lt h1 (Nat.pow_lt_pow_right (by omega) (by omega))
theorem pcr_addN (hG : Stable G) (hx : Nm L X d) (hy : Nm M Y e) (h1 : L < 500000) (h2 : M < 500000) : PCr Tryz.prog G 37 [d, e] (N (X + Y)) := by
  obtain ⟨a, n, a1, a2, rfl, a4, rfl⟩ := hx
  obtain ⟨b, m, b1, b2, rfl, b4, rfl⟩ := hy
  exact pcr_add hG a b n m a1 b1 a2 b2 (by omega) (by omega)
theorem pcr_cmpN (hG : Stable G) (hx : Nm L X d) (hy : Nm M Y e) (h1 : L < 1000000) (h2 : M < 1000000) : PCr Tryz.prog G 44 [d, e] (.int .i64 (cmpN X Y)) := by
  obtain ⟨a, n, a1, a2, rfl, a4, rfl⟩ := hx
  obtain ⟨b, m, b1, b2, rfl, b4, rfl⟩ := hy
  exact pcr_cmp hG a b n m a1 b1 a2 b2 (by omega) (by omega)
theorem pcr_cmpE (hG : Stable G) (hx : Nm L X d) (hy : Nm M Y e) (h1 : L < 1000000) (h2 : M < 1000000) (h : X = Y) : PCr Tryz.prog G 44 [d, e] (.int .i64 0) := by
  have h3 := pcr_cmpN hG hx hy h1 h2
  rwa [show cmpN X Y = 0 by unfold cmpN; rw [if_neg (by omega), if_pos h]] at h3
theorem pcr_cmpL (hG : Stable G) (hx : Nm L X d) (hy : Nm M Y e) (h1 : L < 1000000) (h2 : M < 1000000) (h : X < Y) : PCr Tryz.prog G 44 [d, e] (.int .i64 (-1)) := by
  have h3 := pcr_cmpN hG hx hy h1 h2
  rwa [show cmpN X Y = -1 by unfold cmpN; rw [if_pos h]] at h3
theorem wd_last {n : Nat} (h : n ≠ 0) : (wd 4294967296 n).getD ((wd 4294967296 n).length - 1) 0 ≠ 0 := by
  induction n using Nat.strongRecOn with
  | _ n ih =>
    rw [wd_pos (by omega) h]
    by_cases h2 : n / 4294967296 = 0
    · rw [h2, wd_zero]
      have : n % 4294967296 = n := Nat.mod_eq_of_lt (by omega)
      simp only [List.length_singleton, Nat.sub_self, List.getD_cons_zero]
      omega
    · have h3 := ih (n / 4294967296) (Nat.div_lt_self (by omega) (by omega)) h2
      have h4 : (wd 4294967296 (n / 4294967296)).length ≠ 0 := fun e => h2 ((wd_eq_nil (by omega)).1 (List.eq_nil_of_length_eq_zero e))
      rw [List.length_cons, Nat.add_sub_cancel, show (wd 4294967296 (n / 4294967296)).length = ((wd 4294967296 (n / 4294967296)).length - 1) + 1 by omega, List.getD_cons_succ]
      exact h3
theorem pcr_goodN (hG : Stable G) (hx : X < 4294967296 ^ L) (h1 : L < 1000000) : PCr Tryz.prog G 19 [N X] (.bool true) := by
  have hl := wd_length_le (B := 4294967296) (by omega) hx
  have h3 := pcr_good hG (wd 4294967296 X) _ rfl (by omega)
  by_cases h : X = 0
  · subst h
    rw [wd_zero] at h3
    rw [N, wd_zero]
    exact h3
  · rwa [show (decide (wd 4294967296 X = []) || decide ((wd 4294967296 X).getD ((wd 4294967296 X).length - 1) 0 ≠ 0)) = true by rw [decide_eq_true (wd_last h), Bool.or_true]] at h3
end Go.Proofs.YtgimaioeifnajaaGreatDoorK.NatT
/-
  A number's text is read as it.
-/
namespace Go.Proofs.YtgimaioeifnajaaGreatDoorK.NatT
open AI NatIr Dig
variable {G : World → Prop}
theorem dec_isD (u : Nat) : ∀ c ∈ Lib.decDigits u, isD c = true := by
  induction u using Nat.strongRecOn with
  | _ u ih =>
    have hd : ∀ r, r < 10 → isD (UInt8.ofNat (48 + r)) = true := by
      intro r hr
      refine decide_eq_true ?_
      rw [UInt8.toNat_ofNat', Nat.mod_eq_of_lt (by omega)]
      omega
    by_cases h : u < 10
    · rw [dec_small h]
      intro c hc
      rw [List.mem_singleton] at hc
      subst hc
      exact hd u h
    · rw [dec_big h]
      intro c hc
      rcases List.mem_append.1 hc with hc | hc
      · exact ih _ (by omega) c hc
      · rw [List.mem_singleton] at hc
        subst hc
        exact hd _ (Nat.mod_lt _ (by omega))
theorem dec_val (u : Nat) : decV (Lib.decDigits u) = u := by
  induction u using Nat.strongRecOn with
  | _ u ih =>
    have hd : ∀ r, r < 10 → decV [UInt8.ofNat (48 + r)] = r := by
      intro r hr
      simp only [decV, List.foldl_cons, List.foldl_nil]
      rw [UInt8.toNat_ofNat', Nat.mod_eq_of_lt (by omega)]
      omega
    by_cases h : u < 10
    · rw [dec_small h, hd u h]
    · rw [dec_big h, decV_app, ih _ (by omega), hd _ (Nat.mod_lt _ (by omega))]
      simp
      omega
theorem dec_len {u k : Nat} (h : u < 10 ^ k) (hk : 0 < k) : (Lib.decDigits u).length ≤ k := by
  induction k generalizing u with
  | zero => omega
  | succ k ih =>
    by_cases h1 : u < 10
    · rw [dec_small h1]; simp
    · have hk0 : 0 < k := by
        rcases Nat.eq_zero_or_pos k with h2 | h2
        · subst h2; simp at h; omega
        · exact h2
      rw [dec_big h1, List.length_append, List.length_singleton]
      have := ih (u := u / 10) (by rw [Nat.pow_succ] at h; omega) hk0
      omega
theorem pcr_parse_text (hG : Stable G) {X L : Nat} (hX : X < 4294967296 ^ L) (hL : L < 90000) :
    PCr Tryz.prog G 50 [.str ⟨(Lib.decDigits X).toArray⟩] (.tup [N X, .bool true]) := by
  have hl : (Lib.decDigits X).length ≤ 10 * L + 1 := by
    refine dec_len (Nat.lt_of_lt_of_le hX ?_) (by omega)
    have h1 : 4294967296 ^ L ≤ (10 ^ 10) ^ L := Nat.pow_le_pow_left (by decide) L
    rw [← Nat.pow_mul] at h1
    exact Nat.le_trans h1 (Nat.pow_le_pow_right (by omega) (by omega))
  have hp := dec_pos X
  have hsz := ba_size (Lib.decDigits X)
  have h := pcr_parse hG ⟨(Lib.decDigits X).toArray⟩ (by omega) (by omega) (allD_iff.2 (dec_isD X))
  rwa [show decV (⟨(Lib.decDigits X).toArray⟩ : ByteArray).data.toList = X from dec_val X] at h
theorem pcr_textN (hG : Stable G) (hT : ∀ w, G w → Lib.TabIs Tryz.prog w "internal/strconv.uint64pow10" .u64 Lib.pow10Tab) {L X : Nat} {d : D} (hx : Nm L X d) (h1 : L < 100000) :
    PCr Tryz.prog G 21 [d] (.str ⟨(Lib.decDigits X).toArray⟩) := by
  obtain ⟨a, n, a1, a2, rfl, a4, rfl⟩ := hx
  exact pcr_text hG hT a n a1 a2 (by omega)
end Go.Proofs.YtgimaioeifnajaaGreatDoorK.NatT
/-
  Numbers with a sign, as abstract data.
-/
namespace Go.Proofs.YtgimaioeifnajaaGreatDoorK.NatT
open AI NatIr Dig
def nl (X : Nat) : D := .sl (wd 4294967296 X).length (W (wd 4294967296 X))
theorem N_nl (X : Nat) : N X = .agg [nl X] := rfl
def ng (z : Int) : Bool := decide (z < 0)
def ZD (z : Int) : D := .agg [.bool (ng z), nl z.natAbs]
def sg (b : Bool) (X : Nat) : Int := if b then -(X : Int) else X
theorem sg_abs (b : Bool) (X : Nat) : (sg b X).natAbs = X := by cases b <;> simp [sg]
theorem sg_neg (b : Bool) (X : Nat) : ng (sg b X) = (b && decide (X ≠ 0)) := by
  unfold ng
  cases b
  · simp [sg]
  · simp only [sg, if_true, Bool.true_and]
    exact decide_eq_decide.2 (by omega)
theorem sg_self (z : Int) : sg (ng z) z.natAbs = z := by
  unfold sg ng
  split
  · rename_i h; have := of_decide_eq_true h; omega
  · rename_i h; have h2 : ¬ z < 0 := fun h2 => h (decide_eq_true h2); omega
theorem ZD_sg (b : Bool) (X : Nat) : ZD (sg b X) = .agg [.bool (b && decide (X ≠ 0)), nl X] := by rw [ZD, sg_neg, sg_abs]
def Zm (L : Nat) (z : Int) (d : D) : Prop := ∃ (b : Bool) (X : Nat) (e : D), Nm L X (.agg [e]) ∧ z = sg b X ∧ d = .agg [.bool b, e]
variable {L M X : Nat} {x y z : Int} {d e : D}
theorem Nm.un (h : Nm L X d) : ∃ (n : Nat) (cs : List D), d = .agg [.sl n cs] := by
  obtain ⟨a, n, _, _, _, _, rfl⟩ := h
  exact ⟨n, _, rfl⟩
theorem zm_in {a : List Int} {n : Nat} (b : Bool) (hn : n = a.length) (ha : ok 4294967296 a) (hl : a.length ≤ L) : Zm L (sg b (vl 4294967296 a)) (.agg [.bool b, .sl n (W a)]) := ⟨b, _, _, nm_in hn ha hl, rfl, rfl⟩
theorem zm_ZD (h : z.natAbs < 4294967296 ^ L) : Zm L z (ZD z) := ⟨ng z, z.natAbs, nl z.natAbs, nm_N h, (sg_self z).symm, rfl⟩
theorem zm_sg {b : Bool} {X : Nat} {e : D} (h : Nm L X (.agg [e])) : Zm L (sg b X) (.agg [.bool b, e]) := ⟨b, X, e, h, rfl, rfl⟩
theorem Zm.lt (h : Zm L z d) : z.natAbs < 4294967296 ^ L := by
  obtain ⟨b, X, e, h, rfl, _⟩ := h
  rw [sg_abs]; exact h.lt
theorem Zm.up (h : Zm L z d) (hl : L ≤ M) : Zm M z d := by
  obtain ⟨b, X, e, h, h1, h2⟩ := h
  exact ⟨b, X, e, h.up hl, h1, h2⟩
theorem Zm.row (h : Zm L z d) : ∃ (b : Bool) (n : Nat) (a : List Int), Nm L z.natAbs (.agg [.sl n (W a)]) ∧ z = sg b z.natAbs ∧ d = .agg [.bool b, .sl n (W a)] := by
  obtain ⟨b, X, e, h, rfl, rfl⟩ := h
  have h0 := h
  obtain ⟨a, n, _, _, _, _, he⟩ := h0
  cases he
  rw [sg_abs]
  exact ⟨b, n, a, h, rfl, rfl⟩
theorem zm_le (hy : Zm L y e) (h : z.natAbs ≤ y.natAbs) : Zm L z (ZD z) := zm_ZD (Nat.lt_of_le_of_lt h hy.lt)
theorem zm_neg (hx : Zm L x d) : Zm L (-x) (ZD (-x)) := zm_le hx (by omega)
theorem zm_add (hx : Zm L x d) (hy : Zm M y e) : Zm (max L M + 1) (x + y) (ZD (x + y)) := by
  have h1 := hx.lt
  have h2 := hy.lt
  have h3 : 4294967296 ^ L ≤ 4294967296 ^ max L M := Nat.pow_le_pow_right (by omega) (by omega)
  have h4 : 4294967296 ^ M ≤ 4294967296 ^ max L M := Nat.pow_le_pow_right (by omega) (by omega)
  refine zm_ZD ?_
  rw [Nat.pow_succ]
  omega
theorem zm_mul (hx : Zm L x d) (hy : Zm M y e) : Zm (L + M) (x * y) (ZD (x * y)) := by
  refine zm_ZD ?_
  rw [Int.natAbs_mul, Nat.pow_add]
  exact Nat.mul_lt_mul_of_le_of_lt (Nat.le_of_lt hx.lt) hy.lt (Nat.lt_of_le_of_lt (Nat.zero_le _) hx.lt)
theorem cmpN_zero (X : Nat) : decide (cmpN X 0 = 0) = decide (X = 0) := by
  unfold cmpN
  rw [if_neg (Nat.not_lt_zero _)]
  split <;> simp_all
end Go.Proofs.YtgimaioeifnajaaGreatDoorK.NatT
