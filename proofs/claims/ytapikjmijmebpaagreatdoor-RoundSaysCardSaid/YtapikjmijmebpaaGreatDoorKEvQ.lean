/-
  Closed calls, run: fractions by what they compute.
-/
import Derived.Test.YtapikjmijmebpaaGreatDoorKEvL
import Derived.Test.YtapikjmijmebpaaGreatDoorKQa
set_option linter.all false
set_option linter.unusedVariables false
set_option linter.unusedSimpArgs false
set_option maxHeartbeats 4000000
namespace Go.Proofs.YtapikjmijmebpaaGreatDoorK.EvT
open Go.Proofs.YtapikjmijmebpaaGreatDoorK.AI Go.Proofs.YtapikjmijmebpaaGreatDoorK.NatIr Go.Proofs.YtapikjmijmebpaaGreatDoorK.Dig Go.Proofs.YtapikjmijmebpaaGreatDoorK.NatT Go.Proofs.YtapikjmijmebpaaGreatDoorK.NumT Go.Proofs.YtapikjmijmebpaaGreatDoorK.RatT
variable {G : World → Prop}
def dQ : D → Option (Bool × Nat × Nat)
  | .agg [.bool b, e1, e2] => match dN (.agg [e1]), dN (.agg [e2]) with
    | some X, some Y => some (b, X, Y)
    | _, _ => none
  | _ => none
theorem dQ_ok {d : D} {b : Bool} {X Y : Nat} (h : dQ d = some (b, X, Y)) : Qm 199 (mkRat (sg b X) Y) d := by
  unfold dQ at h
  split at h
  · split at h
    · rename_i h1 h2
      cases h
      exact ⟨_, _, _, _, _, by omega, dN_ok h1, dN_ok h2, rfl, rfl⟩
    · cases h
  · cases h
def zD (z : Int) : D := frcI z fun z => match nD z.natAbs with
  | .agg [e] => .agg [.bool (match z with | .ofNat _ => false | .negSucc _ => true), e]
  | _ => .un
theorem zD_eq (z : Int) : zD z = ZD z := by
  rw [zD, frcI_eq, nD_eq]
  cases z with
  | ofNat n => rw [ZD, show ng (Int.ofNat n) = false from decide_eq_false (Int.not_lt.2 (Int.natCast_nonneg n))]; rfl
  | negSucc n => rw [ZD, show ng (Int.negSucc n) = true from decide_eq_true (Int.negSucc_lt_zero n)]; rfl
def qD (r : Rat) : D := match r with
  | ⟨z, q, _, _⟩ => match zD z, nD q with
    | .agg [b, e], .agg [e2] => .agg [b, e, e2]
    | _, _ => .un
theorem qD_eq (r : Rat) : qD r = QD r := by
  obtain ⟨z, q, h1, h2⟩ := r
  simp only [qD, zD_eq, nD_eq]
  rfl
def q1 (f : Rat → Option D) : List D → Option D
  | [d] => match dQ d with
    | some (b, X, Y) => f (mkRat (sg b X) Y)
    | none => none
  | _ => none
def q2 (f : Rat → Rat → D) : List D → Option D
  | [d, e] => match dQ d, dQ e with
    | some (b, X, Y), some (c, U, V) => some (f (mkRat (sg b X) Y) (mkRat (sg c U) V))
    | _, _ => none
  | _ => none
variable {P : Program} {F : FuncId}
theorem q1_ok {f : Rat → Option D} (h : ∀ x d r, Qm 199 x d → f x = some r → PCr P G F [d] r) (xs : List D) (r : D) (hx : q1 f xs = some r) : PCr P G F xs r := by
  unfold q1 at hx
  split at hx
  · split at hx
    · rename_i h1; exact h _ _ _ (dQ_ok h1) hx
    · cases hx
  · cases hx
theorem q2_ok {f : Rat → Rat → D} (h : ∀ x y d e, Qm 199 x d → Qm 199 y e → PCr P G F [d, e] (f x y)) (xs : List D) (r : D) (hx : q2 f xs = some r) : PCr P G F xs r := by
  unfold q2 at hx
  split at hx
  · split at hx
    · rename_i h1 h2; cases hx; exact h _ _ _ _ (dQ_ok h1) (dQ_ok h2)
    · cases hx
  · cases hx
def eQAdd : List D → Option D := q2 fun x y => qD (x + y)
def eQMul : List D → Option D := q2 fun x y => qD (x * y)
def eQCmp : List D → Option D := q2 fun x y => frcI (x - y).num.sign fun z => .int .i64 z
def eQNeg : List D → Option D := q1 fun x => some (qD (-x))
def eQSign : List D → Option D := q1 fun x => some (frcI x.num.sign fun z => .int .i64 z)
def eQFloor : List D → Option D := q1 fun x => some (zD x.floor)
def eQInv : List D → Option D := q1 fun x => match x.num with
  | .ofNat 0 => none
  | _ => some (.tup [qD x⁻¹, .bool true])
def eQOf : List D → Option D
  | [.agg [.bool b, d], .agg [e]] => match dN (.agg [d]), dN (.agg [e]) with
    | some X, some (Y + 1) => some (.tup [qD (mkRat (sg b X) (Y + 1)), .bool true])
    | some _, some 0 => some (.tup [qD 0, .bool false])
    | _, _ => none
  | _ => none
def eQInt : List D → Option D
  | [.int .i64 n] => if -9223372036854775808 ≤ n ∧ n ≤ 9223372036854775807 then some (qD (n : Rat)) else none
  | _ => none
def eQPow : List D → Option D
  | [d, .int .i64 k] => match dQ d with
    | some (b, X, Y) => match k with
      | .ofNat K => if K < 1000 then some (.tup [qD ((mkRat (sg b X) Y) ^ K), .bool true]) else none
      | .negSucc K => match (mkRat (sg b X) Y).num with
        | .ofNat 0 => none
        | _ => if K < 100 then some (.tup [qD ((mkRat (sg b X) Y)⁻¹ ^ (K + 1)), .bool true]) else none
    | none => none
  | _ => none
theorem eQAdd_ok (hG : Stable G) : ∀ xs r, eQAdd xs = some r → PCr Tryz.prog G 67 xs r := q2_ok fun x y d e hx hy => by rw [qD_eq]; exact RatT.pcr_add hG hx hy (by omega) (by omega)
theorem eQMul_ok (hG : Stable G) : ∀ xs r, eQMul xs = some r → PCr Tryz.prog G 68 xs r := q2_ok fun x y d e hx hy => by rw [qD_eq]; exact RatT.pcr_mul hG hx hy (by omega) (by omega)
theorem eQCmp_ok (hG : Stable G) : ∀ xs r, eQCmp xs = some r → PCr Tryz.prog G 63 xs r := q2_ok fun x y d e hx hy => by rw [frcI_eq]; exact RatT.pcr_cmp hG hx hy (by omega) (by omega)
theorem eQNeg_ok (hG : Stable G) : ∀ xs r, eQNeg xs = some r → PCr Tryz.prog G 75 xs r := q1_ok fun x d r hx h => by cases h; rw [qD_eq]; exact RatT.pcr_neg hG hx (by omega)
theorem eQSign_ok (hG : Stable G) : ∀ xs r, eQSign xs = some r → PCr Tryz.prog G 35 xs r := q1_ok fun x d r hx h => by cases h; rw [frcI_eq]; exact RatT.pcr_sign hG hx (by omega)
theorem eQFloor_ok (hG : Stable G) : ∀ xs r, eQFloor xs = some r → PCr Tryz.prog G 74 xs r := q1_ok fun x d r hx h => by cases h; rw [zD_eq]; exact RatT.pcr_floor hG hx (by omega)
theorem eQInv_ok (hG : Stable G) : ∀ xs r, eQInv xs = some r → PCr Tryz.prog G 81 xs r := q1_ok fun x d r hx h => by
  split at h
  · cases h
  · rename_i h0
    cases h
    rw [qD_eq]
    exact RatT.pcr_inv hG hx (by omega) (fun e => h0 (by rw [e]; rfl))
theorem eQOf_ok (hG : Stable G) (xs : List D) (r : D) (h : eQOf xs = some r) : PCr Tryz.prog G 66 xs r := by
  unfold eQOf at h
  split at h
  · split at h
    · rename_i h1 h2
      cases h
      rw [qD_eq]
      exact RatT.pcr_of hG (dN_ok h1) (dN_ok h2) (by omega) (by omega) (by omega)
    · rename_i h1 h2
      cases h
      rw [qD_eq]
      exact RatT.pcr_of0 hG (dN_ok h1) (dN_ok h2) (by omega) (by omega)
    · cases h
  · cases h
theorem eQInt_ok (hG : Stable G) (xs : List D) (r : D) (h : eQInt xs = some r) : PCr Tryz.prog G 65 xs r := by
  unfold eQInt at h
  split at h
  · split at h
    · rename_i hc
      cases h
      rw [qD_eq]
      exact RatT.pcr_int hG _ hc.1 hc.2
    · cases h
  · cases h
theorem eQPow_ok (hG : Stable G) (xs : List D) (r : D) (h : eQPow xs = some r) : PCr Tryz.prog G 64 xs r := by
  unfold eQPow at h
  split at h
  · split at h
    · rename_i h1
      split at h
      · split at h
        · rename_i hk
          cases h
          rw [qD_eq]
          exact RatT.pcr_pow hG (dQ_ok h1) _ (by omega) hk
        · cases h
      · split at h
        · cases h
        · rename_i h0
          split at h
          · rename_i hk
            cases h
            rw [qD_eq]
            exact RatT.pcr_powneg hG (dQ_ok h1) _ (by omega) hk (fun e => h0 (by rw [e]; rfl)) _ (by omega)
          · cases h
    · cases h
  · cases h
end Go.Proofs.YtapikjmijmebpaaGreatDoorK.EvT
