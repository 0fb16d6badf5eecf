/-
 Joined: EvM, EvL, EvQ, EvU, EvW, EvX.
-/
import Derived.Test.YtoiepmpggabglaaGreatDoorKEv
import Derived.Test.YtoiepmpggabglaaGreatDoorKLb
import Derived.Test.YtoiepmpggabglaaGreatDoorKNd
import Derived.Test.YtoiepmpggabglaaGreatDoorKRe
import Derived.Test.YtoiepmpggabglaaGreatDoorKQa
import Derived.Test.YtoiepmpggabglaaGreatDoorKIrX
import Derived.Test.YtoiepmpggabglaaGreatDoorKLibU
import Derived.Test.YtoiepmpggabglaaGreatDoorKAc
import Derived.Test.YtoiepmpggabglaaGreatDoorKRefQ
import Derived.Test.YtoiepmpggabglaaGreatDoorKDa
set_option linter.all false
set_option maxHeartbeats 4000000
/-
 Closed calls, run: functions of Go's library by what they compute.
-/
namespace Go.Proofs.YtoiepmpggabglaaGreatDoorK.EvT
open AI LibT
variable {G : World → Prop}
def dgF : Nat → Nat → List UInt8 → List UInt8
 | 0, _, acc => acc
 | f + 1, n, acc => frcN n fun n => match Nat.ble 10 n with
  | false => UInt8.ofNat (48 + n) :: acc
  | true => dgF f (n / 10) (UInt8.ofNat (48 + n % 10) :: acc)
theorem dgF_eq : ∀ (f n : Nat) (acc : List UInt8), n < 2 ^ f → 0 < f → dgF f n acc = Lib.decDigits n ++ acc
 | 0, _, _, _, h => absurd h (Nat.lt_irrefl 0)
 | f + 1, n, acc, h, _ => by
  rw [dgF, frcN_eq]
  split
  ·rename_i hb
   have hb : n < 10 := by
    rcases Nat.lt_or_ge n 10 with h | h
    ·exact h
    ·rw [Nat.ble_eq_true_of_le h] at hb; cases hb
   rw [Lib.decDigits, dif_pos hb]; rfl
  ·rename_i hb
   have hb := Nat.le_of_ble_eq_true hb
   rw [Nat.pow_succ] at h
   have hf : 0 < f := by
    rcases Nat.eq_zero_or_pos f with h0 | h0
    ·subst h0; simp at h; omega
    ·exact h0
   rw [dgF_eq f _ _ (by omega) hf]
   conv => rhs; rw [Lib.decDigits, dif_neg (by omega), List.append_assoc]
   rfl
def dgE (n : Nat) : List UInt8 := dgF (Nat.log2 n + 1) n []
theorem dgE_eq (n : Nat) : dgE n = Lib.decDigits n := by rw [dgE, dgF_eq _ _ _ Nat.lt_log2_self (Nat.succ_pos _), List.append_nil]
def eItoa : List D → Option D
 | [.int .i64 n] => match n with
  | .ofNat m => match Nat.ble m 9223372036854775807 with
   | true => some (.str ⟨⟨dgE m⟩⟩)
   | false => none
  | .negSucc m => match Nat.ble m 9223372036854775807 with
   | true => some (.str ⟨⟨45 :: dgE (m + 1)⟩⟩)
   | false => none
 | _ => none
theorem eItoa_ok (hT : ∀ w, G w → Lib.TabIs Tryz.prog w "internal/strconv.uint64pow10" .u64 Lib.pow10Tab) (xs : List D) (r : D) (h : eItoa xs = some r) : PCr Tryz.prog G 46 xs r := by
 unfold eItoa at h
 split at h
 ·rename_i n
  split at h
  ·rename_i m
   split at h
   ·rename_i hm
    have hm := Nat.le_of_ble_eq_true hm
    cases h
    have := lib_itoa hT (m : Int) (by omega) (by omega)
    rwa [show Lib.itoa (m : Int) = dgE m by rw [dgE_eq, Lib.itoa, if_neg (by omega)]; rfl] at this
   ·cases h
  ·rename_i m
   split at h
   ·rename_i hm
    have hm := Nat.le_of_ble_eq_true hm
    cases h
    have := lib_itoa hT (Int.negSucc m) (by omega) (by omega)
    rwa [show Lib.itoa (Int.negSucc m) = 45 :: dgE (m + 1) by rw [dgE_eq, Lib.itoa, if_pos (by omega)]; rfl] at this
   ·cases h
 ·cases h
end Go.Proofs.YtoiepmpggabglaaGreatDoorK.EvT
/-
 Closed calls, run: functions by what they compute, in a form that the kernel runs fast.
-/
namespace Go.Proofs.YtoiepmpggabglaaGreatDoorK.EvT
open AI NatIr Dig NatT RefT LibT
variable {G : World → Prop}
def wdF (B : Nat) : Nat → Nat → List Int
 | 0, _ => []
 | f + 1, n => match n with
  | 0 => []
  | m + 1 => (((m + 1) % B : Nat) : Int) :: wdF B f ((m + 1) / B)
theorem wdF_eq {B : Nat} (hB : 2 ≤ B) : ∀ (f n : Nat), n < 2 ^ f → wdF B f n = wd B n
 | 0, n, h => by
  obtain rfl : n = 0 := by simp at h; omega
  rw [wdF, wd_zero]
 | f + 1, 0, _ => by rw [wdF, wd_zero]
 | f + 1, m + 1, h => by
  rw [wdF, wd_pos hB (by omega), wdF_eq hB f _ ?_]
  have h1 : (m + 1) / B ≤ (m + 1) / 2 := Nat.div_le_div_left hB (by omega)
  rw [Nat.pow_succ] at h
  omega
def wdE (B n : Nat) : List Int := wdF B (Nat.log2 n + 1) n
theorem wdE_eq {B : Nat} (hB : 2 ≤ B) (n : Nat) : wdE B n = wd B n := wdF_eq hB _ _ Nat.lt_log2_self
def nD (X : Nat) : D := frcL (wdE 4294967296 X) fun l => .agg [.sl l.length (W l)]
theorem nD_eq (X : Nat) : nD X = N X := by rw [nD, frcL_eq, wdE_eq (by omega)]; rfl
def dcF : Nat → Nat → List UInt8 → List UInt8
 | 0, _, acc => acc
 | f + 1, n, acc => frcN n fun n => match Nat.ble 10 n with
  | false => UInt8.ofNat (48 + n) :: acc
  | true => dcF f (n / 10) (UInt8.ofNat (48 + n % 10) :: acc)
theorem dcF_eq : ∀ (f n : Nat) (acc : List UInt8), n < 2 ^ f → 0 < f → dcF f n acc = Lib.decDigits n ++ acc
 | 0, _, _, _, h => absurd h (Nat.lt_irrefl 0)
 | f + 1, n, acc, h, _ => by
  rw [dcF, frcN_eq]
  split
  ·rename_i hb
   have hb : ¬ 10 ≤ n := fun h => by rw [Nat.ble_eq_true_of_le h] at hb; cases hb
   rw [dec_small (by omega)]; rfl
  ·rename_i hb
   have hb := Nat.le_of_ble_eq_true hb
   rw [Nat.pow_succ] at h
   have hf : 0 < f := by
    rcases Nat.eq_zero_or_pos f with h0 | h0
    ·subst h0; simp at h; omega
    ·exact h0
   rw [dcF_eq f _ _ (by omega) hf, dec_big (u := n) (by omega), List.append_assoc]; rfl
def dcE (n : Nat) : List UInt8 := dcF (Nat.log2 n + 1) n []
theorem dcE_eq (n : Nat) : dcE n = Lib.decDigits n := by rw [dcE, dcF_eq _ _ _ Nat.lt_log2_self (Nat.succ_pos _), List.append_nil]
def toL (k : IntKind) (B : Int) : List D → Option (List Int)
 | [] => some []
 | .int k' x :: l => if k' = k ∧ 0 ≤ x ∧ x < B then match toL k B l with
  | some l => some (x :: l)
  | none => none else none
 | _ => none
theorem toL_ok {k : IntKind} {B : Nat} : ∀ {cs : List D} {l : List Int}, toL k B cs = some l → cs = l.map (.int k ·) ∧ ok B l
 | [], l, h => by cases h; exact ⟨rfl, ok_nil _⟩
 | d :: cs, l, h => by
  unfold toL at h
  split at h
  ·cases ‹_ = []›
  ·rename_i k' x l' he
   cases he
   split at h
   ·rename_i hc
    obtain ⟨rfl, h1, h2⟩ := hc
    split at h
    ·rename_i l2 hl
     cases h
     obtain ⟨rfl, h3⟩ := toL_ok hl
     refine ⟨rfl, fun y hy => ?_⟩
     rcases List.mem_cons.1 hy with rfl | hy
     ·exact ⟨h1, h2⟩
     ·exact h3 y hy
    ·cases h
   ·cases h
  ·cases h
def dN : D → Option Nat
 | .agg [.sl n cs] => match toL .u32 4294967296 cs with
  | some l => if n = l.length ∧ l.length ≤ 199 then some (vl 4294967296 l) else none
  | none => none
 | _ => none
theorem dN_ok {d : D} {X : Nat} (h : dN d = some X) : Nm 199 X d := by
 unfold dN at h
 split at h
 ·split at h
  ·rename_i l hl
   split at h
   ·rename_i hc
    cases h
    obtain ⟨rfl, hk⟩ := toL_ok (B := 4294967296) hl
    exact ⟨l, _, hc.1, hk, rfl, hc.2, rfl⟩
   ·cases h
  ·cases h
 ·cases h
def dM : D → Option Nat
 | .sl n cs => match toL .i64 10000 cs with
  | some l => if n = l.length ∧ l.length ≤ 800 then (if n = 0 ∨ l.getD (n - 1) 0 ≠ 0 then some (vl 10000 l) else none) else none
  | none => none
 | _ => none
/-! functions of numbers -/
def g1 (f : Nat → D) : List D → Option D
 | [d] => match dN d with
  | some X => some (f X)
  | none => none
 | _ => none
def g2 (f : Nat → Nat → D) : List D → Option D
 | [d, e] => match dN d, dN e with
  | some X, some Y => some (f X Y)
  | _, _ => none
 | _ => none
def h1 (f : Nat → D) : List D → Option D
 | [d] => match dM d with
  | some X => some (f X)
  | none => none
 | _ => none
def h2 (f : Nat → Nat → D) : List D → Option D
 | [d, e] => match dM d, dM e with
  | some X, some Y => some (f X Y)
  | _, _ => none
 | _ => none
variable {P : Program} {F : FuncId}
theorem g1_ok {f : Nat → D} (h : ∀ X d, Nm 199 X d → PCr P G F [d] (f X)) (xs : List D) (r : D) (hx : g1 f xs = some r) : PCr P G F xs r := by
 unfold g1 at hx
 split at hx
 ·split at hx
  ·rename_i X hX; cases hx; exact h X _ (dN_ok hX)
  ·cases hx
 ·cases hx
theorem g2_ok {f : Nat → Nat → D} (h : ∀ X Y d e, Nm 199 X d → Nm 199 Y e → PCr P G F [d, e] (f X Y)) (xs : List D) (r : D) (hx : g2 f xs = some r) : PCr P G F xs r := by
 unfold g2 at hx
 split at hx
 ·split at hx
  ·rename_i X Y hX hY; cases hx; exact h X Y _ _ (dN_ok hX) (dN_ok hY)
  ·cases hx
 ·cases hx
def eOf : List D → Option D
 | [.int .u64 n] => if 0 ≤ n ∧ n < 18446744073709551616 then some (nD n.toNat) else none
 | _ => none
def eCmp : List D → Option D := g2 fun X Y => .int .i64 (cmpN X Y)
def eAdd : List D → Option D := g2 fun X Y => nD (X + Y)
def eText : List D → Option D := g1 fun X => .str ⟨⟨dcE X⟩⟩
def eParse : List D → Option D
 | [.str s] => if s.size < 1000000 then (match s.size with
  | 0 => some (.tup [.agg [.sl 0 []], .bool false])
  | _ + 1 => match allD s with
   | true => some (.tup [nD (decV s.data.toList), .bool true])
   | false => some (.tup [.agg [.sl 0 []], .bool false])) else none
 | _ => none
theorem N_zero : N 0 = .agg [.sl 0 []] := by rw [N, wd_zero]; rfl
theorem eOf_ok (hG : Stable G) (xs : List D) (r : D) (h : eOf xs = some r) : PCr Tryz.prog G 43 xs r := by
 unfold eOf at h
 split at h
 ·rename_i n
  split at h
  ·rename_i hc
   cases h
   have := pcr_of hG n.toNat (by omega)
   rwa [Int.toNat_of_nonneg hc.1, ← nD_eq] at this
  ·cases h
 ·cases h
theorem eCmp_ok (hG : Stable G) : ∀ xs r, eCmp xs = some r → PCr Tryz.prog G 18 xs r := g2_ok fun X Y d e hx hy => pcr_cmpN hG hx hy (by omega) (by omega)
theorem eAdd_ok (hG : Stable G) : ∀ xs r, eAdd xs = some r → PCr Tryz.prog G 130 xs r := g2_ok fun X Y d e hx hy => by rw [nD_eq]; exact pcr_addN hG hx hy (by omega) (by omega)
theorem eText_ok (hG : Stable G) (hT : ∀ w, G w → Lib.TabIs Tryz.prog w "internal/strconv.uint64pow10" .u64 Lib.pow10Tab) : ∀ xs r, eText xs = some r → PCr Tryz.prog G 21 xs r := g1_ok fun X d hx => by
 rw [dcE_eq]; exact pcr_textN hG hT hx (by omega)
theorem eParse_ok (hG : Stable G) (xs : List D) (r : D) (h : eParse xs = some r) : PCr Tryz.prog G 74 xs r := by
 unfold eParse at h
 split at h
 ·rename_i s
  split at h
  ·rename_i hs
   split at h
   ·rename_i h0
    cases h
    rw [← N_zero]
    exact pcr_parse_not hG s hs (.inl h0)
   ·rename_i k h0
    split at h
    ·rename_i hd
     cases h
     rw [nD_eq]
     exact pcr_parse hG s hs (by omega) hd
    ·rename_i hd
     cases h
     rw [← N_zero]
     exact pcr_parse_not hG s hs (.inr hd)
  ·cases h
 ·cases h
/-! the document's numbers -/
/-! the library's texts -/
def preB : List UInt8 → List UInt8 → Bool
 | [], _ => true
 | _ :: _, [] => false
 | x :: p, y :: l => Nat.beq x.toNat y.toNat && preB p l
theorem preB_eq : ∀ (p l : List UInt8), preB p l = p.isPrefixOf l
 | [], _ => by simp [preB]
 | _ :: _, [] => rfl
 | x :: p, y :: l => by
  rw [preB, List.isPrefixOf, preB_eq p l]
  congr 1
  rw [Bool.eq_iff_iff, Nat.beq_eq, beq_iff_eq]
  exact ⟨fun h => UInt8.toNat_inj.1 h, fun h => by rw [h]⟩
def eCutP : List D → Option D
 | [.str s, .str p] => match preB p.data.toList s.data.toList with
  | true => frcL (s.data.toList.drop p.data.toList.length) fun l => some (.tup [.str ⟨⟨l⟩⟩, .bool true])
  | false => some (.tup [.str s, .bool false])
 | _ => none
theorem eCutP_ok (xs : List D) (r : D) (h : eCutP xs = some r) : PCr Tryz.prog G 93 xs r := by
 unfold eCutP at h
 split at h
 ·rename_i s p
  have h1 := lib_cutprefix (G := G) s p
  unfold Lib.trimPrefix Lib.hasPrefix at h1
  rw [← preB_eq] at h1
  split at h
  ·rename_i hp
   rw [frcL_eq] at h
   cases h
   rw [hp] at h1
   exact h1
  ·rename_i hp
   cases h
   rw [hp] at h1
   exact h1
 ·cases h
def frcP {α : Type} (p : List UInt8 × List UInt8 × Bool) (k : List UInt8 → List UInt8 → Bool → α) : α := frcL p.1 fun u => frcL p.2.1 fun v => frcB p.2.2 fun b => k u v b
def eCut : List D → Option D
 | [.str s, .str p] => match p.data.toList with
  | [c] => match Nat.ble s.size 100000 with
   | true => frcP (cut1 c s.data.toList) fun u v b => some (.tup [.str ⟨⟨u⟩⟩, .str ⟨⟨v⟩⟩, .bool b])
   | false => none
  | _ => none
 | _ => none
theorem eCut_ok (hM : ∀ w, G w → gMax w) (xs : List D) (r : D) (h : eCut xs = some r) : PCr Tryz.prog G 131 xs r := by
 unfold eCut at h
 split at h
 ·rename_i s p
  split at h
  ·rename_i c hc
   split at h
   ·rename_i hs
    have h1 := lib_cut hM s p (by have := Nat.le_of_ble_eq_true hs; omega)
    rw [hc, cut_cut1] at h1
    simp only [frcP, frcL_eq, frcB_eq] at h
    cases h
    exact h1
   ·cases h
  ·cases h
 ·cases h
end Go.Proofs.YtoiepmpggabglaaGreatDoorK.EvT
/-
 Closed calls, run: fractions by what they compute.
-/
namespace Go.Proofs.YtoiepmpggabglaaGreatDoorK.EvT
open AI NatIr Dig NatT NumT RatT
variable {G : World → Prop}
def dQ : D → Option (Bool × Nat × Nat)
 | .agg [.bool b, e1, e2] => match dN (.agg [e1]), dN (.agg [e2]) with
  | some X, some Y => some (b, X, Y)
  | _, _ => none
 | _ => none
theorem dQ_ok {d : D} {b : Bool} {X Y : Nat} (h : dQ d = some (b, X, Y)) : Qm 199 (mkRat (sg b X) Y) d := by
 unfold dQ at h
 split at h
 ·split at h
  ·rename_i h1 h2
   cases h
   exact ⟨_, _, _, _, _, by omega, dN_ok h1, dN_ok h2, rfl, rfl⟩
  ·cases h
 ·cases h
def zD (z : Int) : D := frcI z fun z => match nD z.natAbs with
 | .agg [e] => .agg [.bool (match z with | .ofNat _ => false | .negSucc _ => true), e]
 | _ => .un
theorem zD_eq (z : Int) : zD z = ZD z := by
 rw [zD, frcI_eq, nD_eq]
 cases z with
 | ofNat n => rw [ZD, show ng (Int.ofNat n) = false from decide_eq_false (Int.not_lt.2 (Int.natCast_nonneg n))]; rfl
 | negSucc n => rw [ZD, show ng (Int.negSucc n) = true from decide_eq_true (Int.negSucc_lt_zero n)]; rfl
def qD (r : Rat) : D := match r with
 | ⟨z, q, _, _⟩ => match zD z, nD q with
  | .agg [b, e], .agg [e2] => .agg [b, e, e2]
  | _, _ => .un
theorem qD_eq (r : Rat) : qD r = QD r := by
 obtain ⟨z, q, h1, h2⟩ := r
 simp only [qD, zD_eq, nD_eq]
 rfl
def q1 (f : Rat → Option D) : List D → Option D
 | [d] => match dQ d with
  | some (b, X, Y) => f (mkRat (sg b X) Y)
  | none => none
 | _ => none
def q2 (f : Rat → Rat → D) : List D → Option D
 | [d, e] => match dQ d, dQ e with
  | some (b, X, Y), some (c, U, V) => some (f (mkRat (sg b X) Y) (mkRat (sg c U) V))
  | _, _ => none
 | _ => none
variable {P : Program} {F : FuncId}
theorem q1_ok {f : Rat → Option D} (h : ∀ x d r, Qm 199 x d → f x = some r → PCr P G F [d] r) (xs : List D) (r : D) (hx : q1 f xs = some r) : PCr P G F xs r := by
 unfold q1 at hx
 split at hx
 ·split at hx
  ·rename_i h1; exact h _ _ _ (dQ_ok h1) hx
  ·cases hx
 ·cases hx
theorem q2_ok {f : Rat → Rat → D} (h : ∀ x y d e, Qm 199 x d → Qm 199 y e → PCr P G F [d, e] (f x y)) (xs : List D) (r : D) (hx : q2 f xs = some r) : PCr P G F xs r := by
 unfold q2 at hx
 split at hx
 ·split at hx
  ·rename_i h1 h2; cases hx; exact h _ _ _ _ (dQ_ok h1) (dQ_ok h2)
  ·cases hx
 ·cases hx
def eQMul : List D → Option D := q2 fun x y => qD (x * y)
def eQSign : List D → Option D := q1 fun x => some (frcI x.num.sign fun z => .int .i64 z)
def eQOf : List D → Option D
 | [.agg [.bool b, d], .agg [e]] => match dN (.agg [d]), dN (.agg [e]) with
  | some X, some (Y + 1) => some (.tup [qD (mkRat (sg b X) (Y + 1)), .bool true])
  | some _, some 0 => some (.tup [qD 0, .bool false])
  | _, _ => none
 | _ => none
def eQInt : List D → Option D
 | [.int .i64 n] => if -9223372036854775808 ≤ n ∧ n ≤ 9223372036854775807 then some (qD (n : Rat)) else none
 | _ => none
def eQPow : List D → Option D
 | [d, .int .i64 k] => match dQ d with
  | some (b, X, Y) => match k with
   | .ofNat K => if K < 1000 then some (.tup [qD ((mkRat (sg b X) Y) ^ K), .bool true]) else none
   | .negSucc K => match (mkRat (sg b X) Y).num with
    | .ofNat 0 => none
    | _ => if K < 100 then some (.tup [qD ((mkRat (sg b X) Y)⁻¹ ^ (K + 1)), .bool true]) else none
  | none => none
 | _ => none
theorem eQMul_ok (hG : Stable G) : ∀ xs r, eQMul xs = some r → PCr Tryz.prog G 69 xs r := q2_ok fun x y d e hx hy => by rw [qD_eq]; exact RatT.pcr_mul hG hx hy (by omega) (by omega)
theorem eQSign_ok (hG : Stable G) : ∀ xs r, eQSign xs = some r → PCr Tryz.prog G 63 xs r := q1_ok fun x d r hx h => by cases h; rw [frcI_eq]; exact RatT.pcr_sign hG hx (by omega)
theorem eQOf_ok (hG : Stable G) (xs : List D) (r : D) (h : eQOf xs = some r) : PCr Tryz.prog G 40 xs r := by
 unfold eQOf at h
 split at h
 ·split at h
  ·rename_i h1 h2
   cases h
   rw [qD_eq]
   exact RatT.pcr_of hG (dN_ok h1) (dN_ok h2) (by omega) (by omega) (by omega)
  ·rename_i h1 h2
   cases h
   rw [qD_eq]
   exact RatT.pcr_of0 hG (dN_ok h1) (dN_ok h2) (by omega) (by omega)
  ·cases h
 ·cases h
theorem eQInt_ok (hG : Stable G) (xs : List D) (r : D) (h : eQInt xs = some r) : PCr Tryz.prog G 57 xs r := by
 unfold eQInt at h
 split at h
 ·split at h
  ·rename_i hc
   cases h
   rw [qD_eq]
   exact RatT.pcr_int hG _ hc.1 hc.2
  ·cases h
 ·cases h
theorem eQPow_ok (hG : Stable G) (xs : List D) (r : D) (h : eQPow xs = some r) : PCr Tryz.prog G 61 xs r := by
 unfold eQPow at h
 split at h
 ·split at h
  ·rename_i h1
   split at h
   ·split at h
    ·rename_i hk
     cases h
     rw [qD_eq]
     exact RatT.pcr_pow hG (dQ_ok h1) _ (by omega) hk
    ·cases h
   ·split at h
    ·cases h
    ·rename_i h0
     split at h
     ·rename_i hk
      cases h
      rw [qD_eq]
      exact RatT.pcr_powneg hG (dQ_ok h1) _ (by omega) hk (fun e => h0 (by rw [e]; rfl)) _ (by omega)
     ·cases h
  ·cases h
 ·cases h
end Go.Proofs.YtoiepmpggabglaaGreatDoorK.EvT
/-
 Closed calls, run: more of Go's library.
-/
namespace Go.Proofs.YtoiepmpggabglaaGreatDoorK.EvT
open AI NatIr LibT Dig
attribute [local irreducible] awp awpOps
variable {G : World → Prop}
/-! trimming -/
def memB (b : UInt8) : List UInt8 → Bool
 | [] => false
 | x :: l => match Nat.beq b.toNat x.toNat with
  | true => true
  | false => memB b l
theorem memB_eq (b : UInt8) : ∀ l : List UInt8, memB b l = l.contains b
 | [] => rfl
 | x :: l => by
  rw [memB, memB_eq b l, List.contains_cons]
  cases h : Nat.beq b.toNat x.toNat with
  | true =>
   have := UInt8.toNat_inj.1 (Nat.eq_of_beq_eq_true h)
   simp [this]
  | false =>
   have : ¬ b = x := fun e => by rw [e] at h; exact absurd rfl (Nat.ne_of_beq_eq_false h)
   simp [this]
def dropB (cs : List UInt8) : List UInt8 → List UInt8
 | [] => []
 | b :: l => match memB b cs with
  | true => dropB cs l
  | false => b :: l
theorem dropB_eq (cs : List UInt8) : ∀ l, dropB cs l = l.dropWhile (cs.contains ·)
 | [] => rfl
 | b :: l => by
  rw [dropB, List.dropWhile_cons, memB_eq, dropB_eq cs l]
  cases cs.contains b <;> rfl
def revB : List UInt8 → List UInt8 → List UInt8
 | [], acc => acc
 | b :: l, acc => revB l (b :: acc)
theorem revB_eq : ∀ l acc, revB l acc = l.reverse ++ acc
 | [], acc => rfl
 | b :: l, acc => by rw [revB, revB_eq l]; simp
def trimE (l cs : List UInt8) : List UInt8 := dropB cs (revB (dropB cs (revB l [])) [])
theorem trimE_eq (l cs : List UInt8) : trimE l cs = Lib.trimS l cs := by
 simp only [trimE, dropB_eq, revB_eq, List.append_nil, Lib.trimS, Lib.trimLeftS, Lib.trimRightS]
def eTrim : List D → Option D
 | [.str s, .str c] => match Nat.ble s.size 100000, Nat.ble c.size 1000, c.data.toList.all fun b => Nat.blt b.toNat 128 with
  | true, true, true => frcL (trimE s.data.toList c.data.toList) fun l => some (.str ⟨⟨l⟩⟩)
  | _, _, _ => none
 | _ => none
theorem eTrim_ok (xs : List D) (r : D) (h : eTrim xs = some r) : PCr Tryz.prog G 71 xs r := by
 unfold eTrim at h
 split at h
 ·rename_i s c
  split at h
  ·rename_i h1 h2 h3
   rw [frcL_eq] at h
   cases h
   rw [trimE_eq]
   have h1 := Nat.le_of_ble_eq_true h1
   have h2 := Nat.le_of_ble_eq_true h2
   refine lib_trim s c (by omega) (by omega) ?_
   rw [← h3]
   congr 1
   funext b
   rw [Bool.eq_iff_iff, decide_eq_true_iff]
   exact ⟨fun h => by unfold Nat.blt; exact Nat.ble_eq_true_of_le h, blt_ok⟩
  ·cases h
 ·cases h
/-! parting -/
def eSplit : List D → Option D
 | [.str s, .str p] => match p.data.toList with
  | [c] => match Nat.ble s.size 100000 with
   | true => frcL (spl c s.data.toList) fun ps => frcLD ((baL ps).map .str) fun l => some (.sl ps.length l)
   | false => none
  | _ => none
 | _ => none
theorem eSplit_ok (hM : ∀ w, G w → gMax w) (xs : List D) (r : D) (h : eSplit xs = some r) : PCr Tryz.prog G 22 xs r := by
 unfold eSplit at h
 split at h
 ·rename_i s p
  split at h
  ·rename_i c hc
   split at h
   ·rename_i hs
    have hs := Nat.le_of_ble_eq_true hs
    simp only [frcL_eq, frcLD_eq] at h
    cases h
    obtain ⟨⟨p⟩⟩ := p
    have hc : p = [c] := hc
    subst hc
    exact lib_split hM s c (by omega)
   ·cases h
  ·cases h
 ·cases h
/-! looking for a byte -/
/-! a table's odd bytes -/
def oddN (x : Nat) : Bool := match Nat.blt x 32 with
 | true => true
 | false => Nat.blt 126 x
theorem pcr_odd (hG : Stable G) (x : Nat) (hx : x ≤ 1114111) : PCr Tryz.prog G 25 [.int .i32 x] (.bool (oddN x)) := by
 by_cases h1 : x < 32
 ·rw [show oddN x = true by unfold oddN; rw [show Nat.blt x 32 = true from Nat.ble_eq_true_of_le h1]]
  refine pcr_byq ok25 hG (n := 9) (rv := [.tmp 2]) fun r hr => ?_; unfold c25 st0
  (exact xwalkd)
 ·have h1' : Nat.blt x 32 = false := by
   cases h : Nat.blt x 32 with
   | false => rfl
   | true => exact absurd (blt_ok h) h1
  by_cases h2 : 126 < x
  ·rw [show oddN x = true by unfold oddN; rw [h1']; exact Nat.ble_eq_true_of_le h2]
   refine pcr_byq ok25 hG (n := 9) (rv := [.tmp 2]) fun r hr => ?_; unfold c25 st0
   (exact xwalkd)
  ·have h2' : Nat.blt 126 x = false := by
    cases h : Nat.blt 126 x with
    | false => rfl
    | true => exact absurd (blt_ok h) h2
   rw [show oddN x = false by unfold oddN; rw [h1']; exact h2']
   refine pcr_byq ok25 hG (n := 9) (rv := [.tmp 2]) fun r hr => ?_; unfold c25 st0
   (exact xwalkd)
def eContainsF : List D → Option D
 | [.str s, .fn g []] => match Nat.beq g 25, s.data.toList.all fun b => Nat.blt b.toNat 128 with
  | true, true => some (.bool (s.data.toList.any fun b => oddN b.toNat))
  | _, _ => none
 | _ => none
theorem eContainsF_ok (hG : Stable G) (xs : List D) (r : D) (h : eContainsF xs = some r) : PCr Tryz.prog G 24 xs r := by
 unfold eContainsF at h
 split at h
 ·rename_i s g
  split at h
  ·rename_i h1 h2
   cases h
   have h1 := Nat.eq_of_beq_eq_true h1
   subst h1
   refine lib_containsf hG (by kernel_rfl) (fun x hx => pcr_odd hG x hx) s fun i b hb => ?_
   exact blt_ok (List.all_eq_true.1 h2 b (List.mem_of_getElem? hb))
  ·cases h
 ·cases h
end Go.Proofs.YtoiepmpggabglaaGreatDoorK.EvT
/-
 Closed calls, run: the document's division and fractions by what they compute.
-/
namespace Go.Proofs.YtoiepmpggabglaaGreatDoorK.EvT
open AI NatIr Dig NatT RefT NumT RatT
variable {G : World → Prop}
/-! numbers -/
/-! fractions -/
set_option exponentiation.threshold 100000
def dR : D → Option (Bool × Nat × Nat)
 | .agg [.bool b, d, e] => match dM d, dM e with
  | some X, some Y => match Nat.beq (Nat.gcd X Y) 1, Nat.beq Y 0, b, Nat.beq X 0 with
   | true, false, true, false => some (true, X, Y)
   | true, false, false, _ => some (false, X, Y)
   | _, _, _, _ => none
  | _, _ => none
 | _ => none
def r1 (f : Rat → Option D) : List D → Option D
 | [d] => match dR d with
  | some (b, X, Y) => f (mkRat (sg b X) Y)
  | none => none
 | _ => none
def r2 (f : Rat → Rat → D) : List D → Option D
 | [d, e] => match dR d, dR e with
  | some (b, X, Y), some (c, U, V) => some (f (mkRat (sg b X) Y) (mkRat (sg c U) V))
  | _, _ => none
 | _ => none
variable {P : Program} {F : FuncId}
end Go.Proofs.YtoiepmpggabglaaGreatDoorK.EvT
/-
 Closed calls, run: calls that were run before, remembered by their arguments.
-/
namespace Go.Proofs.YtoiepmpggabglaaGreatDoorK.EvT
open AI
variable {G : World → Prop}
/-! exponents -/
def toI : List D → Option (List Int)
 | [] => some []
 | .int .i64 n :: l => match toI l with
  | some l => some (n :: l)
  | none => none
 | _ => none
theorem toI_ok : ∀ {cs : List D} {l : List Int}, toI cs = some l → cs = DimsT.I l
 | [], l, h => by cases h; rfl
 | d :: cs, l, h => by
  unfold toI at h
  split at h
  ·cases ‹_ = []›
  ·rename_i n l' he
   cases he
   split at h
   ·rename_i l2 hl
    cases h
    rw [toI_ok hl]; rfl
   ·cases h
  ·cases h
def eGood : List D → Option D
 | [.agg cs] => match toI cs with
  | some l => match Nat.beq l.length 8 with
   | true => some (frcB (DimsT.goodD l) fun b => .bool b)
   | false => none
  | none => none
 | _ => none
theorem eGood_ok (hG : Stable G) (xs : List D) (r : D) (h : eGood xs = some r) : PCr Tryz.prog G 132 xs r := by
 unfold eGood at h
 split at h
 ·split at h
  ·rename_i l hl
   split at h
   ·rename_i h8
    cases h
    rw [toI_ok hl, frcB_eq]
    exact DimsT.pcr_good hG (Nat.eq_of_beq_eq_true h8)
   ·cases h
  ·cases h
 ·cases h
def sb (l : List Nat) : D := .str ⟨⟨l.map UInt8.ofNat⟩⟩
end Go.Proofs.YtoiepmpggabglaaGreatDoorK.EvT
