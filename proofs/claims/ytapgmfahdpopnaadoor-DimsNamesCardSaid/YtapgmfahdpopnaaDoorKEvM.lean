/-
  Closed calls, run: functions of Go's library by what they compute.
-/
import Derived.Test.YtapgmfahdpopnaaDoorKEv
import Derived.Test.YtapgmfahdpopnaaDoorKLb
set_option linter.all false
set_option linter.unusedVariables false
set_option linter.unusedSimpArgs false
set_option maxHeartbeats 4000000
namespace Go.Proofs.YtapgmfahdpopnaaDoorK.EvT
open Go.Proofs.YtapgmfahdpopnaaDoorK.AI Go.Proofs.YtapgmfahdpopnaaDoorK.LibT
variable {G : World → Prop}
def dgF : Nat → Nat → List UInt8 → List UInt8
  | 0, _, acc => acc
  | f + 1, n, acc => frcN n fun n => match Nat.ble 10 n with
    | false => UInt8.ofNat (48 + n) :: acc
    | true => dgF f (n / 10) (UInt8.ofNat (48 + n % 10) :: acc)
theorem dgF_eq : ∀ (f n : Nat) (acc : List UInt8), n < 2 ^ f → 0 < f → dgF f n acc = Lib.decDigits n ++ acc
  | 0, _, _, _, h => absurd h (Nat.lt_irrefl 0)
  | f + 1, n, acc, h, _ => by
    rw [dgF, frcN_eq]
    split
    · rename_i hb
      have hb : n < 10 := by
        rcases Nat.lt_or_ge n 10 with h | h
        · exact h
        · rw [Nat.ble_eq_true_of_le h] at hb; cases hb
      rw [Lib.decDigits, dif_pos hb]; rfl
    · rename_i hb
      have hb := Nat.le_of_ble_eq_true hb
      rw [Nat.pow_succ] at h
      have hf : 0 < f := by
        rcases Nat.eq_zero_or_pos f with h0 | h0
        · subst h0; simp at h; omega
        · exact h0
      rw [dgF_eq f _ _ (by omega) hf]
      conv => rhs; rw [Lib.decDigits, dif_neg (by omega), List.append_assoc]
      rfl
def dgE (n : Nat) : List UInt8 := dgF (Nat.log2 n + 1) n []
theorem dgE_eq (n : Nat) : dgE n = Lib.decDigits n := by rw [dgE, dgF_eq _ _ _ Nat.lt_log2_self (Nat.succ_pos _), List.append_nil]
def eItoa : List D → Option D
  | [.int .i64 n] => match n with
    | .ofNat m => match Nat.ble m 9223372036854775807 with
      | true => some (.str ⟨⟨dgE m⟩⟩)
      | false => none
    | .negSucc m => match Nat.ble m 9223372036854775807 with
      | true => some (.str ⟨⟨45 :: dgE (m + 1)⟩⟩)
      | false => none
  | _ => none
theorem eItoa_ok (hT : ∀ w, G w → Lib.TabIs Tryd.prog w "internal/strconv.uint64pow10" .u64 Lib.pow10Tab) (xs : List D) (r : D) (h : eItoa xs = some r) : PCr Tryd.prog G 12 xs r := by
  unfold eItoa at h
  split at h
  · rename_i n
    split at h
    · rename_i m
      split at h
      · rename_i hm
        have hm := Nat.le_of_ble_eq_true hm
        cases h
        have := lib_itoa hT (m : Int) (by omega) (by omega)
        rwa [show Lib.itoa (m : Int) = dgE m by rw [dgE_eq, Lib.itoa, if_neg (by omega)]; rfl] at this
      · cases h
    · rename_i m
      split at h
      · rename_i hm
        have hm := Nat.le_of_ble_eq_true hm
        cases h
        have := lib_itoa hT (Int.negSucc m) (by omega) (by omega)
        rwa [show Lib.itoa (Int.negSucc m) = 45 :: dgE (m + 1) by rw [dgE_eq, Lib.itoa, if_pos (by omega)]; rfl] at this
      · cases h
  · cases h
def toS : List D → Option (List ByteArray)
  | [] => some []
  | .str s :: l => match toS l with
    | some l => some (s :: l)
    | none => none
  | _ => none
theorem toS_ok : ∀ {cs : List D} {l : List ByteArray}, toS cs = some l → cs = l.map .str
  | [], l, h => by cases h; rfl
  | d :: cs, l, h => by
    unfold toS at h
    split at h
    · cases ‹_ = []›
    · rename_i s l' he
      cases he
      split at h
      · rename_i l2 hl
        cases h
        rw [toS_ok hl]; rfl
      · cases h
    · cases h
def joinE (sep : List UInt8) : List ByteArray → List UInt8
  | [] => []
  | s :: l => match l with
    | [] => s.data.toList
    | _ => s.data.toList ++ (sep ++ joinE sep l)
theorem joinE_eq (sep : List UInt8) : ∀ l : List ByteArray, joinE sep l = Lib.join (l.map (·.data.toList)) sep
  | [] => rfl
  | [s] => by simp [joinE, Lib.join_one]
  | s :: t :: l => by
    rw [joinE, joinE_eq sep (t :: l)]
    · rw [List.map_cons, List.map_cons, Lib.join_cons, Lib.join_cons]
      simp [Lib.joinTail]
    · intro h; cases h
def eJoin : List D → Option D
  | [.sl n cs, .str sep] => match toS cs with
    | some l => match Nat.beq n l.length, Nat.ble l.length 100000 with
      | true, true => frcL (joinE sep.data.toList l) fun t => match Nat.ble t.length 100000 with
        | true => some (.str ⟨⟨t⟩⟩)
        | false => none
      | _, _ => none
    | none => none
  | _ => none
theorem eJoin_ok (xs : List D) (r : D) (h : eJoin xs = some r) : PCr Tryd.prog G 13 xs r := by
  unfold eJoin at h
  split at h
  · rename_i n cs sep
    split at h
    · rename_i l hl
      split at h
      · rename_i h1 h2
        rw [frcL_eq] at h
        split at h
        · rename_i h3
          cases h
          have h1 := Nat.eq_of_beq_eq_true h1
          have h2 := Nat.le_of_ble_eq_true h2
          have h3 := Nat.le_of_ble_eq_true h3
          rw [joinE_eq] at h3 ⊢
          rw [toS_ok hl]
          exact lib_join l sep n h1 (by omega) (by omega)
        · cases h
      · cases h
    · cases h
  · cases h
def eCloneS : List D → Option D
  | [.sl n cs] => match toS cs with
    | some l => match Nat.beq n l.length, Nat.ble l.length 100000 with
      | true, true => some (.sl n cs)
      | _, _ => none
    | none => none
  | _ => none
theorem lib_cloneS (n : Nat) (l : List ByteArray) (hn : n = l.length) (hl : l.length ≤ 100000) : PCr Tryd.prog G 11 [.sl n (l.map .str)] (.sl n (l.map .str)) := by
  obtain ⟨i0, hi, hz0, hz1, hz2⟩ := info_parts (show (Tryd.prog.info? 9).map (fun i => (i.zero, i.size, i.bytes)) = some (some (.string ByteArray.empty), 1, 16) by kernel_rfl)
  exact lib_clone Tryd.laysCloneS rfl rfl i0 (.string ByteArray.empty) 1 16 hi hz0 hz1 hz2 rfl (by omega) (by kernel_rfl) n (l.map .str) (by simp [hn]) (fun d hd => by obtain ⟨x, _, rfl⟩ := List.mem_map.1 hd; rfl) (by simp [D.one]) (by omega)
theorem eCloneS_ok (xs : List D) (r : D) (h : eCloneS xs = some r) : PCr Tryd.prog G 11 xs r := by
  unfold eCloneS at h
  split at h
  · rename_i n cs
    split at h
    · rename_i l hl
      split at h
      · rename_i h1 h2
        cases h
        rw [toS_ok hl]
        exact lib_cloneS n l (Nat.eq_of_beq_eq_true h1) (Nat.le_of_ble_eq_true h2)
      · cases h
    · cases h
  · cases h
end Go.Proofs.YtapgmfahdpopnaaDoorK.EvT
