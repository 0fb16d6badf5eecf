/-
  Rows of eight whole numbers: what a walk needs to know of them, and plain laws of sums and products.
-/
import Derived.Test.YtapgmfahdpopnaaDoorKDimsR
set_option linter.all false
set_option linter.unusedVariables false
set_option linter.unusedSimpArgs false
set_option maxHeartbeats 4000000
namespace Go.Proofs.YtapgmfahdpopnaaDoorK.DimsT
open Go.Proofs.YtapgmfahdpopnaaDoorK.AI Go.Proofs.YtapgmfahdpopnaaDoorK.NatIr
theorem I_take8 {l : List Int} (h : l.length = 8) : (I l).take 8 = I l := List.take_of_length_le (by rw [I_len]; omega)
theorem I_put8 {l : List Int} (h : l.length = 8) : putD [.int .i64 0, .int .i64 0, .int .i64 0, .int .i64 0, .int .i64 0, .int .i64 0, .int .i64 0, .int .i64 0] 0 (I l) = I l := putD_I (by rw [h]; rfl)
theorem IEq {a b : List Int} (h : a.length = b.length) : eqInts (I a) (I b) = some (decide (a = b)) := eqInts_I h
theorem IEqz {a : List Int} (h : a.length = 8) : eqInts (I a) [.int .i64 0, .int .i64 0, .int .i64 0, .int .i64 0, .int .i64 0, .int .i64 0, .int .i64 0, .int .i64 0] = some (decide (a = z8)) := eqInts_I (b := z8) (by rw [h]; rfl)
theorem ite_len {p : Bool} {x : List Int} (hx : x.length = 8) : ∃ y, (if p = true then x else z8) = y ∧ y.length = 8 := ⟨_, rfl, by
  split
  · exact hx
  · rfl⟩
theorem addD_len {a b : List Int} : (addD a b).length = a.length := by simp [addD]
theorem mulD_len {a : List Int} {k : Int} : (mulD a k).length = a.length := by simp [mulD]
theorem addD_get {a b : List Int} {i : Nat} (h : i < a.length) : (addD a b).getD i 0 = a.getD i 0 + b.getD i 0 := by simp [addD, List.getD_eq_getElem?_getD, h]
theorem mulD_get {a : List Int} {k : Int} {i : Nat} (h : i < a.length) : (mulD a k).getD i 0 = a.getD i 0 * k := by simp [mulD, List.getD_eq_getElem?_getD, h]
theorem ext8 {a b : List Int} (h : a.length = b.length) (hi : ∀ i, i < a.length → a.getD i 0 = b.getD i 0) : a = b := by
  refine List.ext_getElem h fun i h1 h2 => ?_
  have := hi i h1
  simpa [List.getD_eq_getElem?_getD, h1, h2] using this
theorem addD_comm {a b : List Int} (h : a.length = b.length) : addD a b = addD b a := by
  refine ext8 (by rw [addD_len, addD_len, h]) fun i hi => ?_
  rw [addD_len] at hi
  rw [addD_get hi, addD_get (by omega)]
  omega
theorem mulD_two {a : List Int} : mulD a 2 = addD a a := by
  refine ext8 (by rw [mulD_len, addD_len]) fun i hi => ?_
  rw [mulD_len] at hi
  rw [mulD_get hi, addD_get hi]
  omega
theorem goodD_of {l : List Int} (h : ∀ i, i < l.length → -100 ≤ l.getD i 0 ∧ l.getD i 0 ≤ 100) : goodD l = true := by
  refine List.all_eq_true.2 fun x hx => ?_
  obtain ⟨i, hi, rfl⟩ := List.mem_iff_getElem.1 hx
  have := h i hi
  rw [inD_iff]
  simpa [List.getD_eq_getElem?_getD, hi] using this
theorem neg_ok {a : List Int} (h : goodD a = true) : (goodD a && a.all (okn (-1))) = true := by
  rw [h, Bool.true_and]
  refine List.all_eq_true.2 fun x hx => ?_
  have := inD_iff.1 (List.all_eq_true.1 h x hx)
  unfold okn
  simp only [Bool.or_eq_true, Bool.and_eq_true, decide_eq_true_eq, inD_iff]
  omega
theorem neg_good {a : List Int} (h : goodD a = true) : goodD (mulD a (-1)) = true := goodD_of fun i hi => by
  rw [mulD_len] at hi
  have := goodD_get (i := i) h
  rw [mulD_get hi]
  omega
theorem neg_neg {a : List Int} : mulD (mulD a (-1)) (-1) = a := by
  refine ext8 (by rw [mulD_len, mulD_len]) fun i hi => ?_
  rw [mulD_len, mulD_len] at hi
  rw [mulD_get (by rw [mulD_len]; exact hi), mulD_get hi]
  omega
theorem add_back {a b : List Int} (h : a.length = b.length) : addD (addD a b) (mulD b (-1)) = a := by
  refine ext8 (by rw [addD_len, addD_len]) fun i hi => ?_
  rw [addD_len, addD_len] at hi
  rw [addD_get (by rw [addD_len]; exact hi), addD_get hi, mulD_get (by omega)]
  omega
theorem two_ok {a : List Int} : (goodD a && a.all (okn 2)) = (goodD a && goodD a && goodD (addD a a)) := by
  cases h : goodD a with
  | false => rfl
  | true =>
    rw [Bool.true_and, Bool.true_and, Bool.true_and, Bool.eq_iff_iff]
    constructor
    · intro hx
      refine goodD_of fun i hi => ?_
      rw [addD_len] at hi
      rw [addD_get hi]
      have h1 : okn 2 (a.getD i 0) = true := by
        have : a.getD i 0 = a[i] := by simp [List.getD_eq_getElem?_getD, hi]
        rw [this]
        exact List.all_eq_true.1 hx _ (List.getElem_mem hi)
      unfold okn at h1
      simp only [Bool.or_eq_true, Bool.and_eq_true, decide_eq_true_eq, inD_iff] at h1
      omega
    · intro hx
      refine List.all_eq_true.2 fun x hm => ?_
      obtain ⟨i, hi, rfl⟩ := List.mem_iff_getElem.1 hm
      have h1 := goodD_get (i := i) hx
      rw [addD_get hi] at h1
      have h2 : a.getD i 0 = a[i] := by simp [List.getD_eq_getElem?_getD, hi]
      rw [h2] at h1
      unfold okn
      simp only [Bool.or_eq_true, Bool.and_eq_true, decide_eq_true_eq, inD_iff]
      omega
end Go.Proofs.YtapgmfahdpopnaaDoorK.DimsT
