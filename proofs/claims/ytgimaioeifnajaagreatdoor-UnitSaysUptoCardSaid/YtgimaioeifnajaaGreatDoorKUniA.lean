/-
  Package word: what its functions compute.
-/
import Derived.Test.YtgimaioeifnajaaGreatDoorKIrX
import Derived.Test.YtgimaioeifnajaaGreatDoorKUniP
import Derived.Test.YtgimaioeifnajaaGreatDoorKUniF
import Derived.Test.YtgimaioeifnajaaGreatDoorKLibU
set_option linter.all false
set_option maxHeartbeats 0
namespace Go.Proofs.YtgimaioeifnajaaGreatDoorK.TabT
open AI NatIr Dig NatT LibT Go.Lib
attribute [local irreducible] awp awpOps
attribute [local go_sem] not_true_eq_false not_false_eq_true eq_self decide_true decide_false beq_self_eq_true Int.reduceAdd
variable {G : World → Prop}
def abc : Wd := ⟨#[97, 98, 99, 100, 101, 102, 103, 104, 105, 106, 107, 108, 109, 110, 111, 112, 113, 114, 115, 116, 117, 118, 119, 120, 121, 122, 48, 49, 50, 51, 52, 53, 54, 55, 56, 57]⟩
theorem trim_set (cs l : List UInt8) : decide ((⟨(trimS l cs).toArray⟩ : ByteArray) = (⟨#[]⟩ : ByteArray)) = l.all (cs.contains ·) := by
  have e1 : ((⟨(trimS l cs).toArray⟩ : ByteArray) = (⟨#[]⟩ : ByteArray)) ↔ trimS l cs = [] := ⟨fun h => by
    have := congrArg (fun b : ByteArray => b.data.toList) h
    simpa using this, fun h => by rw [h]⟩
  rw [Bool.eq_iff_iff, decide_eq_true_iff, e1, List.all_eq_true]
  constructor
  · intro h
    refine Classical.byContradiction fun hn => ?_
    have h0 : ∃ c ∈ l, cs.contains c = false := by
      refine Classical.byContradiction fun h1 => hn fun c hc => ?_
      cases hb : cs.contains c with
      | true => rfl
      | false => exact absurd ⟨c, hc, hb⟩ h1
    obtain ⟨c, hc, hp⟩ := h0
    obtain ⟨x, hx, hp1⟩ := dropWhile_some (cs.contains ·) l.reverse ⟨c, List.mem_reverse.2 hc, hp⟩
    have hr : x ∈ trimRightS l cs := List.mem_reverse.2 hx
    obtain ⟨y, hy, _⟩ := dropWhile_some (cs.contains ·) (trimRightS l cs) ⟨x, hr, hp1⟩
    rw [trimS, trimLeftS] at h
    rw [h] at hy
    cases hy
  · intro h
    have h1 : trimRightS l cs = [] := by
      rw [trimRightS, dropWhile_all _ _ (fun x hx => h x (List.mem_reverse.1 hx))]; rfl
    rw [trimS, h1]; rfl
theorem abc_wc (c : UInt8) : abc.data.toList.contains c = wc c := by
  have : ∀ k : Fin 256, abc.data.toList.contains (UInt8.ofNat k.val) = wc (UInt8.ofNat k.val) := by decide +kernel
  have h := this ⟨c.toNat, c.toNat_lt⟩
  simpa using h
theorem trim_abc (l : List UInt8) : decide ((⟨(trimS l abc.data.toList).toArray⟩ : ByteArray) = (⟨#[]⟩ : ByteArray)) = l.all wc := by
  rw [trim_set]
  exact congrArg l.all (funext abc_wc)
theorem trim_dig (l : List UInt8) : decide ((⟨(trimS l tenD).toArray⟩ : ByteArray) = (⟨#[]⟩ : ByteArray)) = l.all isD := by
  rw [trim_set]
  exact congrArg l.all (funext tenD_isD)
theorem wempty {s : Wd} : decide (s = (⟨#[]⟩ : ByteArray)) = decide (s.size = 0) := decide_eq_decide.2 ⟨fun h => by rw [h]; rfl, ba_nil⟩
theorem pcr_wgood (hG : Stable G) (s : Wd) (hs : s.size < 1000000) : PCr Tryz.prog G 47 [.str s] (.bool (goodW s)) := by
  have htr := lib_trim (G := G) s abc (by omega) (by decide) (by decide)
  have het := trim_abc s.data.toList
  have hem := wempty (s := s)
  unfold goodW
  generalize (⟨(trimS s.data.toList abc.data.toList).toArray⟩ : ByteArray) = tr at *
  rw [← het]
  unfold abc at htr
  by_cases h0 : s.size = 0
  · rw [decide_eq_true h0] at hem
    rw [show decide (s.size ≠ 0) = false from decide_eq_false (fun h => h h0), Bool.false_and, Bool.false_and]
    refine pcr_byq ok47 hG (n := 15) (rv := [.tmp 2]) fun r hr => ?_; unfold c47 st0
    (have we1 := hem; exact xwalkd1)
  · rw [decide_eq_false h0] at hem
    rw [show decide (s.size ≠ 0) = true from decide_eq_true h0, Bool.true_and]
    by_cases h20 : s.size ≤ 20
    · rw [decide_eq_true h20, Bool.true_and]
      have h20' : decide ((s.size : Int) ≤ 20) = true := decide_eq_true (by omega)
      refine pcr_byq ok47 hG (n := 15) (rv := [.tmp 2]) fun r hr => ?_; unfold c47 st0
      (have we1 := hem; have we2 := h20'; exact xwalkd2)
    · rw [decide_eq_false h20, Bool.false_and]
      have h20' : decide ((s.size : Int) ≤ 20) = false := decide_eq_false (by omega)
      refine pcr_byq ok47 hG (n := 15) (rv := [.tmp 2]) fun r hr => ?_; unfold c47 st0
      (have we1 := hem; have we2 := h20'; exact xwalkd2)
theorem pcr_wnumber (hG : Stable G) (s : Wd) (hs : s.size < 1000000) : PCr Tryz.prog G 49 [.str s] (.bool (numW s)) := by
  have htr := lib_trim (G := G) s ⟨#[48, 49, 50, 51, 52, 53, 54, 55, 56, 57]⟩ (by omega) (by decide) (by decide)
  rw [show (⟨#[48, 49, 50, 51, 52, 53, 54, 55, 56, 57]⟩ : ByteArray).data.toList = tenD from rfl] at htr
  have het := trim_dig s.data.toList
  have hem := wempty (s := s)
  unfold numW allD
  generalize (⟨(trimS s.data.toList tenD).toArray⟩ : ByteArray) = tr at *
  rw [← het]
  by_cases h0 : s.size = 0
  · rw [decide_eq_true h0] at hem
    rw [show decide (s.size ≠ 0) = false from decide_eq_false (fun h => h h0), Bool.false_and, Bool.false_and, Bool.false_and]
    refine pcr_byq ok49 hG (n := 20) (rv := [.tmp 2]) fun r hr => ?_; unfold c49 st0
    (have we1 := hem; exact xwalkd1)
  · rw [decide_eq_false h0] at hem
    rw [show decide (s.size ≠ 0) = true from decide_eq_true h0, Bool.true_and]
    by_cases h20 : s.size ≤ 20
    · rw [decide_eq_true h20, Bool.true_and]
      have h20' : decide ((s.size : Int) ≤ 20) = true := decide_eq_true (by omega)
      by_cases hz : bt s 0 = 48
      · rw [decide_eq_true hz, Bool.not_true, Bool.false_and]
        have hz' : (bt s 0 == 48) = true := by rw [hz]; rfl
        refine pcr_byq ok49 hG (n := 20) (rv := [.tmp 2]) fun r hr => ?_; unfold c49 st0
        (have we1 := hem; have we2 := h20'; have we3 := hz; have we4 := hz'; exact xwalkd4)
      · rw [decide_eq_false hz, Bool.not_false, Bool.true_and]
        have hz' : (bt s 0 == 48) = false := by simpa using hz
        refine pcr_byq ok49 hG (n := 20) (rv := [.tmp 2]) fun r hr => ?_; unfold c49 st0
        (have we1 := hem; have we2 := h20'; have we3 := hz'; exact xwalkd3)
    · rw [decide_eq_false h20, Bool.false_and, Bool.false_and]
      have h20' : decide ((s.size : Int) ≤ 20) = false := decide_eq_false (by omega)
      refine pcr_byq ok49 hG (n := 20) (rv := [.tmp 2]) fun r hr => ?_; unfold c49 st0
      (have we1 := hem; have we2 := h20'; exact xwalkd2)
def rSpl : Except Int (List Wd) → D
  | .ok l => .tup [.sl l.length (l.map .str), .int .i64 0]
  | .error e => .tup [.sl 0 [], .int .i64 e]
theorem strs_get1 {l : List Wd} {i : Nat} (h : i < l.length) : ((l.map D.str).drop i).take 1 = [.str l[i]] := by
  rw [← List.map_drop, ← List.map_take, List.drop_eq_getElem_cons h, List.take_succ_cons, List.take_zero]
  rfl
theorem strs_imm (l : List Wd) : (l.map D.str).all D.imm = true := by
  rw [List.all_map]
  exact List.all_eq_true.2 fun x _ => rfl
theorem strs_one (l : List Wd) : (l.map D.str).all D.one = true := by
  rw [List.all_map]
  exact List.all_eq_true.2 fun x _ => rfl
theorem spl_len (c : UInt8) : ∀ l, (∀ x ∈ spl c l, x.length ≤ l.length) ∧ (spl c l).length ≤ l.length + 1
  | [] => ⟨fun x hx => by simp [spl] at hx; subst hx; simp, by simp [spl]⟩
  | x :: l => by
    have ih := spl_len c l
    rw [spl]
    split
    · refine ⟨fun y hy => ?_, by simp only [List.length_cons]; omega⟩
      rcases List.mem_cons.1 hy with rfl | hy
      · simp
      · have := ih.1 y hy; simp only [List.length_cons]; omega
    · cases hs : spl c l with
      | nil => exact absurd hs (spl_ne c l)
      | cons a t =>
        rw [hs] at ih
        refine ⟨fun y hy => ?_, by simp only [List.length_cons] at *; omega⟩
        rcases List.mem_cons.1 hy with rfl | hy
        · have := ih.1 a List.mem_cons_self; simp only [List.length_cons]; omega
        · have := ih.1 y (List.mem_cons_of_mem _ hy); simp only [List.length_cons]; omega
theorem words_len {s : Wd} : (∀ w ∈ words s, w.size ≤ s.size) ∧ (words s).length ≤ s.size + 1 := by
  have h := spl_len 45 s.data.toList
  rw [ba_len] at h
  unfold words
  refine ⟨fun w hw => ?_, by rw [List.length_map]; exact h.2⟩
  obtain ⟨x, hx, rfl⟩ := List.mem_map.1 hw
  exact h.1 x hx
theorem pcr_wsplit (hG : Stable G) (hM : ∀ w, G w → gMax w) (s : Wd) (hs : s.size < 1000000) : PCr Tryz.prog G 24 [.str s] (rSpl (splW s)) := by
  have hsp := lib_split (G := G) hM s 45 hs
  rw [show (⟨⟨[45]⟩⟩ : ByteArray) = ⟨#[45]⟩ from rfl, show (baL (spl 45 s.data.toList)) = words s from rfl, show (spl 45 s.data.toList).length = (words s).length by simp [words]] at hsp
  unfold splW
  by_cases h256 : 256 < s.size
  · rw [if_pos h256]
    unfold rSpl
    refine pcr_byq ok24 hG (n := 23) (rv := [.tmp 2, .tmp 3]) fun r hr => ?_; unfold c24 st0
    (exact xwalkd)
  · rw [if_neg h256]
    have hwl := (words_len (s := s)).1
    have hlb : (words s).length < 1000000 := by have := (words_len (s := s)).2; omega
    generalize words s = l at *
    have hgood : ∀ w ∈ l, PCr Tryz.prog G 47 [.str w] (.bool (goodW w)) := fun w hw => pcr_wgood hG w (by have := hwl w hw; omega)
    have hll : (l.map D.str).length = l.length := List.length_map ..
    have himm := strs_imm l
    refine pcr_byq ok24 hG (n := 23) (rv := [.tmp 2, .tmp 3]) fun r hr => ?_; unfold c24 st0
    (refine xwalk ?_)
    refine awp_loop (fun k σ => ∃ i, i ≤ l.length ∧ k = l.length - i ∧ (∀ j (h : j < l.length), j < i → goodW l[j] = true) ∧ σ = ⟨(putE (putE (putE (putE un0 (some 4) (.sl l.length (l.map .str))) (some 12) (.sl l.length (l.map .str))) (some 13) (.int .i64 (l.length : Int))) (some 14) (.int .i64 (i : Int))), []⟩) l.length ?_ ⟨0, Nat.zero_le _, rfl, fun _ _ h => absurd h (Nat.not_lt_zero _), rfl⟩ ?_
    · refine Ent.env (less_put (less_put (less_put (less_put (less_un0 _) ?_) ?_) ?_) ?_)
      iterate 4 (· first | exact xlq | rfl | (simp only [go_sem, Nat.reduceEqDiff, Nat.reduceAdd, Nat.reduceLT, Nat.reduceMul, Nat.reduceLeDiff, reduceCtorEq, Int.reduceNeg, Int.reduceToNat]; exact congrArg (D.int .i64) (by omega)))
    rintro k σ1 ⟨i, hi, rfl, hg, rfl⟩
    by_cases hlt : i < l.length
    · have hgi := hgood l[i] (List.getElem_mem hlt)
      have hget := strs_get1 hlt
      cases hgw : goodW l[i] with
      | false =>
        rw [hgw] at hgi
        have hall : l.all goodW = false := by
          refine Bool.eq_false_iff.2 fun h => ?_
          have := List.all_eq_true.1 h l[i] (List.getElem_mem hlt)
          rw [hgw] at this; cases this
        rw [hall] at hr
        simp only [Bool.false_eq_true, if_false] at hr
        unfold rSpl at hr
        clear hgood hwl
        generalize l[i] = w at *
        (have we1 := hget; exact xwalkd1)
      | true =>
        rw [hgw] at hgi
        have hg' : ∀ j (h : j < l.length), j < i + 1 → goodW l[j] = true := fun j h hj => by
          rcases Nat.lt_or_ge j i with h1 | h1
          · exact hg j h h1
          · obtain rfl : j = i := by omega
            exact hgw
        clear hgood hwl hg hgw
        generalize l[i] = w at *
        (have we1 := hget; refine xwalk1 ?_)
        refine ⟨l.length - (i + 1), _, by omega, ?_, i + 1, by omega, rfl, hg', rfl⟩
        refine Ent.env (less_put (less_put (less_put (less_put (less_un0 _) ?_) ?_) ?_) ?_)
        iterate 4 (· first | exact xlq | rfl | (simp only [go_sem, Nat.reduceEqDiff, Nat.reduceAdd, Nat.reduceLT, Nat.reduceMul, Nat.reduceLeDiff, reduceCtorEq, Int.reduceNeg, Int.reduceToNat]; exact congrArg (D.int .i64) (by omega)))
    · have hall : l.all goodW = true := by
        refine List.all_eq_true.2 fun x hx => ?_
        obtain ⟨j, hj, rfl⟩ := List.mem_iff_getElem.1 hx
        exact hg j hj (by omega)
      rw [hall] at hr
      simp only [if_true] at hr
      unfold rSpl at hr
      clear hgood hwl hg
      (have we1 := himm; exact xwalkd1)
def rowsD (rs : List (List Wd)) : List D := rs.map fun r => .sl r.length (r.map .str)
theorem rowsD_app (a b : List (List Wd)) : rowsD (a ++ b) = rowsD a ++ rowsD b := by simp [rowsD]
theorem rowsD_len (a : List (List Wd)) : (rowsD a).length = a.length := by simp [rowsD]
theorem rowsD_imm (a : List (List Wd)) : (rowsD a).all D.imm = true := by
  unfold rowsD
  rw [List.all_map]
  exact List.all_eq_true.2 fun x _ => rfl
theorem rowsD_one (a : List (List Wd)) : (rowsD a).all D.one = true := by
  unfold rowsD
  rw [List.all_map]
  exact List.all_eq_true.2 fun x _ => rfl
end Go.Proofs.YtgimaioeifnajaaGreatDoorK.TabT
