/-
 Joined: DimsA, DimsB, DimsR, DimsV.
-/
import Derived.Test.YtoiepmpggabglaaGreatDoorKIrLib
import Derived.Test.YtoiepmpggabglaaGreatDoorKIrX
import Derived.Test.YtoiepmpggabglaaGreatDoorKAc
import Derived.Test.YtoiepmpggabglaaGreatDoorKLb
set_option linter.all false
set_option maxHeartbeats 0
/-
 Package dims: exponents: what the functions compute.
-/
namespace Go.Proofs.YtoiepmpggabglaaGreatDoorK.NatIr
end Go.Proofs.YtoiepmpggabglaaGreatDoorK.NatIr
namespace Go.Proofs.YtoiepmpggabglaaGreatDoorK.DimsT
open AI NatIr
attribute [local irreducible] awp awpOps
attribute [local go_sem] not_true_eq_false not_false_eq_true
variable {G : World → Prop} {l : List Int} {n : Int}
abbrev I (l : List Int) : List D := l.map (.int .i64)
def inD (n : Int) : Bool := decide (-100 ≤ n) && decide (n ≤ 100)
theorem inD_iff : inD n = true ↔ -100 ≤ n ∧ n ≤ 100 := by simp [inD]
theorem pcr_in (hG : Stable G) (n : Int) : PCr Tryz.prog G 133 [.int .i64 n] (.bool (inD n)) := by
 unfold inD
 by_cases h1 : -100 ≤ n
 case neg =>
  rw [decide_eq_false h1]
  refine pcr_byq ok133 hG (n := 9) (rv := [.tmp 2]) fun r hr => ?_; unfold c133 st0
  (exact xwalkd)
 by_cases h2 : n ≤ 100
 ·rw [decide_eq_true h1, decide_eq_true h2]
  refine pcr_byq ok133 hG (n := 9) (rv := [.tmp 2]) fun r hr => ?_; unfold c133 st0
  (exact xwalkd)
 ·rw [decide_eq_true h1, decide_eq_false h2]
  refine pcr_byq ok133 hG (n := 9) (rv := [.tmp 2]) fun r hr => ?_; unfold c133 st0
  (exact xwalkd)
theorem pcr_out (hG : Stable G) (n : Int) : PCr Tryz.prog G 155 [.int .i64 n] (.bool (!inD n)) := by
 have h := pcr_in hG n
 refine pcr_byq ok155 hG (n := 6) (rv := [.tmp 2]) fun r hr => ?_; unfold c155 st0
 (exact xwalkd)
theorem I_len : (I l).length = l.length := by simp
theorem I_getD {i : Nat} (h : i < l.length) : (I l).getD i .un = .int .i64 (l.getD i 0) := by
 simp [I, List.getD_eq_getElem?_getD, List.getElem?_map, List.getElem?_eq_getElem h]
def fidx (p : Int → Bool) (l : List Int) : Int := match l.findIdx? p with
 | some i => i
 | none => -1
theorem one_at {i : Nat} (h : i < l.length) : ((I l).drop i).take 1 = [.int .i64 (l.getD i 0)] := by
 rw [List.drop_eq_getElem_cons (by simpa using h)]
 simp [I, List.getD_eq_getElem?_getD, List.getElem?_eq_getElem h]
theorem fidx_here {p : Int → Bool} {i : Nat} (hi : i < l.length) (h0 : ∀ j, j < i → p (l.getD j 0) = false) (h : p (l.getD i 0) = true) : fidx p l = i := by
 have : l.findIdx? p = some i := by
  rw [List.findIdx?_eq_some_iff_getElem]
  refine ⟨hi, by simpa [List.getD_eq_getElem?_getD, List.getElem?_eq_getElem hi] using h, fun j hj => ?_⟩
  have := h0 j hj
  simpa [List.getD_eq_getElem?_getD, List.getElem?_eq_getElem (Nat.lt_trans hj hi)] using this
 rw [fidx, this]
theorem fidx_none {p : Int → Bool} (h0 : ∀ j, j < l.length → p (l.getD j 0) = false) : fidx p l = -1 := by
 have : l.findIdx? p = none := by
  rw [List.findIdx?_eq_none_iff]
  intro x hx
  obtain ⟨j, hj, rfl⟩ := List.mem_iff_getElem.1 hx
  have := h0 j hj
  simpa [List.getD_eq_getElem?_getD, List.getElem?_eq_getElem hj] using this
 rw [fidx, this]
theorem pcr_indexf (hG : Stable G) {g : FuncId} {p : Int → Bool} (hg : okF Tryz.prog g = true) (hp : ∀ x, PCr Tryz.prog G g [.int .i64 x] (.bool (p x))) (hl : l.length < 1000000) :
  PCr Tryz.prog G 172 [.sl l.length (I l), .fn g []] (.int .i64 (fidx p l)) := by
 have hlen : (I l).length = l.length := I_len
 refine pcr_byq ok172 hG (n := 19) (rv := [.tmp 4]) fun r hr => ?_; unfold c172 st0
 refine xctl ?_
 refine xrg ?_
 refine xctl ?_
 refine xrg ?_
 refine xctl ?_
 refine awp_loop (fun k σ => ∃ (i : Nat), i ≤ l.length ∧ k = l.length - i ∧ (∀ j, j < i → p (l.getD j 0) = false) ∧
   σ = ⟨(putE (putE (putE (putE un0 (some 0) (.sl l.length (I l))) (some 1) (.fn g [])) (some 7) (.int .i64 ((l.length : Nat) : Int))) (some 8) (.int .i64 (i : Int))), []⟩) l.length
   (Ent.env (less_put (less_put (less_put (less_put (less_un0 _) ?_) ?_) ?_) ?_)) ⟨0, Nat.zero_le _, rfl, fun j hj => absurd hj (Nat.not_lt_zero _), rfl⟩ ?_
 iterate 3 (· exact xlq)
 ·show _ = D.int .i64 ((0 : Nat) : Int)
  exact xlq
 rintro k σ1 ⟨i, hi, rfl, hno, rfl⟩
 by_cases hlt : i < l.length
 ·have h1 := one_at hlt
  have hx := hp (l.getD i 0)
  refine xctl ?_
  refine xrg ?_
  refine xctl ?_
  refine xct ?_
  refine xctl ?_
  refine xrg ?_
  refine xctl ?_
  refine ops_sym (by simp (disch := omega) only [go_sem, Nat.reduceEqDiff, Nat.reduceAdd, Nat.reduceLT, Nat.reduceMul, Nat.reduceLeDiff, reduceCtorEq, Int.reduceNeg, Int.reduceToNat, h1, hlen, List.getD_cons_zero, Nat.mul_one, Int.toNat_natCast]; rfl) (by first | with_reducible exact True.intro | omega) ?_
  refine xdc1 ?_
  refine xcf1 ?_; refine xcf hx rfl ?_
  refine xrg ?_
  refine xctl ?_
  cases hb : p (l.getD i 0) with
  | true =>
   refine xct ?_
   refine xctl ?_
   refine xrg ?_
   refine xctl ?_
   refine xrt ?_
   rw [hr, fidx_here hlt hno hb]
  | false =>
   refine xcF ?_
   refine xctl ?_
   refine xrg ?_
   refine xctl ?_
   refine ⟨l.length - (i + 1), _, by omega, Ent.env (less_put (less_put (less_put (less_put (less_un0 _) ?_) ?_) ?_) ?_), i + 1, by omega, rfl, fun j hj => ?_, rfl⟩
   iterate 3 (· exact xlq)
   ·exact xlq
   ·rcases Nat.lt_succ_iff_lt_or_eq.1 hj with h | rfl
    ·exact hno j h
    ·exact hb
 ·obtain rfl : i = l.length := by omega
  refine xctl ?_
  refine xrg ?_
  refine xctl ?_
  refine xcF ?_
  refine xctl ?_
  refine xrg ?_
  refine xctl ?_
  refine xrt ?_
  rw [hr, fidx_none hno]
theorem fidx_any (p : Int → Bool) (l : List Int) : (0 ≤ fidx p l) = (l.any p = true) := by
 unfold fidx
 cases h : l.findIdx? p with
 | some i =>
  have h2 := (List.findIdx?_eq_some_iff_getElem.1 h)
  obtain ⟨hi, hp, _⟩ := h2
  simp only [eq_iff_iff]
  constructor
  ·intro _; exact List.any_eq_true.2 ⟨_, List.getElem_mem hi, hp⟩
  ·intro _; exact Int.natCast_nonneg i
 | none =>
  rw [List.findIdx?_eq_none_iff] at h
  simp only [eq_iff_iff]
  constructor
  ·intro h0; exact absurd h0 (by decide)
  ·intro h1
   obtain ⟨x, hx, hp⟩ := List.any_eq_true.1 h1
   rw [h x hx] at hp
   cases hp
theorem pcr_containsf (hG : Stable G) {g : FuncId} {p : Int → Bool} (hg : okF Tryz.prog g = true) (hp : ∀ x, PCr Tryz.prog G g [.int .i64 x] (.bool (p x))) (hl : l.length < 1000000) :
  PCr Tryz.prog G 154 [.sl l.length (I l), .fn g []] (.bool (l.any p)) := by
 have h := pcr_indexf hG hg hp hl
 have e := fidx_any p l
 generalize fidx p l = i at *
 cases hb : l.any p with
 | true =>
  rw [hb] at e
  have hi : 0 ≤ i := by rw [e]
  refine pcr_byq ok154 hG (n := 9) (rv := [.tmp 4]) fun r hr => ?_; unfold c154 st0
  (exact xwalkd)
 | false =>
  rw [hb] at e
  have hi : ¬ 0 ≤ i := by rw [e]; simp
  refine pcr_byq ok154 hG (n := 9) (rv := [.tmp 4]) fun r hr => ?_; unfold c154 st0
  (exact xwalkd)
def goodD (l : List Int) : Bool := l.all inD
theorem goodD_any (l : List Int) : l.any (fun n => !inD n) = !goodD l := by
 unfold goodD
 induction l with
 | nil => rfl
 | cons x l ih => simp only [List.any_cons, List.all_cons, ih]; cases inD x <;> simp
theorem I_frozen : (I l).all D.frozen = true := by
 rw [List.all_eq_true]
 intro d hd
 obtain ⟨n, _, rfl⟩ := List.mem_map.1 hd
 rfl
theorem pcr_good (hG : Stable G) (hl : l.length = 8) : PCr Tryz.prog G 132 [.agg (I l)] (.bool (goodD l)) := by
 have h := pcr_containsf (l := l) hG (g := 155) (by kernel_rfl) (pcr_out hG) (by omega)
 rw [goodD_any, hl] at h
 have hlen : (I l).length = 8 := by rw [I_len, hl]
 have hf := I_frozen (l := l)
 have ht : (I l).take 8 = I l := List.take_of_length_le (by omega)
 refine pcr_byq ok132 hG (n := 6) (rv := [.tmp 2]) fun r hr => ?_; unfold c132 st0
 (have we1 := hlen; have we2 := ht; have we3 := hf; have we4 := @Bool.not_not; exact xwalkd4)
theorem putD_I {z : List D} (h : z.length = l.length) : putD z 0 (I l) = I l := by
 refine List.ext_getElem? fun j => ?_
 rw [putD_get _ _ _ (by rw [I_len]; omega)]
 by_cases hj : j < l.length
 ·rw [if_pos ⟨Nat.zero_le _, by rw [I_len]; omega⟩]; rfl
 ·rw [if_neg (by rw [I_len]; omega), List.getElem?_eq_none (by omega), List.getElem?_eq_none (by rw [I_len]; omega)]
theorem I_one : (I l).all D.one = true := by
 rw [List.all_eq_true]
 intro d hd
 obtain ⟨n, _, rfl⟩ := List.mem_map.1 hd
 rfl
theorem I_imm : (I l).all D.imm = true := by
 rw [List.all_eq_true]
 intro d hd
 obtain ⟨n, _, rfl⟩ := List.mem_map.1 hd
 rfl
abbrev z8 : List Int := [0, 0, 0, 0, 0, 0, 0, 0]
def sumTo (a b : List Int) (i : Nat) : List Int := (List.range a.length).map fun j => if j < i then a.getD j 0 + b.getD j 0 else a.getD j 0
def addD (a b : List Int) : List Int := (List.range a.length).map fun j => a.getD j 0 + b.getD j 0
theorem sumTo_len {a b : List Int} {i : Nat} : (sumTo a b i).length = a.length := by simp [sumTo]
theorem sumTo_zero {a b : List Int} : sumTo a b 0 = a := by
 unfold sumTo
 refine List.ext_getElem? fun j => ?_
 by_cases hj : j < a.length
 ·simp [hj, List.getD_eq_getElem?_getD]
 ·rw [List.getElem?_eq_none (by simp; omega), List.getElem?_eq_none (by omega)]
theorem sumTo_all {a b : List Int} : sumTo a b a.length = addD a b := by
 unfold sumTo addD
 refine List.map_congr_left fun j hj => ?_
 rw [if_pos (List.mem_range.1 hj)]
theorem sumTo_get {a b : List Int} {i : Nat} (h : i < a.length) : (sumTo a b i).getD i 0 = a.getD i 0 := by
 simp [sumTo, List.getD_eq_getElem?_getD, h]
theorem sumTo_set {a b : List Int} {i : Nat} (h : i < a.length) : (sumTo a b i).set i (a.getD i 0 + b.getD i 0) = sumTo a b (i + 1) := by
 unfold sumTo
 refine List.ext_getElem? fun j => ?_
 rw [List.getElem?_set]
 by_cases hj : j < a.length
 ·by_cases hij : i = j
  ·subst hij
   simp [h]
  ·rw [if_neg hij]
   simp only [List.getElem?_map, List.getElem?_range hj, Option.map_some]
   by_cases h1 : j < i
   ·rw [if_pos h1, if_pos (by omega)]
   ·rw [if_neg h1, if_neg (by omega)]
 ·rw [List.getElem?_eq_none (l := (List.range a.length).map _) (by simp; omega), List.getElem?_eq_none (by simp; omega)]
  simp
  omega
theorem I_set {i : Nat} {n : Int} : (I l).set i (.int .i64 n) = I (l.set i n) := by simp [I, List.map_set]
theorem goodD_get {i : Nat} (h : goodD l = true) : -100 ≤ l.getD i 0 ∧ l.getD i 0 ≤ 100 := by
 by_cases hi : i < l.length
 ·have : l.getD i 0 = l[i] := by simp [List.getD_eq_getElem?_getD, hi]
  rw [this]
  exact inD_iff.1 (List.all_eq_true.1 h _ (List.getElem_mem hi))
 ·rw [List.getD_eq_getElem?_getD, List.getElem?_eq_none (by omega)]
  simp
def mV (ok : Bool) (l : List Int) : D := .tup [.agg (I (if ok then l else z8)), .bool ok]
theorem pcr_add (hG : Stable G) {a b : List Int} (ha : a.length = 8) (hb : b.length = 8) : PCr Tryz.prog G 102 [.agg (I a), .agg (I b)] (mV (goodD a && goodD b && goodD (addD a b)) (addD a b)) := by
 have h1 : (I a).length = 8 := by rw [I_len, ha]
 have h2 : (I b).length = 8 := by rw [I_len, hb]
 have t1 : (I a).take 8 = I a := List.take_of_length_le (by omega)
 have t2 : (I b).take 8 = I b := List.take_of_length_le (by omega)
 have ga := pcr_good hG ha
 have gb := pcr_good hG hb
 have hs8 : (addD a b).length = 8 := by simp [addD, ha]
 have gs := pcr_good hG hs8
 have h3 : (I (addD a b)).length = 8 := by rw [I_len, hs8]
 have t3 : (I (addD a b)).take 8 = I (addD a b) := List.take_of_length_le (by omega)
 have one3 := I_one (l := addD a b)
 have m1 := I_imm (l := a)
 have m2 := I_imm (l := b)
 have m3 := I_imm (l := addD a b)
 have put3 : putD [.int .i64 0, .int .i64 0, .int .i64 0, .int .i64 0, .int .i64 0, .int .i64 0, .int .i64 0, .int .i64 0] 0 (I (addD a b)) = I (addD a b) := putD_I (by rw [hs8]; rfl)
 cases hga : goodD a with
 | false =>
  rw [hga] at ga
  refine pcr_byq ok102 hG (n := 34) (rv := [.cell 4 true 8, .tmp 5]) fun r hr => ?_; unfold c102 st0
  (have we1 := h1; have we2 := h2; have we3 := t1; have we4 := t2; have we5 := m1; have we6 := m2; exact xwalkd6)
 | true =>
  cases hgb : goodD b with
  | false =>
   rw [hga] at ga
   rw [hgb] at gb
   refine pcr_byq ok102 hG (n := 34) (rv := [.cell 4 true 8, .tmp 5]) fun r hr => ?_; unfold c102 st0
   (have we1 := h1; have we2 := h2; have we3 := t1; have we4 := t2; have we5 := m1; have we6 := m2; exact xwalkd6)
  | true =>
   rw [hga] at ga
   rw [hgb] at gb
   refine pcr_byq ok102 hG (n := 34) (rv := [.cell 4 true 8, .tmp 5]) fun r hr => ?_; unfold c102 st0
   (have we1 := h1; have we2 := h2; have we3 := t1; have we4 := t2; have we5 := m1; have we6 := m2; refine xwalk6 ?_)
   refine awp_loop (fun k σ => ∃ (i : Nat), i ≤ 8 ∧ k = 8 - i ∧
     σ = ⟨(putE (putE (putE (putE (putE un0 (some 2) (.ptr 0 0 0)) (some 4) (.ptr 2 0 0)) (some 5) (.bool false)) (some 17) (.agg (I b))) (some 18) (.int .i64 (i : Int))), [some (0, 121, 8, I (sumTo a b i)), none, some (0, 121, 8, I z8)]⟩) 8
     (σ1 := ⟨(putE (putE (putE (putE (putE un0 (some 2) (.ptr 0 0 0)) (some 4) (.ptr 2 0 0)) (some 5) (.bool false)) (some 17) (.agg (I b))) (some 18) (.int .i64 ((0 : Nat) : Int))), [some (0, 121, 8, I a), none, some (0, 121, 8, I z8)]⟩) (Ent.st (less_put (less_put (less_put (less_put (less_put (less_un0 _) ?_) ?_) ?_) ?_) ?_) (by exact ⟨.inr rfl, .inl rfl, .inr rfl, trivial⟩)) ⟨0, Nat.zero_le _, rfl, by rw [sumTo_zero]⟩ ?_
   iterate 4 (· exact xlq)
   ·show _ = D.int .i64 ((0 : Nat) : Int)
    exact xlq
   rintro k σ1 ⟨i, hi, rfl, rfl⟩
   have hsl : (sumTo a b i).length = 8 := by rw [sumTo_len, ha]
   have hil : (I (sumTo a b i)).length = 8 := by rw [I_len, hsl]
   by_cases hlt : i < 8
   ·have e1 := I_getD (l := b) (i := i) (by omega)
    have e2 := I_getD (l := sumTo a b i) (i := i) (by omega)
    rw [sumTo_get (by omega)] at e2
    have e3 := I_set (l := sumTo a b i) (i := i) (n := a.getD i 0 + b.getD i 0)
    rw [sumTo_set (by omega)] at e3
    have q1 := goodD_get (l := a) (i := i) hga
    have q2 := goodD_get (l := b) (i := i) hgb
    have e4 : IntKind.i64.wrap (a.getD i 0 + b.getD i 0) = a.getD i 0 + b.getD i 0 := wrap_i64 (by omega)
    (have we1 := h2; have we2 := hil; have we3 := e1; have we4 := e2; have we5 := e3; have we6 := e4; refine xwalk6 ?_)
    refine ⟨8 - (i + 1), _, by omega, Ent.st (less_put (less_put (less_put (less_put (less_put (less_un0 _) ?_) ?_) ?_) ?_) ?_) (by exact ⟨.inr rfl, .inl rfl, .inr rfl, trivial⟩), i + 1, by omega, rfl, rfl⟩
    iterate 4 (· exact xlq)
    ·exact xlq
   ·obtain rfl : i = 8 := by omega
    have e5 : sumTo a b 8 = addD a b := by rw [← ha]; exact sumTo_all
    rw [e5]
    cases hgs : goodD (addD a b) with
    | false =>
     rw [hgs] at gs hr
     (have we1 := h3; have we2 := t3; have we3 := m3; exact xwalkd3)
    | true =>
     rw [hgs] at gs hr
     (have we1 := h3; have we2 := t3; have we3 := m3; have we4 := one3; have we5 := put3; exact xwalkd5)
end Go.Proofs.YtoiepmpggabglaaGreatDoorK.DimsT
/-
 Package dims: an exponent taken many times; turned; one of one base.
-/
namespace Go.Proofs.YtoiepmpggabglaaGreatDoorK.DimsT
open AI NatIr
attribute [local irreducible] awp awpOps
attribute [local go_sem] not_true_eq_false not_false_eq_true
variable {G : World → Prop} {l : List Int} {n : Int}
def mulD (a : List Int) (k : Int) : List Int := (List.range a.length).map fun j => a.getD j 0 * k
end Go.Proofs.YtoiepmpggabglaaGreatDoorK.DimsT
/-
 The document's exponents: GoodV, AddV: what they compute.
-/
namespace Go.Proofs.YtoiepmpggabglaaGreatDoorK.DimsT
open AI NatIr
attribute [local irreducible] awp awpOps
attribute [local go_sem] not_true_eq_false not_false_eq_true
variable {G : World → Prop} {l : List Int} {n : Int}
end Go.Proofs.YtoiepmpggabglaaGreatDoorK.DimsT
/-
 Rows of eight whole numbers: what a walk needs to know of them, and plain laws of sums and products.
-/
namespace Go.Proofs.YtoiepmpggabglaaGreatDoorK.DimsT
open AI NatIr
theorem addD_len {a b : List Int} : (addD a b).length = a.length := by simp [addD]
theorem mulD_len {a : List Int} {k : Int} : (mulD a k).length = a.length := by simp [mulD]
theorem addD_get {a b : List Int} {i : Nat} (h : i < a.length) : (addD a b).getD i 0 = a.getD i 0 + b.getD i 0 := by simp [addD, List.getD_eq_getElem?_getD, h]
theorem mulD_get {a : List Int} {k : Int} {i : Nat} (h : i < a.length) : (mulD a k).getD i 0 = a.getD i 0 * k := by simp [mulD, List.getD_eq_getElem?_getD, h]
theorem ext8 {a b : List Int} (h : a.length = b.length) (hi : ∀ i, i < a.length → a.getD i 0 = b.getD i 0) : a = b := by
 refine List.ext_getElem h fun i h1 h2 => ?_
 have := hi i h1
 simpa [List.getD_eq_getElem?_getD, h1, h2] using this
end Go.Proofs.YtoiepmpggabglaaGreatDoorK.DimsT
