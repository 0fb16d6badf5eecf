/-
  Joined: RefA, RefB, RefC, RefD.
-/
import Derived.Test.YtgimaioeifnajaaGreatDoorKIrRef
import Derived.Test.YtgimaioeifnajaaGreatDoorKP
import Derived.Test.YtgimaioeifnajaaGreatDoorKNa
import Derived.Test.YtgimaioeifnajaaGreatDoorKAc
set_option linter.all false
set_option maxHeartbeats 4000000
/-
  The document's trim, Small, at, Cmp: what they compute.
-/
namespace Go.Proofs.YtgimaioeifnajaaGreatDoorK.RefT
open AI NatIr Dig NatT
attribute [local irreducible] awp awpOps
attribute [local go_sem] V_getD V_set V_take V_drop V_imm V_one V_app V_app1 V_repl V_get1 V_length M List.length_append
variable {G : World → Prop}
theorem M_zero : M 0 = .sl 0 [] := by rw [M, wd_zero]; rfl
theorem wd_snoc {l : List Int} {v n : Nat} (hok : ok 10000 l) (hv : v = vl 10000 l + 10000 ^ l.length * n) (hn : n ≠ 0) : vl 10000 (l ++ [((n % 10000 : Nat) : Int)]) + 10000 ^ (l.length + 1) * (n / 10000) = v := by
  rw [vl_append, vl_cons, vl_nil, hv, Int.toNat_natCast, Nat.mul_zero, Nat.add_zero, Nat.pow_succ, Nat.mul_assoc, Nat.add_assoc, ← Nat.mul_add, Nat.mod_add_div]
theorem pcr_rsmall (hG : Stable G) (n : Nat) (hn : n < 18446744073709551616) : PCr Tryz.prog G 145 [.int .u64 n] (M n) := by
  refine pcr_byq ok145 hG (n := 15) (rv := [.tmp 2]) fun r hr => ?_; unfold c145 st0
  refine xctl ?_
  refine xrg ?_
  refine xctl ?_
  refine xrg ?_
  refine xctl ?_
  refine awp_loop (fun k σ => ∃ (m ver : Nat) (l : List Int), k = m ∧ m ≤ n ∧ l.length ≤ 30 ∧ (m ≠ 0 → 10000 ^ l.length ≤ n) ∧ ok 10000 l ∧ n = vl 10000 l + 10000 ^ l.length * m ∧ (l ≠ [] → m = 0 → l.getD (l.length - 1) 0 ≠ 0) ∧
      σ = ⟨(putE (putE un0 (some 0) (.int .u64 m)) (some 3) (.own 0 ver 0 l.length)), [some (ver, 3, 1, V l)]⟩) n
    ((Ent.nils (s := 3) 3 1 (by simp only [go_sem, Nat.reduceEqDiff, Nat.reduceAdd, Nat.reduceLT, Nat.reduceMul, Nat.reduceLeDiff, reduceCtorEq, Int.reduceNeg, Int.reduceToNat])).trans (by simp) (Ent.env (less_put (less_put (less_un0 _) ?_) ?_))) ⟨n, 0, [], rfl, Nat.le_refl _, by simp, fun h => by simp; omega, ok_nil _, by simp [vl], fun h => absurd rfl h, rfl⟩ ?_
  iterate 2 (· exact xlq)
  rintro m σ1 ⟨_, ver, l, rfl, hm, hl, hln, hok, hv, hlast, rfl⟩
  refine xctl ?_
  refine xrg ?_
  refine xctl ?_
  refine xcs (fun hb => ?_) (fun hb => ?_)
  · have hb := of_decide_eq_true hb
    have h0 : m ≠ 0 := by omega
    have h1 := hln h0
    have hl' : l.length ≤ 4 := by
      rcases Nat.lt_or_ge 4 l.length with h | h
      · have h2 : 10000 ^ 5 ≤ 10000 ^ l.length := Nat.pow_le_pow_right (by omega) h
        omega
      · exact h
    have hs := wd_snoc hok hv h0
    have hd : m / 10000 ≤ m := Nat.div_le_self _ _
    have hdl : m / 10000 < m := Nat.div_lt_self (by omega) (by omega)
    have hmod := Nat.mod_lt m (show 10000 > 0 by omega)
    have em : (m : Int) % 10000 = ((m % 10000 : Nat) : Int) := by omega
    have ed : (m : Int) / 10000 = ((m / 10000 : Nat) : Int) := by omega
    refine xctl ?_
    refine xrg ?_
    refine xctl ?_
    refine xrg ?_
    refine xctl ?_
    refine ⟨m / 10000, _, hdl, (Ent.cutk 1 (less_put (less_put (less_un0 _) ?_) ?_) (by exact ⟨.inr rfl, trivial⟩) (kb_put (kb_put (kb_un0 _) (by simp [kb])) (by simp [kb])) (by simp [kbH, kb.kbs, kb, kbs_W, kbs_SS, kbs_V])), m / 10000, ver + 1, l ++ [(m : Int) % 10000], rfl, by omega, by simp; omega, ?_, ?_, ?_, ?_, rfl⟩
    · simp only [go_sem, Nat.reduceEqDiff, Nat.reduceAdd, Nat.reduceLT, Nat.reduceMul, Nat.reduceLeDiff, reduceCtorEq, Int.reduceNeg, Int.reduceToNat]
      rw [ed]
    · exact xlq
    · intro h2
      rw [List.length_append, List.length_singleton, Nat.pow_succ]
      have h3 : 10000 ^ l.length * 10000 ≤ 10000 ^ l.length * m := Nat.mul_le_mul_left _ (by omega)
      exact Nat.le_trans h3 (Nat.le_trans (Nat.le_add_left _ _) (Nat.le_of_eq hv.symm))
    · exact ok_append.2 ⟨hok, fun x hx => by simp at hx; omega⟩
    · rw [List.length_append, List.length_singleton, em]
      exact hs.symm
    · intro _ h2
      rw [List.length_append, List.length_singleton, Nat.add_sub_cancel, List.getD_eq_getElem?_getD, List.getElem?_append_right (Nat.le_refl _), Nat.sub_self]
      simp only [List.getElem?_cons_zero, Option.getD_some]
      omega
  · have hb := of_decide_eq_false hb
    have hm0 : m = 0 := by omega
    subst hm0
    refine xctl ?_
    refine xrg ?_
    refine xctl ?_
    refine xrt ?_
    rw [hr, M]
    have h1 : n = vl 10000 l := by simpa using hv
    have h2 : l = wd 10000 n := by
      rw [h1]
      refine eq_wd (by omega) hok (fun x hx => ?_)
      by_cases hl0 : l = []
      · subst hl0; cases hx
      · rw [getD_last hl0] at hx
        cases hx
        exact hlast hl0 rfl
    rw [← h2]
end Go.Proofs.YtgimaioeifnajaaGreatDoorK.RefT
/-
  The document's Cmp, Add: what they compute.
-/
namespace Go.Proofs.YtgimaioeifnajaaGreatDoorK.RefT
open AI NatIr Dig NatT
attribute [local irreducible] awp awpOps
attribute [local go_sem] V_getD V_set V_take V_drop V_imm V_one V_app V_app1 V_repl V_get1 V_length M List.length_append
variable {G : World → Prop}
theorem getD_out {l : List Int} {i : Nat} (h : l.length ≤ i) : l.getD i 0 = 0 := by
  rw [List.getD_eq_getElem?_getD, List.getElem?_eq_none h]; rfl
theorem add_stop {a b out : List Int} {i : Nat} {c : Int} (ha : ok 10000 a) (hb : ok 10000 b) (hl : out.length = i) (h1 : a.length < i) (h2 : b.length < i) (h : vl 10000 out + 10000 ^ i * c.toNat = vl 10000 (a.take i) + vl 10000 (b.take i)) : c.toNat = 0 := by
  have h3 := add_end (B := 10000) (by omega) ha hb h1 h2 (c := c.toNat) (by rw [List.take_of_length_le (by omega)]; exact h) hl
  rw [List.take_of_length_le (by omega), List.take_of_length_le (by omega)] at h
  have h4 : 10000 ^ i * c.toNat = 0 := by omega
  rcases Nat.mul_eq_zero.1 h4 with h5 | h5
  · have : 0 < 10000 ^ i := Nat.pow_pos (by omega)
    omega
  · exact h5
end Go.Proofs.YtgimaioeifnajaaGreatDoorK.RefT
/-
  The document's Mul, Words, Pow: what they compute.
-/
namespace Go.Proofs.YtgimaioeifnajaaGreatDoorK.RefT
open AI NatIr Dig NatT
attribute [local irreducible] awp awpOps
attribute [local go_sem] V_getD V_set V_take V_drop V_imm V_one V_app V_app1 V_repl V_get1 V_length M List.length_append
variable {G : World → Prop}
theorem zt_mono {l : List Int} {n m : Nat} (h : zt l n) (hnm : n ≤ m) : zt l m := fun j hj => h j (by omega)
end Go.Proofs.YtgimaioeifnajaaGreatDoorK.RefT
/-
  The document's Words, Pow: what they compute.
-/
namespace Go.Proofs.YtgimaioeifnajaaGreatDoorK.RefT
open AI NatIr Dig NatT
attribute [local irreducible] awp awpOps
attribute [local go_sem] V_getD V_set V_take V_drop V_imm V_one V_app V_app1 V_repl V_get1 V_length M List.length_append
variable {G : World → Prop}
theorem wd4_len {X n : Nat} (h : X < 4294967296 ^ n) : (wd 10000 X).length ≤ 3 * n := by
  refine wd_length_le (by omega) (Nat.lt_of_lt_of_le h ?_)
  rw [Nat.pow_mul]
  exact Nat.pow_le_pow_left (by decide) n
theorem wd4_pow {X : Nat} (i : Nat) : (wd 10000 (X ^ i)).length ≤ (wd 10000 X).length * i + 1 := by
  have h1 := vl_lt (ok_wd (B := 10000) (by omega) X)
  rw [vl_wd (by omega)] at h1
  refine wd_length_le (by omega) ?_
  have h2 : X ^ i ≤ (10000 ^ (wd 10000 X).length) ^ i := Nat.pow_le_pow_left (Nat.le_of_lt h1) i
  rw [← Nat.pow_mul] at h2
  exact Nat.lt_of_le_of_lt h2 (Nat.pow_lt_pow_right (by omega) (by omega))
end Go.Proofs.YtgimaioeifnajaaGreatDoorK.RefT
