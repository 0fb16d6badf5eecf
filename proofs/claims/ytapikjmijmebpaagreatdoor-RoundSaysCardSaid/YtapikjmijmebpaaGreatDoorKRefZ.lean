/-
  The document's numbers with a sign: what they compute.
-/
import Derived.Test.YtapikjmijmebpaaGreatDoorKIrRefZ
import Derived.Test.YtapikjmijmebpaaGreatDoorKRe
import Derived.Test.YtapikjmijmebpaaGreatDoorKZa
set_option linter.all false
set_option linter.unusedVariables false
set_option linter.unusedSimpArgs false
set_option maxHeartbeats 4000000
namespace Go.Proofs.YtapikjmijmebpaaGreatDoorK.RefT
open Go.Proofs.YtapikjmijmebpaaGreatDoorK.AI Go.Proofs.YtapikjmijmebpaaGreatDoorK.NatIr Go.Proofs.YtapikjmijmebpaaGreatDoorK.Dig Go.Proofs.YtapikjmijmebpaaGreatDoorK.NatT Go.Proofs.YtapikjmijmebpaaGreatDoorK.NumT
def MZ (z : Int) : D := .agg [.bool (ng z), M z.natAbs]
set_option linter.unusedSimpArgs false
attribute [local irreducible] awp awpOps
attribute [local go_sem] getO putE_same putE_ne putE_none un0_at ini_zero ini_one ini_two ini_three ne_eq not_false_eq_true Nat.zero_ne_one Nat.one_ne_zero zero_ne_succ succ_ne_zero sym_nil sym_cons symG_call symG_op symG_skip IOp.isCall gd st_mv st_pick st_new st_box st_build st_lit st_load st_store st_faddr st_fld st_iaddrS st_iaddrA st_idxs st_bin st_beq st_neg st_not st_conv st_slcS st_slcL st_make st_app st_lenS st_lenL st_mx st_mn st_ext st_nilck st_bstr byD pureC loadC setH hv boundO D.cells D.one D.boxable fillD putD rowD binC intBinC decT decF dec_true dec_false bne_self_eq_false beq_self_eq_true beq_true_false beq_false_true bne_iff_ne List.length_nil List.length_cons List.getD_cons_zero List.getD_cons_succ List.set_cons_zero List.set_cons_succ List.all_cons List.all_nil Bool.and_true Bool.true_and Nat.lt_irrefl Nat.sub_self Nat.zero_add Nat.add_zero Nat.mul_one Nat.lt_add_one if_true if_false List.replicate_zero List.nil_append List.cons_append List.append_nil List.map_cons List.map_nil Bool.false_eq_true or_self or_true true_or or_false false_or true_and and_true and_self Int.ofNat_zero wrap_i64 wrap_u32 wrap_u64 wrap_u8 wrap_u32_mod wrap_u64_mod Nat.zero_lt_one Int.toNat_natCast Int.sub_zero toNat_pred List.take_succ_cons List.take_zero List.drop_succ_cons List.drop_zero List.take_nil List.drop_nil Nat.le_refl List.length_singleton rvDs rvD ldD one? Option.bind_some Option.map_some resD_int resD_bool resD_str resD_sl resD_rp resD_nils resD_null resD_agg resD_tup resD_own rdOwn resD_ptr rdPtr rd_ite resL_eq go_nil go_cons D.imm resArgs shr32 shl32 Nat.zero_mul Bool.and_self Bool.and_false Bool.false_and strBin_eql strBin_neq Bool.not_true Bool.not_false i64max List.length_reverse List.length_set SS_length SS_getD SS_set SS_take SS_drop SS_imm SS_one SS_app1 W_get1 W_len1 W_getD W_set W_take W_drop W_app W_length W_imm W_one W_repl N mx_nat toNat_succ toNat_add toNat_pred2 tdiv_nn tmod_nn List.take_of_length_le cast_succ and_one or_shl32 min64 shr32b shl32b IntKind.bits
attribute [local go_sem] V_getD V_set V_take V_drop V_imm V_one V_app V_app1 V_repl V_get1 V_length M List.length_append
attribute [local go_sem] nl ZD MZ
variable {G : World → Prop} {L L' X Y : Nat} {x y z : Int}
theorem MZ_sg (b : Bool) (X : Nat) : MZ (sg b X) = .agg [.bool (b && decide (X ≠ 0)), M X] := by rw [MZ, sg_neg, sg_abs]
theorem pcr_zof (hG : Stable G) (b : Bool) (X : Nat) : PCr Tryz.prog G 73 [.bool b, M X] (MZ (sg b X)) := by
  rw [MZ_sg]
  cases b
  · refine pcr_byq ok73 hG (n := 13) (rv := [.cell 4 true 2]) fun r hr => ?_; unfold c73 st0
    refine xctl ?_
    refine xrg ?_
    refine xctl ?_
    refine xrg ?_
    refine xctl ?_
    refine xrt ?_
    rw [hr]; rfl
  · by_cases h : X = 0
    · subst h
      have e := wd4_zero
      refine pcr_byq ok73 hG (n := 13) (rv := [.cell 4 true 2]) fun r hr => ?_; unfold c73 st0
      refine xctl ?_
      refine xrg ?_
      refine xctl ?_
      refine ops_sym (by simp (disch := omega) only [go_sem, Nat.reduceEqDiff, Nat.reduceAdd, Nat.reduceLT, Nat.reduceMul, Nat.reduceLeDiff, reduceCtorEq, Int.reduceNeg, Int.reduceToNat, e]; rfl) (by first | with_reducible exact True.intro | omega) ?_
      refine xctl ?_
      refine xrt ?_
      rw [hr, M, wd_zero]; rfl
    · have hp := wd4_pos h
      rw [decide_eq_true h]
      refine pcr_byq ok73 hG (n := 13) (rv := [.cell 4 true 2]) fun r hr => ?_; unfold c73 st0
      refine xctl ?_
      refine xrg ?_
      refine xctl ?_
      refine xrg ?_
      refine xctl ?_
      refine xrt ?_
      rw [hr]; rfl
theorem pcr_zint (hG : Stable G) (n : Int) (h0 : -9223372036854775808 ≤ n) (h1 : n ≤ 9223372036854775807) : PCr Tryz.prog G 91 [.int .i64 n] (MZ n) := by
  by_cases hn : n < 0
  · have hs := pcr_rsmall hG (n.natAbs - 1) (by omega)
    have e1 : ((n.natAbs - 1 : Nat) : Int) = 0 - (n + 1) := by omega
    rw [e1] at hs
    have hs1 := pcr_rsmall hG 1 (by omega)
    have hl := wd_length_le (B := 10000) (n := n.natAbs - 1) (k := 5) (by omega) (by omega)
    have hl1 := wd_length_le (B := 10000) (n := 1) (k := 1) (by omega) (by omega)
    have ha := pcr_radd hG (n.natAbs - 1) 1 (by omega) (by omega)
    rw [show n.natAbs - 1 + 1 = n.natAbs by omega] at ha
    refine pcr_byq ok91 hG (n := 17) (rv := [.cell 2 true 2]) fun r hr => ?_; unfold c91 st0
    refine xctl ?_
    refine xrg ?_
    refine xctl ?_
    refine xrg ?_
    refine xctl ?_
    refine xct ?_
    refine xctl ?_
    refine xrg ?_; (refine xca1 ?_; refine xca (hs) ?_)
    refine xrg ?_; (refine xca1 ?_; refine xca (hs1) ?_)
    refine xrg ?_; (refine xca1 ?_; refine xca (ha) ?_)
    refine xrg ?_
    refine xctl ?_
    refine xrt ?_
    rw [hr, MZ, show ng n = true from decide_eq_true hn]; rfl
  · have hs := pcr_rsmall hG n.natAbs (by omega)
    have e1 : (n.natAbs : Int) = n := by omega
    rw [e1] at hs
    refine pcr_byq ok91 hG (n := 17) (rv := [.cell 2 true 2]) fun r hr => ?_; unfold c91 st0
    refine xctl ?_
    refine xrg ?_
    refine xctl ?_
    refine xrg ?_
    refine xctl ?_
    refine xcF ?_
    refine xctl ?_
    refine xrg ?_; (refine xca1 ?_; refine xca (hs) ?_)
    refine xrg ?_
    refine xctl ?_
    refine xrt ?_
    rw [hr, MZ, show ng n = false from decide_eq_false hn]; rfl
theorem pcr_zneg (hG : Stable G) (x : Int) : PCr Tryz.prog G 149 [MZ x] (MZ (-x)) := by
  have h := pcr_zof hG (!(ng x)) x.natAbs
  rw [sg_not, sg_self] at h
  refine pcr_byq ok149 hG (n := 9) (rv := [.cell 2 true 2]) fun r hr => ?_; unfold c149 st0
  refine xctl ?_
  refine xrg ?_
  refine xctl ?_
  refine xrg ?_; (refine xca1 ?_; refine xca (h) ?_)
  refine xrg ?_
  refine xctl ?_
  refine xrt ?_
  exact hr.symm
theorem pcr_zmul (hG : Stable G) (hx : x.natAbs < 4294967296 ^ L) (hy : y.natAbs < 4294967296 ^ L') (h1 : L < 10000) (h2 : L' < 10000) : PCr Tryz.prog G 148 [MZ x, MZ y] (MZ (x * y)) := by
  have hl1 := wd4_len hx
  have hl2 := wd4_len hy
  have hm := pcr_rmul hG x.natAbs y.natAbs (by omega) (by omega)
  have ho := pcr_zof hG (!(ng x == ng y)) (x.natAbs * y.natAbs)
  have es : sg (!(ng x == ng y)) (x.natAbs * y.natAbs) = x * y := by
    have e1 := sg_self x
    have e2 := sg_self y
    generalize ng x = b at *
    generalize ng y = c at *
    have : ((x.natAbs * y.natAbs : Nat) : Int) = x.natAbs * y.natAbs := Int.natCast_mul _ _
    rw [← e1, ← e2, sg_abs, sg_abs]
    cases b <;> cases c <;> simp [sg, Int.mul_neg, Int.neg_mul]
  rw [es] at ho
  refine pcr_byq ok148 hG (n := 16) (rv := [.cell 4 true 2]) fun r hr => ?_; unfold c148 st0
  refine xctl ?_
  refine xrg ?_
  refine xctl ?_
  refine xrg ?_; (refine xca1 ?_; refine xca (hm) ?_)
  refine xrg ?_; (refine xca1 ?_; refine xca (ho) ?_)
  refine xrg ?_
  refine xctl ?_
  refine xdr ?_
  refine xctl ?_
  refine xrt ?_
  exact hr.symm
theorem cmpN_ge {X Y : Nat} : (0 ≤ cmpN X Y) ↔ Y ≤ X := by unfold cmpN; split <;> (try split) <;> omega
theorem pcr_zadd (hG : Stable G) (hx : x.natAbs < 4294967296 ^ L) (hy : y.natAbs < 4294967296 ^ L') (h1 : L < 10000) (h2 : L' < 10000) : PCr Tryz.prog G 90 [MZ x, MZ y] (MZ (x + y)) := by
  have hl1 := wd4_len hx
  have hl2 := wd4_len hy
  obtain ⟨b, X, hX⟩ : ∃ b X, b = ng x ∧ X = x.natAbs := ⟨_, _, rfl, rfl⟩
  obtain ⟨c, Y, hY⟩ : ∃ c Y, c = ng y ∧ Y = y.natAbs := ⟨_, _, rfl, rfl⟩
  have e1 : x = sg b X := by rw [hX.1, hX.2]; exact (sg_self x).symm
  have e2 : y = sg c Y := by rw [hY.1, hY.2]; exact (sg_self y).symm
  rw [MZ, MZ, ← hX.1, ← hX.2, ← hY.1, ← hY.2]
  rw [← hX.2] at hl1
  rw [← hY.2] at hl2
  by_cases hbc : b = c
  · subst hbc
    have ha := pcr_radd hG X Y (by omega) (by omega)
    have ho := pcr_zof hG b (X + Y)
    have es : sg b (X + Y) = x + y := by
      rw [e1, e2]
      cases b
      · simp [sg]
      · simp [sg]; omega
    rw [es] at ho
    refine pcr_byq ok90 hG (n := 40) (rv := [.cell 4 true 2]) fun r hr => ?_; unfold c90 st0
    refine xctl ?_
    refine xrg ?_
    refine xctl ?_
    refine xrg ?_
    refine xctl ?_
    refine xct ?_
    refine xctl ?_
    refine xrg ?_; (refine xca1 ?_; refine xca (ha) ?_)
    refine xrg ?_; (refine xca1 ?_; refine xca (ho) ?_)
    refine xrg ?_
    refine xctl ?_
    refine xdr ?_
    refine xctl ?_
    refine xrt ?_
    exact hr.symm
  · have hb : (b == c) = false := by simpa using hbc
    have hc := pcr_rcmp hG X Y (by omega) (by omega)
    by_cases hle : Y ≤ X
    · have hs := pcr_rsub hG X Y hle (by omega)
      have ho := pcr_zof hG b (X - Y)
      have es : sg b (X - Y) = x + y := by
        rw [e1, e2]
        cases b <;> cases c <;> simp [sg] at * <;> omega
      rw [es] at ho
      have hge := cmpN_ge.2 hle
      refine pcr_byq ok90 hG (n := 40) (rv := [.cell 4 true 2]) fun r hr => ?_; unfold c90 st0
      refine xctl ?_
      refine xrg ?_
      refine xctl ?_
      refine xrg ?_
      refine xctl ?_
      refine xcF ?_ (by simp only [go_sem, Nat.reduceEqDiff, Nat.reduceAdd, Nat.reduceLT, Nat.reduceMul, Nat.reduceLeDiff, reduceCtorEq, Int.reduceNeg, Int.reduceToNat]; rw [hb])
      refine xctl ?_
      refine xrg ?_; (refine xcf1 ?_; refine xcf (hc) rfl ?_)
      refine xrg ?_
      refine xctl ?_
      refine xct ?_
      refine xctl ?_
      refine xrg ?_; (refine xca1 ?_; refine xca (hs) ?_)
      refine xrg ?_; (refine xca1 ?_; refine xca (ho) ?_)
      refine xrg ?_
      refine xctl ?_
      refine xdr ?_
      refine xctl ?_
      refine xrt ?_
      exact hr.symm
    · have hs := pcr_rsub hG Y X (by omega) (by omega)
      have ho := pcr_zof hG c (Y - X)
      have es : sg c (Y - X) = x + y := by
        rw [e1, e2]
        cases b <;> cases c <;> simp [sg] at * <;> omega
      rw [es] at ho
      have hge : ¬ 0 ≤ cmpN X Y := fun h => hle (cmpN_ge.1 h)
      refine pcr_byq ok90 hG (n := 40) (rv := [.cell 4 true 2]) fun r hr => ?_; unfold c90 st0
      refine xctl ?_
      refine xrg ?_
      refine xctl ?_
      refine xrg ?_
      refine xctl ?_
      refine xcF ?_ (by simp only [go_sem, Nat.reduceEqDiff, Nat.reduceAdd, Nat.reduceLT, Nat.reduceMul, Nat.reduceLeDiff, reduceCtorEq, Int.reduceNeg, Int.reduceToNat]; rw [hb])
      refine xctl ?_
      refine xrg ?_; (refine xcf1 ?_; refine xcf (hc) rfl ?_)
      refine xrg ?_
      refine xctl ?_
      refine xcF ?_
      refine xctl ?_
      refine xrg ?_; (refine xca1 ?_; refine xca (hs) ?_)
      refine xrg ?_; (refine xca1 ?_; refine xca (ho) ?_)
      refine xrg ?_
      refine xctl ?_
      refine xdr ?_
      refine xctl ?_
      refine xrt ?_
      exact hr.symm
theorem pcr_zsign (hG : Stable G) (x : Int) : PCr Tryz.prog G 151 [MZ x] (.int .i64 x.sign) := by
  rcases Int.lt_trichotomy x 0 with h | h | h
  · rw [MZ, show ng x = true from decide_eq_true h, Int.sign_eq_neg_one_of_neg h]
    refine pcr_byq ok151 hG (n := 9) (rv := [.tmp 2]) fun r hr => ?_; unfold c151 st0
    refine xctl ?_
    refine xrg ?_
    refine xctl ?_
    refine xrg ?_
    refine xctl ?_
    refine xct ?_
    refine xctl ?_
    refine xrg ?_
    refine xctl ?_
    refine xrt ?_
    exact hr.symm
  · subst h
    have e := wd4_zero
    rw [MZ, show ng 0 = false from rfl]
    refine pcr_byq ok151 hG (n := 9) (rv := [.tmp 2]) fun r hr => ?_; unfold c151 st0
    refine xctl ?_
    refine xrg ?_
    refine xctl ?_
    refine xrg ?_
    refine xctl ?_
    refine xcF ?_
    refine xctl ?_
    refine ops_sym (by simp (disch := omega) only [go_sem, Nat.reduceEqDiff, Nat.reduceAdd, Nat.reduceLT, Nat.reduceMul, Nat.reduceLeDiff, reduceCtorEq, Int.reduceNeg, Int.reduceToNat, e, Int.natAbs_zero]; rfl) (by first | with_reducible exact True.intro | omega) ?_
    refine xctl ?_
    refine xcF ?_
    refine xctl ?_
    refine xrg ?_
    refine xctl ?_
    refine xrt ?_
    exact hr.symm
  · have hp := wd4_pos (X := x.natAbs) (by omega)
    rw [MZ, show ng x = false from decide_eq_false (by omega), Int.sign_eq_one_of_pos h]
    refine pcr_byq ok151 hG (n := 9) (rv := [.tmp 2]) fun r hr => ?_; unfold c151 st0
    refine xctl ?_
    refine xrg ?_
    refine xctl ?_
    refine xrg ?_
    refine xctl ?_
    refine xcF ?_
    refine xctl ?_
    refine xrg ?_
    refine xctl ?_
    refine xct ?_
    refine xctl ?_
    refine xrg ?_
    refine xctl ?_
    refine xrt ?_
    exact hr.symm
theorem abs_add_lt (hx : x.natAbs < 4294967296 ^ L) (hy : y.natAbs < 4294967296 ^ L') : (x + y).natAbs < 4294967296 ^ (max L L' + 1) := (zm_add (zm_ZD hx) (zm_ZD hy)).lt
theorem bool_ne (b c : Bool) (h : ¬ (b = true ∧ c = true)) : b = false ∨ c = false := by cases b <;> cases c <;> simp_all
theorem MZ_nat (X : Nat) : MZ (sg false X) = .agg [.bool false, M X] := by rw [MZ_sg]; rfl
set_option maxHeartbeats 2000000 in
theorem pcr_zdiv (hG : Stable G) (hx : x.natAbs < 4294967296 ^ L) (hy : y.natAbs < 4294967296 ^ L') (h1 : L < 9000) (h2 : L' < 9000) (h0 : y ≠ 0) : PCr Tryz.prog G 145 [MZ x, MZ y] (.tup [MZ (x / y), MZ (x % y)]) := by
  have hl1 := wd4_len hx
  have hl2 := wd4_len hy
  obtain ⟨b, X, hX⟩ : ∃ b X, b = ng x ∧ X = x.natAbs := ⟨_, _, rfl, rfl⟩
  obtain ⟨c, Y, hY⟩ : ∃ c Y, c = ng y ∧ Y = y.natAbs := ⟨_, _, rfl, rfl⟩
  have e1 : x = sg b X := by rw [hX.1, hX.2]; exact (sg_self x).symm
  have e2 : y = sg c Y := by rw [hY.1, hY.2]; exact (sg_self y).symm
  rw [MZ, MZ, ← hX.1, ← hX.2, ← hY.1, ← hY.2]
  rw [← hX.2] at hl1
  rw [← hY.2] at hl2
  have hY0 : Y ≠ 0 := by omega
  have hd := pcr_rdiv hG X Y hY0 (by omega) (by omega)
  have hml := Nat.mod_lt X (show Y > 0 by omega)
  have hql := wd4_mono (Nat.div_le_self X Y)
  rw [e1, e2]
  clear e1 e2
  by_cases hc : b = true ∧ X % Y ≠ 0
  · obtain ⟨rfl, hm⟩ := hc
    obtain ⟨d1, d2⟩ := div_sg1 (c := c) (X := X) hY0 hm
    rw [d1, d2, MZ_nat]
    have hp := wd4_pos hm
    have hs1 := pcr_rsmall hG 1 (by omega)
    have hl3 := wd_length_le (B := 10000) (n := 1) (k := 1) (by omega) (by omega)
    have ha := pcr_radd hG (X / Y) 1 (by omega) (by omega)
    have hs := pcr_rsub hG Y (X % Y) (by omega) (by omega)
    have ho := pcr_zof hG (!(true == c)) (X / Y + 1)
    refine pcr_byq ok145 hG (n := 39) (rv := [.cell 4 true 2, .cell 5 true 2]) fun r hr => ?_; unfold c145 st0
    refine xctl ?_
    refine xrg ?_
    refine xctl ?_
    refine xrg ?_; (refine xca1 ?_; refine xca (hd) ?_)
    refine xrg ?_
    refine xctl ?_
    refine xrg ?_
    refine xctl ?_
    refine xct ?_
    refine xctl ?_
    refine xrg ?_; (refine xca1 ?_; refine xca (hs1) ?_)
    refine xrg ?_; (refine xca1 ?_; refine xca (ha) ?_)
    refine xrg ?_; (refine xca1 ?_; refine xca (hs) ?_)
    refine xrg ?_
    refine xctl ?_
    refine xdr ?_
    refine xctl ?_
    refine xrg ?_; (refine xca1 ?_; refine xca (ho) ?_)
    refine xrg ?_
    refine xctl ?_
    refine xrt ?_
    exact hr.symm
  · obtain ⟨d1, d2⟩ := div_sg0 (b := b) (c := c) (X := X) hY0 hc
    rw [d1, d2, MZ_nat]
    have ho := pcr_zof hG (!(b == c)) (X / Y)
    cases b
    · refine pcr_byq ok145 hG (n := 39) (rv := [.cell 4 true 2, .cell 5 true 2]) fun r hr => ?_; unfold c145 st0
      refine xctl ?_
      refine xrg ?_
      refine xctl ?_
      refine xrg ?_; (refine xca1 ?_; refine xca (hd) ?_)
      refine xrg ?_
      refine xctl ?_
      refine xrg ?_
      refine xctl ?_
      refine xcF ?_
      refine xctl ?_
      refine xrg ?_; (refine xca1 ?_; refine xca (ho) ?_)
      refine xrg ?_
      refine xctl ?_
      refine xrt ?_
      exact hr.symm
    · have hm : X % Y = 0 := Classical.byContradiction fun h => hc ⟨rfl, h⟩
      have hz : (wd 10000 (X % Y)).length = 0 := by rw [hm, wd_zero]; rfl
      refine pcr_byq ok145 hG (n := 39) (rv := [.cell 4 true 2, .cell 5 true 2]) fun r hr => ?_; unfold c145 st0
      refine xctl ?_
      refine xrg ?_
      refine xctl ?_
      refine xrg ?_; (refine xca1 ?_; refine xca (hd) ?_)
      refine xrg ?_
      refine xctl ?_
      refine xrg ?_
      refine xctl ?_
      refine xcF ?_
      refine xctl ?_
      refine xrg ?_; (refine xca1 ?_; refine xca (ho) ?_)
      refine xrg ?_
      refine xctl ?_
      refine xrt ?_
      exact hr.symm
def mR : Option Int → D
  | some z => .tup [MZ z, .bool true]
  | none => .tup [MZ 0, .bool false]
theorem pcr_rparse1 (hG : Stable G) (s : ByteArray) (hs : s.size < 300000) (h : s.data.toList ≠ [] ∧ s.data.toList.all isD = true) : PCr Tryz.prog G 121 [.str s] (.tup [M (decV s.data.toList), .bool true]) := by
  have h1 := pcr_rparse hG s hs h.2
  rwa [decide_eq_true (show s.size ≠ 0 from fun e => h.1 (List.eq_nil_of_length_eq_zero (by rw [ba_len]; exact e)))] at h1
theorem pcr_rparse0 (hG : Stable G) (s : ByteArray) (hs : s.size < 300000) (h : ¬ (s.data.toList ≠ [] ∧ s.data.toList.all isD = true)) : PCr Tryz.prog G 121 [.str s] (.tup [M 0, .bool false]) := by
  cases h1 : allD s with
  | false => exact pcr_rparse_not hG s hs h1
  | true =>
    have h0 : s.size = 0 := Classical.byContradiction fun e => h ⟨fun e1 => e (by rw [← ba_len, e1]; rfl), h1⟩
    have h2 := pcr_rparse hG s hs h1
    rwa [ba_nil h0, show decV (⟨#[]⟩ : ByteArray).data.toList = 0 from rfl, show decide ((⟨#[]⟩ : ByteArray).size ≠ 0) = false from rfl, ← ba_nil h0] at h2
end Go.Proofs.YtapikjmijmebpaaGreatDoorK.RefT
