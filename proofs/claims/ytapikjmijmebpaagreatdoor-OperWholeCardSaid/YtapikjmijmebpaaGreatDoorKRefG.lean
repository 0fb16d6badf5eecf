/-
  The document's Gcd, digits, Text: what they compute.
-/
import Derived.Test.YtapikjmijmebpaaGreatDoorKIrRef
import Derived.Test.YtapikjmijmebpaaGreatDoorKRefF
import Derived.Test.YtapikjmijmebpaaGreatDoorKRefE
import Derived.Test.YtapikjmijmebpaaGreatDoorKNd
set_option linter.all false
set_option linter.unusedVariables false
set_option linter.unusedSimpArgs false
set_option maxHeartbeats 4000000
namespace Go.Proofs.YtapikjmijmebpaaGreatDoorK.RefT
open Go.Proofs.YtapikjmijmebpaaGreatDoorK.AI Go.Proofs.YtapikjmijmebpaaGreatDoorK.NatIr Go.Proofs.YtapikjmijmebpaaGreatDoorK.Dig Go.Proofs.YtapikjmijmebpaaGreatDoorK.NatT
set_option linter.unusedSimpArgs false
attribute [local irreducible] awp awpOps
attribute [local go_sem] getO putE_same putE_ne putE_none un0_at ini_zero ini_one ini_two ini_three ne_eq not_false_eq_true Nat.zero_ne_one Nat.one_ne_zero zero_ne_succ succ_ne_zero sym_nil sym_cons symG_call symG_op symG_skip IOp.isCall gd st_mv st_pick st_new st_box st_build st_lit st_load st_store st_faddr st_fld st_iaddrS st_iaddrA st_idxs st_bin st_beq st_neg st_not st_conv st_slcS st_slcL st_make st_app st_lenS st_lenL st_mx st_mn st_ext st_nilck st_bstr byD pureC loadC setH hv boundO D.cells D.one D.boxable fillD putD rowD binC intBinC decT decF dec_true dec_false bne_self_eq_false beq_self_eq_true beq_true_false beq_false_true bne_iff_ne List.length_nil List.length_cons List.getD_cons_zero List.getD_cons_succ List.set_cons_zero List.set_cons_succ List.all_cons List.all_nil Bool.and_true Bool.true_and Nat.lt_irrefl Nat.sub_self Nat.zero_add Nat.add_zero Nat.mul_one Nat.lt_add_one if_true if_false List.replicate_zero List.nil_append List.cons_append List.append_nil List.map_cons List.map_nil Bool.false_eq_true or_self or_true true_or or_false false_or true_and and_true and_self Int.ofNat_zero wrap_i64 wrap_u32 wrap_u64 wrap_u8 wrap_u32_mod wrap_u64_mod Nat.zero_lt_one Int.toNat_natCast Int.sub_zero toNat_pred List.take_succ_cons List.take_zero List.drop_succ_cons List.drop_zero List.take_nil List.drop_nil Nat.le_refl List.length_singleton rvDs rvD ldD one? Option.bind_some Option.map_some resD_int resD_bool resD_str resD_sl resD_rp resD_nils resD_null resD_agg resD_tup resD_own rdOwn resD_ptr rdPtr rd_ite resL_eq go_nil go_cons D.imm resArgs shr32 shl32 Nat.zero_mul Bool.and_self Bool.and_false Bool.false_and strBin_eql strBin_neq Bool.not_true Bool.not_false i64max List.length_reverse List.length_set SS_length SS_getD SS_set SS_take SS_drop SS_imm SS_one SS_app1 W_get1 W_len1 W_getD W_set W_take W_drop W_app W_length W_imm W_one W_repl N mx_nat toNat_succ toNat_add toNat_pred2 tdiv_nn tmod_nn List.take_of_length_le cast_succ and_one or_shl32 min64 shr32b shl32b IntKind.bits
attribute [local go_sem] V_getD V_set V_take V_drop V_imm V_one V_app V_app1 V_repl V_get1 V_length M List.length_append
variable {G : World → Prop}
theorem wd4_le {X Y : Nat} (h : Y ≤ X) {L : Nat} (hX : (wd 10000 X).length < L) : (wd 10000 Y).length < L := Nat.lt_of_le_of_lt (wd4_mono h) hX
theorem wd4_pos {X : Nat} (h : X ≠ 0) : 0 < (wd 10000 X).length := by
  rcases Nat.eq_zero_or_pos (wd 10000 X).length with h1 | h1
  · exact absurd ((wd_eq_nil (by omega)).1 (List.eq_nil_of_length_eq_zero h1)) h
  · exact h1
theorem wd4_zero : (wd 10000 0).length = 0 := by rw [wd_zero]; rfl
set_option maxHeartbeats 2000000 in
theorem pcr_rgcd (hG : Stable G) (X Y : Nat) (hX : (wd 10000 X).length < 30000) (hY : (wd 10000 Y).length < 30000) : PCr Tryz.prog G 135 [M X, M Y] (M (Nat.gcd X Y)) := by
  refine pcr_by hG (fn := Tryz.f135) (n := 19) (rv := [.tmp 4]) (by kernel_rfl) ok135 (by kernel_rfl) (by decide) (by kernel_rfl) (by simp) (by kernel_rfl) (fun r hr => ?_); unfold c135 st0
  refine xctl ?_
  refine xrg ?_
  refine xctl ?_
  refine awp_loop (fun k σ => ∃ x y : Nat, k = y ∧ Nat.gcd x y = Nat.gcd X Y ∧ (wd 10000 x).length < 30000 ∧ (wd 10000 y).length < 30000 ∧
      σ = ⟨(putE (putE un0 (some 0) (.sl (wd 10000 x).length (V (wd 10000 x)))) (some 1) (.sl (wd 10000 y).length (V (wd 10000 y)))), []⟩) Y (Ent.env (less_put (less_put (less_un0 _) ?_) ?_)) ⟨X, Y, rfl, rfl, hX, hY, rfl⟩ ?_
  iterate 2 (· exact xlq)
  rintro y σ1 ⟨x, _, rfl, hg, hx, hy, rfl⟩
  by_cases h0 : y = 0
  · subst h0
    have e : (wd 10000 0).length = 0 := by rw [wd_zero]; rfl
    refine xctl ?_
    refine ops_sym (by simp (disch := omega) only [go_sem, Nat.reduceEqDiff, Nat.reduceAdd, Nat.reduceLT, Nat.reduceMul, Nat.reduceLeDiff, reduceCtorEq, Int.reduceNeg, Int.reduceToNat, e]; rfl) (by first | with_reducible exact True.intro | omega) ?_
    refine xctl ?_
    refine xcF ?_
    refine xctl ?_
    refine xrg ?_
    refine xctl ?_
    refine xrt ?_
    rw [hr, ← hg, Nat.gcd_zero_right]; rfl
  · have hp : (wd 10000 y).length ≠ 0 := fun e => h0 ((wd_eq_nil (by omega)).1 (List.eq_nil_of_length_eq_zero e))
    have hd := pcr_rdiv hG x y h0 hx hy
    have hm := Nat.mod_lt x (show y > 0 by omega)
    refine xctl ?_
    refine xrg ?_
    refine xctl ?_
    refine xct ?_
    refine xctl ?_
    refine xrg ?_; (refine xca1 ?_; refine xca (hd) ?_)
    refine xrg ?_
    refine xctl ?_
    refine xrg ?_
    refine xctl ?_
    refine ⟨x % y, _, hm, Ent.env (less_put (less_put (less_un0 _) ?_) ?_), y, x % y, rfl, by rw [Nat.gcd_comm, ← Nat.gcd_rec, Nat.gcd_comm]; exact hg, hy, wd4_le (Nat.le_of_lt hm) hy, rfl⟩
    iterate 2 (· exact xlq)
theorem dec_lt (n : Nat) : n < 10 ^ (Lib.decDigits n).length := by
  have h := decV_lt (Lib.decDigits n) (dec_isD n)
  rwa [dec_val] at h
theorem dec_gt {n j : Nat} (h : 10 ^ j ≤ n) : j < (Lib.decDigits n).length := by
  rcases Nat.lt_or_ge j (Lib.decDigits n).length with h1 | h1
  · exact h1
  · have h2 := dec_lt n
    have h3 : 10 ^ (Lib.decDigits n).length ≤ 10 ^ j := Nat.pow_le_pow_right (by omega) h1
    omega
/-- How many digits the document tells at least. -/
def nd (least n : Nat) : Nat := max least (Lib.decDigits n).length
theorem dg_next (j n : Nat) : dg (j + 1) n = UInt8.ofNat (48 + n / 10 ^ j % 10) :: dg j n := by
  induction j generalizing n with
  | zero => simp [dg]
  | succ j ih =>
    rw [dg, ih (n / 10), Nat.div_div_eq_div_mul, ← Nat.pow_succ', List.cons_append]
    rw [show dg j (n / 10) ++ [UInt8.ofNat (48 + n % 10)] = dg (j + 1) n from rfl]
theorem dg_self {n : Nat} (h : n ≠ 0) : dg (nd 1 n) n = Lib.decDigits n := by
  have hp := dec_pos n
  rw [nd, Nat.max_eq_right hp]
  have := dg_dec (Lib.decDigits n).length n hp (dec_lt n)
  rw [this.2, Nat.sub_self]; rfl
theorem div10 (n j : Nat) : n / 10 ^ j / 10 = n / 10 ^ (j + 1) := by rw [Nat.div_div_eq_div_mul, Nat.pow_succ]
theorem nd_le {least n : Nat} (h1 : least ≤ 4) (h2 : n < 10000) : nd least n ≤ 4 := by
  have := dec_len (u := n) (k := 4) (by omega) (by omega)
  unfold nd; omega
set_option maxHeartbeats 2000000 in
theorem pcr_rdigits (hG : Stable G) (n least : Nat) (hn : n < 10000) (hl1 : 1 ≤ least) (hl2 : least ≤ 4) : PCr Tryz.prog G 146 [.int .i64 n, .int .i64 least] (.str ⟨(dg (nd least n) n).toArray⟩) := by
  have hnd := nd_le hl2 hn
  refine pcr_by hG (fn := Tryz.f146) (n := 25) (rv := [.tmp 4]) (by kernel_rfl) ok146 (by kernel_rfl) (by decide) (by kernel_rfl) (by simp) (by kernel_rfl) (fun r hr => ?_); unfold c146 st0
  refine xctl ?_
  refine xrg ?_
  refine xctl ?_
  refine xrg ?_
  refine xctl ?_
  refine awp_loop (fun k σ => ∃ j : Nat, j ≤ nd least n ∧ k = nd least n - j ∧ σ = ⟨(putE (putE (putE un0 (some 0) (.int .i64 ((n / 10 ^ j : Nat) : Int))) (some 1) (.int .i64 least)) (some 5) (.str ⟨(dg j n).toArray⟩)), []⟩) (nd least n)
    (Ent.env (less_put (less_put (less_put (less_un0 _) ?_) ?_) ?_)) ⟨0, Nat.zero_le _, rfl, rfl⟩ ?_
  · show _ = D.int .i64 ((n / 10 ^ 0 : Nat) : Int)
    rw [Nat.pow_zero, Nat.div_one]
    exact xlq
  iterate 1 (· exact xlq)
  · show _ = D.str ⟨#[]⟩
    exact xlq
  rintro k σ1 ⟨j, hj, rfl, rfl⟩
  have hsz : (⟨(dg j n).toArray⟩ : ByteArray).size = j := by rw [ba_size, dg_length]
  have hsz2 : (dg j n).toArray.size = j := by simp [dg_length]
  have hm1 : n / 10 ^ j ≤ n := Nat.div_le_self _ _
  have hd10 := div10 n j
  have hnx := dg_next j n
  have hgt : 0 < n / 10 ^ j → j < nd least n := fun h => by
    have h1 : 10 ^ j ≤ n := by
      rcases Nat.lt_or_ge n (10 ^ j) with h2 | h2
      · rw [Nat.div_eq_of_lt h2] at h; omega
      · exact h2
    have := dec_gt h1
    unfold nd; omega
  have hlt : j < least → j < nd least n := fun h => by unfold nd; omega
  have hend : n / 10 ^ j = 0 → ¬ j < least → j = nd least n := fun h h1 => by
    have h2 : n < 10 ^ j := by
      rcases Nat.lt_or_ge n (10 ^ j) with h3 | h3
      · exact h3
      · have := Nat.div_pos h3 (Nat.pow_pos (by omega)); omega
    have := dec_len h2 (by omega)
    have : nd least n ≤ j := by unfold nd; omega
    omega
  generalize hm : n / 10 ^ j = m at *
  have fin : ∀ l : List UInt8, (⟨#[UInt8.ofNat (48 + m % 10)]⟩ : ByteArray) ++ ⟨l.toArray⟩ = ⟨(UInt8.ofNat (48 + m % 10) :: l).toArray⟩ := fun l => ba_ext (by simp [ByteArray.data_append])
  have em : (48 + (m : Int) % 10).toNat = 48 + m % 10 := by omega
  have hs1 : (Array.mk [UInt8.ofNat (48 + m % 10)]).size = 1 := rfl
  have hs2 : (#[UInt8.ofNat (48 + m % 10)]).size = 1 := rfl
  by_cases h1 : 0 < m
  · have hjn := hgt h1
    refine xctl ?_
    refine xrg ?_
    refine xctl ?_
    refine xct ?_
    refine xctl ?_
    refine ops_sym (by simp (disch := omega) only [go_sem, Nat.reduceEqDiff, Nat.reduceAdd, Nat.reduceLT, Nat.reduceMul, Nat.reduceLeDiff, reduceCtorEq, Int.reduceNeg, Int.reduceToNat, em]; rfl) (by first | with_reducible exact True.intro | omega) ?_
    refine xctl ?_
    refine xrg ?_
    refine xctl ?_
    refine ⟨nd least n - (j + 1), _, by omega, (Ent.cutk 0 (less_put (less_put (less_put (less_un0 _) ?_) ?_) ?_) (by exact trivial) (kb_put (kb_put (kb_put (kb_un0 _) (by simp [kb])) (by simp [kb])) (by simp [kb])) (by simp [kbH, kb.kbs, kb, kbs_W, kbs_SS, kbs_V])), j + 1, by omega, rfl, rfl⟩
    · simp only [go_sem, Nat.reduceEqDiff, Nat.reduceAdd, Nat.reduceLT, Nat.reduceMul, Nat.reduceLeDiff, reduceCtorEq, Int.reduceNeg, Int.reduceToNat]
      rw [← hd10]; exact congrArg (D.int .i64) (by omega)
    · simp only [go_sem, Nat.reduceEqDiff, Nat.reduceAdd, Nat.reduceLT, Nat.reduceMul, Nat.reduceLeDiff, reduceCtorEq, Int.reduceNeg, Int.reduceToNat]
    · simp only [go_sem, Nat.reduceEqDiff, Nat.reduceAdd, Nat.reduceLT, Nat.reduceMul, Nat.reduceLeDiff, reduceCtorEq, Int.reduceNeg, Int.reduceToNat]
      rw [hnx]; exact congrArg D.str (fin _)
  · have hm0 : m = 0 := by omega
    by_cases h2 : j < least
    · have hjn := hlt h2
      refine xctl ?_
      refine ops_sym (by simp (disch := omega) only [go_sem, Nat.reduceEqDiff, Nat.reduceAdd, Nat.reduceLT, Nat.reduceMul, Nat.reduceLeDiff, reduceCtorEq, Int.reduceNeg, Int.reduceToNat, hsz, hsz2]; rfl) (by first | with_reducible exact True.intro | omega) ?_
      refine xctl ?_
      refine xct ?_
      refine xctl ?_
      refine ops_sym (by simp (disch := omega) only [go_sem, Nat.reduceEqDiff, Nat.reduceAdd, Nat.reduceLT, Nat.reduceMul, Nat.reduceLeDiff, reduceCtorEq, Int.reduceNeg, Int.reduceToNat, em]; rfl) (by first | with_reducible exact True.intro | omega) ?_
      refine xctl ?_
      refine xrg ?_
      refine xctl ?_
      refine ⟨nd least n - (j + 1), _, by omega, (Ent.cutk 0 (less_put (less_put (less_put (less_un0 _) ?_) ?_) ?_) (by exact trivial) (kb_put (kb_put (kb_put (kb_un0 _) (by simp [kb])) (by simp [kb])) (by simp [kb])) (by simp [kbH, kb.kbs, kb, kbs_W, kbs_SS, kbs_V])), j + 1, by omega, rfl, rfl⟩
      · simp only [go_sem, Nat.reduceEqDiff, Nat.reduceAdd, Nat.reduceLT, Nat.reduceMul, Nat.reduceLeDiff, reduceCtorEq, Int.reduceNeg, Int.reduceToNat]
        rw [← hd10]; exact congrArg (D.int .i64) (by omega)
      · simp only [go_sem, Nat.reduceEqDiff, Nat.reduceAdd, Nat.reduceLT, Nat.reduceMul, Nat.reduceLeDiff, reduceCtorEq, Int.reduceNeg, Int.reduceToNat]
      · simp only [go_sem, Nat.reduceEqDiff, Nat.reduceAdd, Nat.reduceLT, Nat.reduceMul, Nat.reduceLeDiff, reduceCtorEq, Int.reduceNeg, Int.reduceToNat]
        rw [hnx]; exact congrArg D.str (fin _)
    · have hjn := hend hm0 h2
      refine xctl ?_
      refine ops_sym (by simp (disch := omega) only [go_sem, Nat.reduceEqDiff, Nat.reduceAdd, Nat.reduceLT, Nat.reduceMul, Nat.reduceLeDiff, reduceCtorEq, Int.reduceNeg, Int.reduceToNat, hsz, hsz2]; rfl) (by first | with_reducible exact True.intro | omega) ?_
      refine xctl ?_
      refine xcF ?_
      refine xctl ?_
      refine xrg ?_
      refine xctl ?_
      refine xrt ?_
      rw [hr, hjn]
theorem text_next {V d i : Nat} (hV : V ≠ 0) (hd : d < 10000) : Lib.decDigits (d + 10000 * V) = Lib.decDigits V ++ dg (nd 4 d) d := by
  have h1 := dec_add 4 V d (by omega) (by omega)
  have h2 := dec_len (u := d) (k := 4) (by omega) (by omega)
  rw [nd, Nat.max_eq_left h2, ← h1, show V * 10 ^ 4 + d = d + 10000 * V by omega]
set_option maxHeartbeats 4000000 in
theorem pcr_rtext (hG : Stable G) (X : Nat) (hX : (wd 10000 X).length < 30000) : PCr Tryz.prog G 89 [M X] (.str ⟨(Lib.decDigits X).toArray⟩) := by
  have ha := ok_wd (B := 10000) (by omega) X
  have hva := vl_wd (B := 10000) (by omega) X
  by_cases h0 : X = 0
  · subst h0
    have e : (wd 10000 0).length = 0 := by rw [wd_zero]; rfl
    refine pcr_by hG (fn := Tryz.f89) (n := 30) (rv := [.tmp 2]) (by kernel_rfl) ok89 (by kernel_rfl) (by decide) (by kernel_rfl) (by simp) (by kernel_rfl) (fun r hr => ?_); unfold c89 st0
    refine xctl ?_
    refine xrg ?_
    refine xctl ?_
    refine ops_sym (by simp (disch := omega) only [go_sem, Nat.reduceEqDiff, Nat.reduceAdd, Nat.reduceLT, Nat.reduceMul, Nat.reduceLeDiff, reduceCtorEq, Int.reduceNeg, Int.reduceToNat, e]; rfl) (by first | with_reducible exact True.intro | omega) ?_
    refine xctl ?_
    refine xct ?_
    refine xctl ?_
    refine xrg ?_
    refine xctl ?_
    refine xrt ?_
    rw [hr, dec_small (by omega)]; rfl
  · have hp : (wd 10000 X).length ≠ 0 := fun e => h0 ((wd_eq_nil (by omega)).1 (List.eq_nil_of_length_eq_zero e))
    have hlast := wd_last (B := 10000) (by omega) X
    rw [M]
    generalize wd 10000 X = a at *
    have hl1 := ok_get ha (by omega) (a.length - 1)
    have hl0 : a.getD (a.length - 1) 0 ≠ 0 := by
      have hne : a ≠ [] := fun e => hp (by rw [e]; rfl)
      have := getD_last hne
      exact hlast _ this
    obtain ⟨d, hd⟩ := Int.eq_ofNat_of_zero_le hl1.1
    have e1 : ((a.length : Int) - 1).toNat = a.length - 1 := by omega
    have hdig := pcr_rdigits hG d 1 (by omega) (by omega) (by omega)
    rw [dg_self (by omega)] at hdig
    have hdrop : vl 10000 (a.drop (a.length - 1)) = d := by
      rw [List.drop_eq_getElem_cons (by omega), List.drop_of_length_le (by omega), vl_cons, vl_nil]
      rw [List.getD_eq_getElem?_getD, List.getElem?_eq_getElem (by omega)] at hd
      simp only [Option.getD_some] at hd
      rw [hd]; simp
    refine pcr_by hG (fn := Tryz.f89) (n := 30) (rv := [.tmp 2]) (by kernel_rfl) ok89 (by kernel_rfl) (by decide) (by kernel_rfl) (by simp) (by kernel_rfl) (fun r hr => ?_); unfold c89 st0
    refine xctl ?_
    refine xrg ?_
    refine xctl ?_
    refine xrg ?_
    refine xctl ?_
    refine xcF ?_
    refine xctl ?_
    refine ops_sym (by simp (disch := omega) only [go_sem, Nat.reduceEqDiff, Nat.reduceAdd, Nat.reduceLT, Nat.reduceMul, Nat.reduceLeDiff, reduceCtorEq, Int.reduceNeg, Int.reduceToNat, e1, hd]; rfl) (by first | with_reducible exact True.intro | omega) ?_
    refine xca1 ?_; refine xca hdig ?_
    refine xrg ?_
    refine xctl ?_
    refine xrg ?_
    refine xctl ?_
    refine awp_loop (fun k σ => ∃ j : Nat, j + 1 ≤ a.length ∧ k = j ∧ σ = ⟨(putE (putE (putE un0 (some 0) (.sl a.length (V a))) (some 3) (.str ⟨(Lib.decDigits (vl 10000 (a.drop j))).toArray⟩)) (some 4) (.int .i64 ((j : Int) - 1))), []⟩) (a.length - 1)
      (Ent.env (less_put (less_put (less_put (less_un0 _) ?_) ?_) ?_)) ⟨a.length - 1, by omega, rfl, rfl⟩ ?_
    iterate 1 (· exact xlq)
    · show _ = D.str ⟨(Lib.decDigits (vl 10000 (a.drop (a.length - 1)))).toArray⟩
      rw [hdrop]
      exact xlq
    · simp only [go_sem, Nat.reduceEqDiff, Nat.reduceAdd, Nat.reduceLT, Nat.reduceMul, Nat.reduceLeDiff, reduceCtorEq, Int.reduceNeg, Int.reduceToNat]
      exact congrArg (D.int .i64) (by omega)
    rintro j σ1 ⟨_, hj, rfl, rfl⟩
    by_cases hj0 : j = 0
    · subst hj0
      refine xctl ?_
      refine xrg ?_
      refine xctl ?_
      refine xcF ?_
      refine xctl ?_
      refine xrg ?_
      refine xctl ?_
      refine xrt ?_
      rw [hr, hva]
    · obtain ⟨i, rfl⟩ : ∃ i, j = i + 1 := ⟨j - 1, by omega⟩
      have gi := ok_get ha (by omega) i
      obtain ⟨c, hc⟩ := Int.eq_ofNat_of_zero_le gi.1
      have e2 : (i : Int) + 1 - 1 = i := by omega
      have hdg := pcr_rdigits hG c 4 (by omega) (by omega) (by omega)
      have hV : vl 10000 (a.drop (i + 1)) ≠ 0 := by
        intro h
        have h1 : vl 10000 (a.drop (a.length - 1)) ≠ 0 := by rw [hdrop]; omega
        have h2 : a.drop (a.length - 1) = (a.drop (i + 1)).drop (a.length - 1 - (i + 1)) := by rw [List.drop_drop]; congr 1; omega
        have h3 := vl_take_drop 10000 (a.drop (i + 1)) (a.length - 1 - (i + 1))
        rw [h, ← h2] at h3
        have h4 : 0 < 10000 ^ min (a.length - 1 - (i + 1)) (a.drop (i + 1)).length := Nat.pow_pos (by omega)
        have h5 := Nat.mul_pos h4 (Nat.pos_of_ne_zero h1)
        omega
      have hdr : vl 10000 (a.drop i) = c + 10000 * vl 10000 (a.drop (i + 1)) := by
        rw [List.drop_eq_getElem_cons (by omega), vl_cons]
        rw [List.getD_eq_getElem?_getD, List.getElem?_eq_getElem (by omega)] at hc
        simp only [Option.getD_some] at hc
        rw [hc]; rfl
      have htn := text_next (V := vl 10000 (a.drop (i + 1))) (d := c) (i := i) hV (by omega)
      rw [← hdr] at htn
      have hlen : (Lib.decDigits (vl 10000 (a.drop (i + 1)))).length ≤ 4 * a.length + 1 := by
        refine dec_len (Nat.lt_of_lt_of_le (vl_lt (ok_drop ha (i + 1))) ?_) (by omega)
        rw [show (10000 : Nat) = 10 ^ 4 from rfl, ← Nat.pow_mul]
        refine Nat.pow_le_pow_right (by omega) ?_
        rw [List.length_drop]; omega
      have s1 : (Lib.decDigits (vl 10000 (a.drop (i + 1)))).toArray.size = (Lib.decDigits (vl 10000 (a.drop (i + 1)))).length := by simp
      have s2 : (dg (nd 4 c) c).toArray.size = nd 4 c := by simp [dg_length]
      have s3 := nd_le (least := 4) (n := c) (by omega) (by omega)
      refine xctl ?_
      refine xrg ?_
      refine xctl ?_
      refine xct ?_
      refine xctl ?_
      refine ops_sym (by simp (disch := omega) only [go_sem, Nat.reduceEqDiff, Nat.reduceAdd, Nat.reduceLT, Nat.reduceMul, Nat.reduceLeDiff, reduceCtorEq, Int.reduceNeg, Int.reduceToNat, e2, hc]; rfl) (by first | with_reducible exact True.intro | omega) ?_
      refine xca1 ?_; refine xca hdg ?_
      refine xrg ?_
      refine xctl ?_
      refine xrg ?_
      refine xctl ?_
      refine ⟨i, _, by omega, Ent.env (less_put (less_put (less_put (less_un0 _) ?_) ?_) ?_), i, by omega, rfl, rfl⟩
      iterate 1 (· exact xlq)
      · simp only [go_sem, Nat.reduceEqDiff, Nat.reduceAdd, Nat.reduceLT, Nat.reduceMul, Nat.reduceLeDiff, reduceCtorEq, Int.reduceNeg, Int.reduceToNat]
        refine congrArg D.str ?_
        rw [htn]
        exact ba_ext (by simp [ByteArray.data_append])
      · simp only [go_sem, Nat.reduceEqDiff, Nat.reduceAdd, Nat.reduceLT, Nat.reduceMul, Nat.reduceLeDiff, reduceCtorEq, Int.reduceNeg, Int.reduceToNat]
end Go.Proofs.YtapikjmijmebpaaGreatDoorK.RefT
