/-
  cubitlaw5.RoundDigits answers true.
-/
import Derived.Test.YtapikjmijmebpaaDoorKIrLRoundDigits
import Derived.Test.YtapikjmijmebpaaDoorKAwakeE5
import Derived.Test.YtapikjmijmebpaaDoorKOverL5
import Derived.Test.YtapikjmijmebpaaDoorKRoundC
import Derived.Test.YtapikjmijmebpaaDoorKQa
set_option linter.all false
set_option linter.unusedVariables false
set_option linter.unusedSimpArgs false
set_option maxHeartbeats 4000000
namespace Go.Proofs.YtapikjmijmebpaaDoorK.LawT5
open Go.Proofs.YtapikjmijmebpaaDoorK.AI Go.Proofs.YtapikjmijmebpaaDoorK.NatIr Go.Proofs.YtapikjmijmebpaaDoorK.Dig Go.Proofs.YtapikjmijmebpaaDoorK.NatT Go.Proofs.YtapikjmijmebpaaDoorK.NumT Go.Proofs.YtapikjmijmebpaaDoorK.RatT Go.Proofs.YtapikjmijmebpaaDoorK.DecT Go.Proofs.YtapikjmijmebpaaDoorK.RoundT
set_option linter.unusedSimpArgs false
attribute [local irreducible] awp awpOps
attribute [local go_sem] getO putE_same putE_ne putE_none un0_at ini_zero ini_one ini_two ini_three ne_eq not_false_eq_true Nat.zero_ne_one Nat.one_ne_zero zero_ne_succ succ_ne_zero sym_nil sym_cons symG_call symG_op symG_skip IOp.isCall gd st_mv st_pick st_new st_box st_build st_lit st_load st_store st_faddr st_fld st_iaddrS st_iaddrA st_idxs st_bin st_beq st_neg st_not st_conv st_slcS st_slcL st_make st_app st_lenS st_lenL st_mx st_mn st_ext st_nilck st_bstr byD pureC loadC setH hv boundO D.cells D.one D.boxable fillD putD rowD binC intBinC decT decF dec_true dec_false bne_self_eq_false beq_self_eq_true beq_true_false beq_false_true bne_iff_ne List.length_nil List.length_cons List.getD_cons_zero List.getD_cons_succ List.set_cons_zero List.set_cons_succ List.all_cons List.all_nil Bool.and_true Bool.true_and Nat.lt_irrefl Nat.sub_self Nat.zero_add Nat.add_zero Nat.mul_one Nat.lt_add_one if_true if_false List.replicate_zero List.nil_append List.cons_append List.append_nil List.map_cons List.map_nil Bool.false_eq_true or_self or_true true_or or_false false_or true_and and_true and_self Int.ofNat_zero wrap_i64 wrap_u32 wrap_u64 wrap_u8 wrap_u32_mod wrap_u64_mod Nat.zero_lt_one Int.toNat_natCast Int.sub_zero toNat_pred List.take_succ_cons List.take_zero List.drop_succ_cons List.drop_zero List.take_nil List.drop_nil Nat.le_refl List.length_singleton rvDs rvD ldD one? Option.bind_some Option.map_some resD_int resD_bool resD_str resD_sl resD_rp resD_nils resD_null resD_agg resD_tup resD_own rdOwn resD_ptr rdPtr rd_ite resL_eq go_nil go_cons D.imm resArgs shr32 shl32 Nat.zero_mul Bool.and_self Bool.and_false Bool.false_and strBin_eql strBin_neq Bool.not_true Bool.not_false i64max List.length_reverse List.length_set SS_length SS_getD SS_set SS_take SS_drop SS_imm SS_one SS_app1 W_get1 W_len1 W_getD W_set W_take W_drop W_app W_length W_imm W_one W_repl N mx_nat toNat_succ toNat_add toNat_pred2 tdiv_nn tmod_nn List.take_of_length_le cast_succ and_one or_shl32 min64 shr32b shl32b IntKind.bits
attribute [local go_sem] nl ZD
attribute [local go_sem] QD
attribute [local go_sem] DD not_true_eq_false not_false_eq_true List.size_toArray ba_size
variable {G : World → Prop} {X k : Nat} {r : Rat} {m : Int}
theorem bt_mk (l : List UInt8) (i : Nat) : bt ⟨l.toArray⟩ i = ((l.getD i 0).toNat : Int) := by simp [bt]
/-- Behind its first digits there are noughts. -/
theorem nought_after {M j : Nat} (hM : M ≠ 0) (hk : dl M ≤ k) (h : X = M * 10 ^ j) : ∀ i, k ≤ i → i < dl X → (Lib.decDigits X).getD i 0 = 48 := by
  intro i h1 h2
  have e := decDigits_ten M j hM
  rw [← h] at e
  unfold dl at hk h2
  rw [e, List.length_append, List.length_replicate] at h2
  rw [e, List.getD_eq_getElem?_getD, List.getElem?_append_right (by omega), List.getElem?_replicate, if_pos (by omega)]; rfl
theorem dl_one : dl 1 = 1 := by rw [dl, show Lib.decDigits 1 = [49] by simp [Lib.decDigits]]; rfl
theorem sgv_ok (h0 : r ≠ 0) (hk : 1 ≤ k) : (sgv r k m).1.natAbs ≠ 0 ∧ ((sgv r k m).2 = 0 ∨ dl (sgv r k m).1.natAbs ≤ k) ∧ ∀ i, k ≤ i → i < dl (sgv r k m).1.natAbs → (Lib.decDigits (sgv r k m).1.natAbs).getD i 0 = 48 := by
  have hb := sgn_bnd (m := m) h0 hk
  have hp := Nat.pow_pos (n := k - 1) (show 0 < 10 by omega)
  have hmore := fun h => sgn_more (m := m) h0 hk h
  have hpk : 10 ^ k = 10 * 10 ^ (k - 1) := by rw [show k = (k - 1) + 1 by omega, Nat.pow_succ, Nat.add_sub_cancel, Nat.mul_comm]
  have hdl1 : dl 1 ≤ k := by rw [dl_one]; exact hk
  unfold sgv
  generalize sgn r k m = n at *
  split
  · rename_i hneg
    generalize (-sgs r k).toNat = K
    have e : (n * (10 : Int) ^ K).natAbs = n.natAbs * 10 ^ K := by rw [Int.natAbs_mul, Int.natAbs_pow]; rfl
    refine ⟨?_, .inl rfl, ?_⟩
    · show (n * (10 : Int) ^ K).natAbs ≠ 0
      rw [e]
      exact Nat.mul_ne_zero (by omega) (ten_ne K)
    · show ∀ i, k ≤ i → i < dl (n * (10 : Int) ^ K).natAbs → (Lib.decDigits (n * (10 : Int) ^ K).natAbs).getD i 0 = 48
      rw [e]
      by_cases hl : k < dl n.natAbs
      · refine nought_after (M := 1) (j := k + K) (by decide) hdl1 ?_
        rw [hmore hl, Nat.pow_add, Nat.one_mul]
      · exact nought_after (M := n.natAbs) (j := K) (by omega) (by omega) rfl
  split
  · rename_i hneg hm
    have h1 := hmore hm.2
    have h2 : (n / 10).natAbs = 10 ^ (k - 1) := by
      rw [hpk] at h1
      generalize 10 ^ (k - 1) = W at *
      omega
    have h3 : dl (n / 10).natAbs ≤ k := by
      rw [h2]
      exact dec_len (Nat.pow_lt_pow_right (by omega) (by omega)) hk
    exact ⟨by show (n / 10).natAbs ≠ 0; omega, .inr h3, fun i h4 h5 => absurd h5 (by show ¬ i < dl (n / 10).natAbs; omega)⟩
  · rename_i hneg hm
    refine ⟨by show n.natAbs ≠ 0; omega, ?_, ?_⟩
    · by_cases hz : sgs r k = 0
      · left; show (sgs r k).toNat = 0; omega
      · right; show dl n.natAbs ≤ k; omega
    · show ∀ i, k ≤ i → i < dl n.natAbs → (Lib.decDigits n.natAbs).getD i 0 = 48
      by_cases hl : k < dl n.natAbs
      · refine nought_after (M := 1) (j := k) (by decide) hdl1 ?_
        rw [hmore hl, Nat.one_mul]
      · exact fun i h4 h5 => absurd h5 (by omega)
set_option maxHeartbeats 16000000 in
theorem pcr_digits_law (hG : Stable G) (hT : ∀ w, G w → Lib.TabIs Tryd.prog w "internal/strconv.uint64pow10" .u64 Lib.pow10Tab) (hM : ∀ w, G w → LibT.gMax w)
    (b : Bool) (a : List Int) (n : Nat) (hn : n = a.length) (ha : ok 4294967296 a) (hla : a.length ≤ 9223372036854775807) (c : List Int) (m : Nat) (hm : m = c.length) (hc : ok 4294967296 c) (hlc : c.length ≤ 9223372036854775807)
    (dg : Int) (hdg : -9223372036854775808 ≤ dg ∧ dg ≤ 9223372036854775807) (mo : Int) (hmo : -9223372036854775808 ≤ mo ∧ mo ≤ 9223372036854775807) :
    PCr Tryd.prog G 3 [.agg [.bool b, .sl n (W a), .sl m (W c)], .int .i64 dg, .int .i64 mo] (.bool true) := by
  have haw := pcr_awake hG hT hM
  by_cases h1 : 6 < n
  · refine pcr_by hG (fn := Tryd.f3) (n := 103) (rv := [.tmp 6]) (by kernel_rfl) ok3 (by kernel_rfl) (by decide) (by kernel_rfl) (by simp) (by kernel_rfl) (fun r hr => ?_); unfold c3 st0
    (exact xwalkd)
  by_cases h2 : 6 < m
  · refine pcr_by hG (fn := Tryd.f3) (n := 103) (rv := [.tmp 6]) (by kernel_rfl) ok3 (by kernel_rfl) (by decide) (by kernel_rfl) (by simp) (by kernel_rfl) (fun r hr => ?_); unfold c3 st0
    (exact xwalkd)
  obtain ⟨g, hg⟩ := RatT.pcr_goodX hG b a n hn ha (by omega) c m hm hc (by omega)
  cases g
  · refine pcr_by hG (fn := Tryd.f3) (n := 103) (rv := [.tmp 6]) (by kernel_rfl) ok3 (by kernel_rfl) (by decide) (by kernel_rfl) (by simp) (by kernel_rfl) (fun r hr => ?_); unfold c3 st0
    (exact xwalkd)
  have hx := qm_in (b := b) (L := 6) hn ha hm hc (by omega) (by omega) (by omega)
  generalize vq b a c = x at *
  have hsg := RatT.pcr_sign hG hx (by omega)
  have hs3 := sgn3 x
  by_cases h0 : x = 0
  · rw [sg_zero h0] at hsg
    refine pcr_by hG (fn := Tryd.f3) (n := 103) (rv := [.tmp 6]) (by kernel_rfl) ok3 (by kernel_rfl) (by decide) (by kernel_rfl) (by simp) (by kernel_rfl) (fun r hr => ?_); unfold c3 st0
    (exact xwalkd)
  have hsn : ¬ x.num.sign = 0 := by
    rcases hs3 with h | h | h
    · omega
    · exact absurd h.1 h0
    · omega
  generalize x.num.sign = sx at *
  by_cases h3 : dg < 1
  · refine pcr_by hG (fn := Tryd.f3) (n := 103) (rv := [.tmp 6]) (by kernel_rfl) ok3 (by kernel_rfl) (by decide) (by kernel_rfl) (by simp) (by kernel_rfl) (fun r hr => ?_); unfold c3 st0
    (exact xwalkd)
  by_cases h4 : 40 < dg
  · refine pcr_by hG (fn := Tryd.f3) (n := 103) (rv := [.tmp 6]) (by kernel_rfl) ok3 (by kernel_rfl) (by decide) (by kernel_rfl) (by simp) (by kernel_rfl) (fun r hr => ?_); unfold c3 st0
    (exact xwalkd)
  by_cases h5 : mo < 1
  · refine pcr_by hG (fn := Tryd.f3) (n := 103) (rv := [.tmp 6]) (by kernel_rfl) ok3 (by kernel_rfl) (by decide) (by kernel_rfl) (by simp) (by kernel_rfl) (fun r hr => ?_); unfold c3 st0
    (exact xwalkd)
  by_cases h6 : 7 < mo
  · refine pcr_by hG (fn := Tryd.f3) (n := 103) (rv := [.tmp 6]) (by kernel_rfl) ok3 (by kernel_rfl) (by decide) (by kernel_rfl) (by simp) (by kernel_rfl) (fun r hr => ?_); unfold c3 st0
    (exact xwalkd)
  obtain ⟨k, rfl⟩ : ∃ k : Nat, dg = k := ⟨dg.toNat, by omega⟩
  have hsi := pcr_sig hG hT hx (by omega) h0 k (by omega) (by omega) (m := mo) (by omega) (by omega)
  obtain ⟨L, hL⟩ : ∃ L : Nat, L = 300 := ⟨_, rfl⟩
  have hvb : ¬ 60 < sgs x k → (sgv x k mo).1.natAbs < 4294967296 ^ L := by
    intro h60
    have hzb := sgn_nat hx (k := k) (by omega) mo
    obtain ⟨hS, hpb⟩ := sgs_bnd hx k
    have hle : ∀ q : Nat, q ≤ L → 4294967296 ^ q ≤ 4294967296 ^ L := fun q hq => Nat.pow_le_pow_right (by decide) hq
    unfold sgv
    split
    · show (sgn x k mo * (10 : Int) ^ (-sgs x k).toNat).natAbs < _
      rw [Int.natAbs_mul, Int.natAbs_pow]
      refine Nat.lt_of_lt_of_le (mul_lt2 (B := 4294967296 ^ 110) hzb ?_) ?_
      · exact Nat.lt_of_lt_of_le (Nat.pow_lt_pow_left (show (10 : Int).natAbs < 4294967296 by decide) (by omega)) (Nat.pow_le_pow_right (by decide) (by omega))
      · rw [← Nat.pow_add]; exact hle _ (by omega)
    · split
      · show (sgn x k mo / 10).natAbs < _
        have := hle (6 + (10 * 6 + 45) + 1) (by omega)
        generalize 4294967296 ^ L = P at *
        generalize 4294967296 ^ (6 + (10 * 6 + 45) + 1) = P2 at *
        omega
      · exact Nat.lt_of_lt_of_le hzb (hle _ (by omega))
  have hvo := sgv_ok (m := mo) h0 (k := k) (by omega)
  unfold sgR at hsi
  by_cases h60 : 60 < sgs x k
  · rw [if_pos h60] at hsi
    refine pcr_by hG (fn := Tryd.f3) (n := 103) (rv := [.tmp 6]) (by kernel_rfl) ok3 (by kernel_rfl) (by decide) (by kernel_rfl) (by simp) (by kernel_rfl) (fun r hr => ?_); unfold c3 st0
    (exact xwalkd)
  rw [if_neg h60] at hsi
  have hvb := hvb h60
  have htx := pcr_textN hG hT (nm_N hvb) (by omega)
  have hdlb := dl_bnd hvb
  obtain ⟨v0, v1, v2⟩ := hvo
  have hd0 := dl_pos (sgv x k mo).1.natAbs
  unfold dl at *
  generalize ng (sgv x k mo).1 = gb at *
  generalize (sgv x k mo).1.natAbs = X at *
  generalize (sgv x k mo).2 = sc at *
  generalize hTT : Lib.decDigits X = T at *
  refine pcr_by hG (fn := Tryd.f3) (n := 103) (rv := [.tmp 6]) (by kernel_rfl) ok3 (by kernel_rfl) (by decide) (by kernel_rfl) (by simp) (by kernel_rfl) (fun r hr => ?_); unfold c3 st0
  (refine xwalk ?_)
  refine awp_loop (fun j σ => ∃ i : Nat, i ≤ T.length ∧ j = i ∧ 1 ≤ i ∧ (i < T.length → k ≤ i) ∧ σ = ⟨(putE (putE (putE (putE un0 (some 1) (.int .i64 (k : Int))) (some 6) (.bool false)) (some 7) (.ptr 1 0 0)) (some 9) (.str ⟨(T.take i).toArray⟩)), [some (0, 28, 3, [.bool b, .sl n (W a), .sl m (W c)]), some (0, 33, 3, [.bool gb, nl X, .int .i64 (sc : Int)])]⟩) T.length
    (Ent.env (less_put (less_put (less_put (less_put (less_un0 _) ?_) ?_) ?_) ?_)) ⟨T.length, Nat.le_refl _, rfl, hd0, fun h => absurd h (Nat.lt_irrefl _), rfl⟩ ?_
  iterate 3 (· exact xlq)
  · rw [List.take_length]; exact xlq
  rintro j σ1 ⟨i, hi, rfl, hi1, hik, rfl⟩
  have hul : (T.take j).length = j := by rw [List.length_take]; omega
  have hub : bt ⟨(T.take j).toArray⟩ (j - 1) = ((T.getD (j - 1) 0).toNat : Int) := by
    rw [bt_mk, List.getD_eq_getElem?_getD, List.getElem?_take, if_pos (by omega), List.getD_eq_getElem?_getD]
  have hue : (⟨(T.take j).toArray⟩ : ByteArray).extract 0 (j - 1) = ⟨(T.take (j - 1)).toArray⟩ := by
    rw [ext_mk, List.drop_zero, List.take_take, show min (j - 1 - 0) j = j - 1 by omega]
  have hun : ((⟨(T.take j).toArray⟩ : ByteArray) = (⟨#[]⟩ : ByteArray)) = False := by
    rw [ba_emp]
    refine eq_false fun h => ?_
    rw [h] at hul
    simp at hul
    omega
  generalize T.take j = u at *
  by_cases hjk : k < j
  · have h48 := v2 (j - 1) (by omega) (by omega)
    rw [h48, show (48 : UInt8).toNat = 48 from rfl] at hub
    (have we1 := hul; have we2 := hub; have we3 := hue; refine xwalk3 ?_)
    refine ⟨j - 1, _, by omega, Ent.env (less_put (less_put (less_put (less_put (less_un0 _) ?_) ?_) ?_) ?_), j - 1, by omega, rfl, by omega, by omega, rfl⟩
    iterate 4 (· exact xlq)
  · have hTk : T.length ≤ k ∨ sc = 0 := by
      rcases v1 with h | h
      · exact .inr h
      · exact .inl h
    by_cases hsc : sc = 0
    · subst hsc
      (have we1 := hul; have we2 := hun; exact xwalkd2)
    · have hTk2 : T.length ≤ k := by omega
      (have we1 := hul; have we2 := hun; exact xwalkd2)
end Go.Proofs.YtapikjmijmebpaaDoorK.LawT5
