/-
  Package dec: zero, tens, Good, plain, both, Text, Rat, Whole, Part: what they compute.
-/
import Derived.Test.YtapikjmijmebpaaGreatDoorKIrDec
import Derived.Test.YtapikjmijmebpaaGreatDoorKDecP
import Derived.Test.YtapikjmijmebpaaGreatDoorKQa
import Derived.Test.YtapikjmijmebpaaGreatDoorKAc
set_option linter.all false
set_option linter.unusedVariables false
set_option linter.unusedSimpArgs false
set_option maxHeartbeats 4000000
namespace Go.Proofs.YtapikjmijmebpaaGreatDoorK.DecT
open Go.Proofs.YtapikjmijmebpaaGreatDoorK.AI Go.Proofs.YtapikjmijmebpaaGreatDoorK.NatIr Go.Proofs.YtapikjmijmebpaaGreatDoorK.Dig Go.Proofs.YtapikjmijmebpaaGreatDoorK.NatT Go.Proofs.YtapikjmijmebpaaGreatDoorK.NumT Go.Proofs.YtapikjmijmebpaaGreatDoorK.RatT Go.Proofs.YtapikjmijmebpaaGreatDoorK.LibT
set_option linter.unusedSimpArgs false
def DD (b : Bool) (X s : Nat) : D := .agg [.bool b, nl X, .int .i64 (s : Int)]
attribute [local irreducible] awp awpOps
attribute [local go_sem] getO putE_same putE_ne putE_none un0_at ini_zero ini_one ini_two ini_three ne_eq not_false_eq_true Nat.zero_ne_one Nat.one_ne_zero zero_ne_succ succ_ne_zero sym_nil sym_cons symG_call symG_op symG_skip IOp.isCall gd st_mv st_pick st_new st_box st_build st_lit st_load st_store st_faddr st_fld st_iaddrS st_iaddrA st_idxs st_bin st_beq st_neg st_not st_conv st_slcS st_slcL st_make st_app st_lenS st_lenL st_mx st_mn st_ext st_nilck st_bstr byD pureC loadC setH hv boundO D.cells D.one D.boxable fillD putD rowD binC intBinC decT decF dec_true dec_false bne_self_eq_false beq_self_eq_true beq_true_false beq_false_true bne_iff_ne List.length_nil List.length_cons List.getD_cons_zero List.getD_cons_succ List.set_cons_zero List.set_cons_succ List.all_cons List.all_nil Bool.and_true Bool.true_and Nat.lt_irrefl Nat.sub_self Nat.zero_add Nat.add_zero Nat.mul_one Nat.lt_add_one if_true if_false List.replicate_zero List.nil_append List.cons_append List.append_nil List.map_cons List.map_nil Bool.false_eq_true or_self or_true true_or or_false false_or true_and and_true and_self Int.ofNat_zero wrap_i64 wrap_u32 wrap_u64 wrap_u8 wrap_u32_mod wrap_u64_mod Nat.zero_lt_one Int.toNat_natCast Int.sub_zero toNat_pred List.take_succ_cons List.take_zero List.drop_succ_cons List.drop_zero List.take_nil List.drop_nil Nat.le_refl List.length_singleton rvDs rvD ldD one? Option.bind_some Option.map_some resD_int resD_bool resD_str resD_sl resD_rp resD_nils resD_null resD_agg resD_tup resD_own rdOwn resD_ptr rdPtr rd_ite resL_eq go_nil go_cons D.imm resArgs shr32 shl32 Nat.zero_mul Bool.and_self Bool.and_false Bool.false_and strBin_eql strBin_neq Bool.not_true Bool.not_false i64max List.length_reverse List.length_set SS_length SS_getD SS_set SS_take SS_drop SS_imm SS_one SS_app1 W_get1 W_len1 W_getD W_set W_take W_drop W_app W_length W_imm W_one W_repl N mx_nat toNat_succ toNat_add toNat_pred2 tdiv_nn tmod_nn List.take_of_length_le cast_succ and_one or_shl32 min64 shr32b shl32b IntKind.bits
attribute [local go_sem] nl ZD
attribute [local go_sem] QD
attribute [local go_sem] DD
variable {G : World → Prop} {L M X Y s : Nat} {b : Bool} {d e : D}
theorem DD_zero : DD false 0 0 = .agg [.bool false, .sl 0 [], .int .i64 0] := by rw [DD, nl_zero]; rfl
def gdB (b : Bool) (a : List Int) (k : Int) : Bool := (decide (a = []) || decide (a.getD (a.length - 1) 0 ≠ 0)) && decide (0 ≤ k) && decide (k ≤ 60) && !(b && decide (vl 4294967296 a = 0))
def Dm (L : Nat) (b : Bool) (X s : Nat) (d : D) : Prop := ∃ (b0 : Bool) (a : List Int) (n : Nat) (k : Int), n = a.length ∧ ok 4294967296 a ∧ a.length ≤ L ∧ d = .agg [.bool b0, .sl n (W a), .int .i64 k] ∧ (b, X, s) = (if gdB b0 a k = true then (b0, vl 4294967296 a, k.toNat) else (false, 0, 0))
abbrev Dok (b : Bool) (X s : Nat) : Prop := (b = true → X ≠ 0) ∧ s ≤ 60
theorem gd_wd {a : List Int} (ha : ok 4294967296 a) (h : (decide (a = []) || decide (a.getD (a.length - 1) 0 ≠ 0)) = true) : a = wd 4294967296 (vl 4294967296 a) := by
  refine eq_wd (by omega) ha fun x hx => ?_
  by_cases h0 : a = []
  · subst h0; cases hx
  · rw [decide_eq_false h0, Bool.false_or] at h
    rw [getD_last h0] at hx
    cases hx
    exact of_decide_eq_true h
theorem gdB_DD {a : List Int} {n : Nat} {k : Int} (hn : n = a.length) (ha : ok 4294967296 a) (h : gdB b a k = true) : D.agg [.bool b, .sl n (W a), .int .i64 k] = DD b (vl 4294967296 a) k.toNat ∧ Dok b (vl 4294967296 a) k.toNat := by
  unfold gdB at h
  generalize hg : (decide (a = []) || decide (a.getD (a.length - 1) 0 ≠ 0)) = g at h
  rw [Bool.and_eq_true, Bool.and_eq_true, Bool.and_eq_true] at h
  obtain ⟨⟨⟨h1, h2⟩, h3⟩, h4⟩ := h
  subst h1
  have e := gd_wd ha hg
  have h2 := of_decide_eq_true h2
  have h3 := of_decide_eq_true h3
  refine ⟨?_, fun hb => ?_, by omega⟩
  · subst hn
    rw [DD, nl, ← e, show ((k.toNat : Nat) : Int) = k by omega]
  · rw [hb, Bool.true_and] at h4
    intro h5
    rw [decide_eq_true h5] at h4
    cases h4
theorem dok_gd (h : Dok b X s) : gdB b (wd 4294967296 X) (s : Int) = true := by
  have h1 := h.2
  have h2 : (decide (wd 4294967296 X = []) || decide ((wd 4294967296 X).getD ((wd 4294967296 X).length - 1) 0 ≠ 0)) = true := by
    by_cases h0 : X = 0
    · rw [h0, wd_zero]; rfl
    · rw [decide_eq_true (NatT.wd_last h0), Bool.or_true]
  rw [gdB, h2, decide_eq_true (show (0 : Int) ≤ s by omega), decide_eq_true (show (s : Int) ≤ 60 by omega), vl_wd (by omega)]
  cases b
  · rfl
  · rw [decide_eq_false (h.1 rfl)]; rfl
theorem Dm.self (h : Dok b X s) (hx : X < 4294967296 ^ L) : Dm L b X s (DD b X s) := by
  refine ⟨b, wd 4294967296 X, _, (s : Int), rfl, ok_wd (by omega) _, wd_length_le (by omega) hx, rfl, ?_⟩
  rw [if_pos (dok_gd h), vl_wd (by omega)]; rfl
theorem Dm.ok (h : Dm L b X s d) : Dok b X s ∧ X < 4294967296 ^ L := by
  obtain ⟨b0, a, n, k, hn, ha, hl, _, he⟩ := h
  by_cases hg : gdB b0 a k = true
  · rw [if_pos hg] at he
    cases he
    exact ⟨(gdB_DD hn ha hg).2, Nat.lt_of_lt_of_le (vl_lt ha) (Nat.pow_le_pow_right (by omega) hl)⟩
  · rw [if_neg hg] at he
    cases he
    exact ⟨⟨fun h => Bool.noConfusion h, Nat.zero_le _⟩, Nat.pow_pos (by omega)⟩
theorem Dm.up (h : Dm L b X s d) (hl : L ≤ M) : Dm M b X s d := by
  obtain ⟨b0, a, n, k, hn, ha, hl', hd, he⟩ := h
  exact ⟨b0, a, n, k, hn, ha, Nat.le_trans hl' hl, hd, he⟩
theorem pcr_dzero (hG : Stable G) (hx : Nm L X d) (h : L < 1000000) : PCr Tryz.prog G 104 [d] (.bool (decide (X = 0))) := by
  obtain ⟨n, cs, rfl⟩ := hx.un
  have hc := pcr_cmpN hG hx nm0 h (by omega)
  refine pcr_byq ok104 hG (n := 7) (rv := [.tmp 2]) fun r hr => ?_; unfold c104 st0
  (refine xwalk ?_)
  refine xrt ?_
  rw [hr, cmpN_zero]
theorem pcr_tens (hG : Stable G) (k : Nat) (hk : k < 1000) : PCr Tryz.prog G 114 [.int .i64 (k : Int)] (N (10 ^ k)) := by
  have h1 := NatT.pcr_of hG 10 (by omega)
  have h2 := pcr_powN hG (nm_N (X := 10) (L := 1) (by omega)) (k : Int) (by omega) (by omega)
  rw [Int.toNat_natCast] at h2
  refine pcr_byq ok114 hG (n := 6) (rv := [.cell 2 true 1]) fun r hr => ?_; unfold c114 st0
  (exact xwalkd)
theorem pcr_dgood (hG : Stable G) (b : Bool) (a : List Int) (n : Nat) (k : Int) (hn : n = a.length) (ha : ok 4294967296 a) (hl : a.length < 900000) :
    PCr Tryz.prog G 24 [.agg [.bool b, .sl n (W a), .int .i64 k]] (.bool (gdB b a k)) := by
  have hg := NatT.pcr_good hG a n hn (by omega)
  have hz := pcr_dzero hG (nm_in (L := 900000) hn ha (by omega)) (by omega)
  unfold gdB
  generalize (decide (a = []) || decide (a.getD (a.length - 1) 0 ≠ 0)) = g at *
  generalize decide (vl 4294967296 a = 0) = z at *
  cases g
  · refine pcr_byq ok24 hG (n := 26) (rv := [.tmp 2]) fun r hr => ?_; unfold c24 st0
    (exact xwalkd)
  by_cases h0 : 0 ≤ k
  case neg =>
    rw [decide_eq_false h0]
    refine pcr_byq ok24 hG (n := 26) (rv := [.tmp 2]) fun r hr => ?_; unfold c24 st0
    (exact xwalkd)
  by_cases h1 : k ≤ 60
  case neg =>
    rw [decide_eq_true h0, decide_eq_false h1]
    refine pcr_byq ok24 hG (n := 26) (rv := [.tmp 2]) fun r hr => ?_; unfold c24 st0
    (exact xwalkd)
  rw [decide_eq_true h0, decide_eq_true h1]
  cases b
  · refine pcr_byq ok24 hG (n := 26) (rv := [.tmp 2]) fun r hr => ?_; unfold c24 st0
    (exact xwalkd)
  · refine pcr_byq ok24 hG (n := 26) (rv := [.tmp 2]) fun r hr => ?_; unfold c24 st0
    (exact xwalkd)
theorem pcr_dgoodD (hG : Stable G) (h : Dok b X s) (hx : X < 4294967296 ^ L) (hL : L < 900000) : PCr Tryz.prog G 24 [DD b X s] (.bool true) := by
  have hl := wd_length_le (B := 4294967296) (by omega) hx
  have h1 := pcr_dgood hG b (wd 4294967296 X) _ (s : Int) rfl (ok_wd (by omega) _) (by omega)
  rwa [dok_gd h] at h1
theorem pcr_dplain (hG : Stable G) (h : Dm L b X s d) (hL : L < 900000) : PCr Tryz.prog G 110 [d] (DD b X s) := by
  obtain ⟨b0, a, n, k, hn, ha, hl, rfl, he⟩ := h
  have hg := pcr_dgood hG b0 a n k hn ha (by omega)
  cases hgd : gdB b0 a k
  · rw [hgd] at hg he
    cases he
    rw [DD_zero]
    refine pcr_byq ok110 hG (n := 8) (rv := [.cell 2 true 3]) fun r hr => ?_; unfold c110 st0
    (exact xwalkd)
  · have h1 := gdB_DD hn ha hgd
    rw [hgd] at hg he
    cases he
    rw [← h1.1]
    refine pcr_byq ok110 hG (n := 8) (rv := [.cell 2 true 3]) fun r hr => ?_; unfold c110 st0
    (exact xwalkd)
theorem ten_lt (h : s ≤ 60) : 10 ^ s < 4294967296 ^ 7 := Nat.lt_of_le_of_lt (Nat.pow_le_pow_right (by omega) h) (by decide)
theorem nm_ten (h : s ≤ 60) : Nm 7 (10 ^ s) (N (10 ^ s)) := nm_N (ten_lt h)
theorem ten_ne (s : Nat) : 10 ^ s ≠ 0 := by have := Nat.pow_pos (n := s) (show 0 < 10 by omega); omega
def dq (b : Bool) (X s : Nat) : Rat := mkRat (sg b X) (10 ^ s)
theorem pcr_drat (hG : Stable G) (h : Dm L b X s d) (hL : L < 150000) : PCr Tryz.prog G 34 [d] (QD (dq b X s)) := by
  have hp := pcr_dplain hG h (by omega)
  have hk := h.ok.1.2
  have ht := pcr_tens hG s (by omega)
  have ho := RatT.pcr_of hG (b := b) (nm_N h.ok.2) (nm_ten hk) (ten_ne s) hL (by omega)
  obtain ⟨b0, a, n, k, hn, ha, hl, rfl, he⟩ := h
  unfold dq
  refine pcr_byq ok34 hG (n := 20) (rv := [.cell 2 true 3]) fun r hr => ?_; unfold c34 st0
  (exact xwalkd)
theorem pcr_dwhole (hG : Stable G) (h : Dm L b X s d) (hL : L < 150000) : PCr Tryz.prog G 50 [d] (N (X / 10 ^ s)) := by
  have hp := pcr_dplain hG h (by omega)
  have hk := h.ok.1.2
  have ht := pcr_tens hG s (by omega)
  have ho := pcr_divN hG (nm_N h.ok.2) (nm_ten hk) (by omega) (by omega) (ten_ne s)
  obtain ⟨b0, a, n, k, hn, ha, hl, rfl, he⟩ := h
  refine pcr_byq ok50 hG (n := 19) (rv := [.cell 2 true 1]) fun r hr => ?_; unfold c50 st0
  (exact xwalkd)
/-! texts -/
theorem ext_mk (l : List UInt8) (i j : Nat) : (⟨l.toArray⟩ : ByteArray).extract i j = ⟨((l.drop i).take (j - i)).toArray⟩ := ba_ext (by rw [ext_list])
theorem ba_emp {l : List UInt8} : ((⟨l.toArray⟩ : ByteArray) = (⟨#[]⟩ : ByteArray)) = (l = []) := propext ⟨fun h => by
  have := congrArg (fun b : ByteArray => b.data.toList) h
  simpa using this, fun h => by rw [h]⟩
attribute [local go_sem] List.size_toArray ba_size RatT.ba_app List.length_append List.length_replicate
theorem pcr_both (hG : Stable G) (hT : ∀ w, G w → Lib.TabIs Tryz.prog w "internal/strconv.uint64pow10" .u64 Lib.pow10Tab) (hx : X < 4294967296 ^ L) (hL : L < 100000) (hs : s ≤ 60) :
    PCr Tryz.prog G 109 [DD b X s] (.tup [.str ⟨(pw X s).toArray⟩, .str ⟨(pp X s).toArray⟩]) := by
  have ht := pcr_textN hG hT (nm_N hx) hL
  have hdl := nm_dlen (nm_N hx)
  have h0 := dec_pos X
  have e1 : pw X s = (pd X s).take ((pd X s).length - s) := rfl
  have e2 : pp X s = (pd X s).drop ((pd X s).length - s) := rfl
  have e3 := pd_len (X := X) (s := s)
  have e4 : pd X s = List.replicate (s + 1 - (Lib.decDigits X).length) 48 ++ Lib.decDigits X := rfl
  rw [DD, e1, e2, e3]
  generalize Lib.decDigits X = l at *
  by_cases hc : s + 1 ≤ l.length
  · rw [show s + 1 - l.length = 0 by omega, List.replicate_zero, List.nil_append] at e4
    rw [e4, show max (s + 1) l.length - s = l.length - s by omega]
    refine pcr_byq ok109 hG (n := 35) (rv := [.tmp 2, .tmp 3]) fun r hr => ?_; unfold c109 st0
    (refine xwalk ?_)
    refine xrt ?_
    rw [hr, ext_mk, ext_mk, show ((l.length : Int) - s).toNat = l.length - s by omega, List.drop_zero, Nat.sub_zero, List.take_of_length_le (show (l.drop (l.length - s)).length ≤ _ by rw [List.length_drop]; omega)]
  · have hr1 := lib_repeat (G := G) ⟨#[48]⟩ (s + 1 - l.length) (by omega) (by show 1 * _ ≤ _; omega)
    rw [show (⟨#[48]⟩ : ByteArray).data.toList = [48] from rfl, repeat1, show (((s + 1 - l.length : Nat)) : Int) = (s : Int) + 1 - (l.length : Int) by omega] at hr1
    rw [show max (s + 1) l.length - s = 1 by omega]
    have e5 : (pd X s).length = s + 1 := by rw [e3]; omega
    have e6 : (s + 1 - l.length + l.length) = s + 1 := by omega
    refine pcr_byq ok109 hG (n := 35) (rv := [.tmp 2, .tmp 3]) fun r hr => ?_; unfold c109 st0
    (have we1 := e6; have we2 := (e4).symm; refine xwalk2 ?_)
    refine xrt ?_
    rw [hr, ext_mk, ext_mk, e5, show (((s + 1 : Nat) : Int) - s).toNat = 1 by omega, List.drop_zero, Nat.sub_zero, List.take_of_length_le (show (List.drop 1 (pd X s)).length ≤ _ by rw [List.length_drop, e5]; omega)]
theorem pcr_dpart (hG : Stable G) (hT : ∀ w, G w → Lib.TabIs Tryz.prog w "internal/strconv.uint64pow10" .u64 Lib.pow10Tab) (h : Dm L b X s d) (hL : L < 100000) : PCr Tryz.prog G 30 [d] (.str ⟨(pp X s).toArray⟩) := by
  have hp := pcr_dplain hG h (by omega)
  have hb := pcr_both (b := b) hG hT h.ok.2 hL h.ok.1.2
  obtain ⟨b0, a, n, k, hn, ha, hl, rfl, he⟩ := h
  refine pcr_byq ok30 hG (n := 12) (rv := [.tmp 2]) fun r hr => ?_; unfold c30 st0
  (exact xwalkd)
theorem pcr_dtext (hG : Stable G) (hT : ∀ w, G w → Lib.TabIs Tryz.prog w "internal/strconv.uint64pow10" .u64 Lib.pow10Tab) (h : Dm L b X s d) (hL : L < 100000) : PCr Tryz.prog G 32 [d] (.str ⟨(dT b X s).toArray⟩) := by
  have hp := pcr_dplain hG h (by omega)
  have hb := pcr_both (b := b) hG hT h.ok.2 hL h.ok.1.2
  have hk := h.ok.1.2
  have hdl := nm_dlen (nm_N h.ok.2)
  have h1 := pw_len (X := X) (s := s)
  have h2 := pp_len (X := X) (s := s)
  have h3 := pd_len (X := X) (s := s)
  have e1 : ((⟨(pp X s).toArray⟩ : ByteArray) = (⟨#[]⟩ : ByteArray)) = (s = 0) := by
    rw [ba_emp]
    exact propext ⟨fun h => by rw [← h2, h]; rfl, fun h => List.eq_nil_of_length_eq_zero (h2.trans h)⟩
  obtain ⟨b0, a, n, k, hn, ha, hl, rfl, he⟩ := h
  unfold dT
  by_cases h0 : s = 0
  · rw [eq_true h0] at e1
    rw [if_pos h0, List.append_nil]
    cases b
    · refine pcr_byq ok32 hG (n := 23) (rv := [.tmp 2]) fun r hr => ?_; unfold c32 st0
      (have we1 := e1; exact xwalkd1)
    · refine pcr_byq ok32 hG (n := 23) (rv := [.tmp 2]) fun r hr => ?_; unfold c32 st0
      (have we1 := e1; exact xwalkd1)
  · rw [eq_false h0] at e1
    rw [if_neg h0]
    cases b
    · refine pcr_byq ok32 hG (n := 23) (rv := [.tmp 2]) fun r hr => ?_; unfold c32 st0
      (have we1 := e1; exact xwalkd1)
    · refine pcr_byq ok32 hG (n := 23) (rv := [.tmp 2]) fun r hr => ?_; unfold c32 st0
      (have we1 := e1; exact xwalkd1)
end Go.Proofs.YtapikjmijmebpaaGreatDoorK.DecT
