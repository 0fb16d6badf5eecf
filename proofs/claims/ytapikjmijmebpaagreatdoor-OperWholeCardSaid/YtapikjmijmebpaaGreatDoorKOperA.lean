/-
  Package oper: number, whole, Of, Value: what they compute.
-/
import Derived.Test.YtapikjmijmebpaaGreatDoorKIrOper
import Derived.Test.YtapikjmijmebpaaGreatDoorKDecB
import Derived.Test.YtapikjmijmebpaaGreatDoorKDecC
set_option linter.all false
set_option linter.unusedVariables false
set_option linter.unusedSimpArgs false
set_option maxHeartbeats 4000000
namespace Go.Proofs.YtapikjmijmebpaaGreatDoorK.OperT
open Go.Proofs.YtapikjmijmebpaaGreatDoorK.AI Go.Proofs.YtapikjmijmebpaaGreatDoorK.NatIr Go.Proofs.YtapikjmijmebpaaGreatDoorK.Dig Go.Proofs.YtapikjmijmebpaaGreatDoorK.NatT Go.Proofs.YtapikjmijmebpaaGreatDoorK.NumT Go.Proofs.YtapikjmijmebpaaGreatDoorK.RatT Go.Proofs.YtapikjmijmebpaaGreatDoorK.DecT
set_option linter.unusedSimpArgs false
attribute [local irreducible] awp awpOps
attribute [local go_sem] getO putE_same putE_ne putE_none un0_at ini_zero ini_one ini_two ini_three ne_eq not_false_eq_true Nat.zero_ne_one Nat.one_ne_zero zero_ne_succ succ_ne_zero sym_nil sym_cons symG_call symG_op symG_skip IOp.isCall gd st_mv st_pick st_new st_box st_build st_lit st_load st_store st_faddr st_fld st_iaddrS st_iaddrA st_idxs st_bin st_beq st_neg st_not st_conv st_slcS st_slcL st_make st_app st_lenS st_lenL st_mx st_mn st_ext st_nilck st_bstr byD pureC loadC setH hv boundO D.cells D.one D.boxable fillD putD rowD binC intBinC decT decF dec_true dec_false bne_self_eq_false beq_self_eq_true beq_true_false beq_false_true bne_iff_ne List.length_nil List.length_cons List.getD_cons_zero List.getD_cons_succ List.set_cons_zero List.set_cons_succ List.all_cons List.all_nil Bool.and_true Bool.true_and Nat.lt_irrefl Nat.sub_self Nat.zero_add Nat.add_zero Nat.mul_one Nat.lt_add_one if_true if_false List.replicate_zero List.nil_append List.cons_append List.append_nil List.map_cons List.map_nil Bool.false_eq_true or_self or_true true_or or_false false_or true_and and_true and_self Int.ofNat_zero wrap_i64 wrap_u32 wrap_u64 wrap_u8 wrap_u32_mod wrap_u64_mod Nat.zero_lt_one Int.toNat_natCast Int.sub_zero toNat_pred List.take_succ_cons List.take_zero List.drop_succ_cons List.drop_zero List.take_nil List.drop_nil Nat.le_refl List.length_singleton rvDs rvD ldD one? Option.bind_some Option.map_some resD_int resD_bool resD_str resD_sl resD_rp resD_nils resD_null resD_agg resD_tup resD_own rdOwn resD_ptr rdPtr rd_ite resL_eq go_nil go_cons D.imm resArgs shr32 shl32 Nat.zero_mul Bool.and_self Bool.and_false Bool.false_and strBin_eql strBin_neq Bool.not_true Bool.not_false i64max List.length_reverse List.length_set SS_length SS_getD SS_set SS_take SS_drop SS_imm SS_one SS_app1 W_get1 W_len1 W_getD W_set W_take W_drop W_app W_length W_imm W_one W_repl N mx_nat toNat_succ toNat_add toNat_pred2 tdiv_nn tmod_nn List.take_of_length_le cast_succ and_one or_shl32 min64 shr32b shl32b IntKind.bits
attribute [local go_sem] nl ZD
attribute [local go_sem] QD
variable {G : World → Prop} {L M X Y s : Nat} {b : Bool} {d e : D} {c : Int}
/-- What a numeral shows, as the program makes it. -/
def OD (X s : Nat) : D := .agg [.bool false, nl (dq false X s).num.natAbs, nl (dq false X s).den, nl (X / 10 ^ s), .int .i64 (s : Int), .int .i64 ((sh X s).2 : Int), nl (X % 10 ^ s), nl ((sh X s).1 % 10 ^ (sh X s).2)]
attribute [local go_sem] DD OD List.size_toArray ba_size not_true_eq_false not_false_eq_true
theorem dq_ngf (X s : Nat) : ng (dq false X s).num = false := by
  unfold dq
  rw [mk_num (ten_ne s), sg_neg]; rfl
theorem QD_dq (X s : Nat) : QD (dq false X s) = .agg [.bool false, nl (dq false X s).num.natAbs, nl (dq false X s).den] := by rw [QD, dq_ngf]
theorem QD_nat (n : Nat) : QD (((n : Nat) : Int) : Rat) = .agg [.bool false, nl n, nl 1] := by
  unfold QD
  rw [Rat.num_intCast, Rat.den_intCast, Int.natAbs_natCast, show ng ((n : Nat) : Int) = false from decide_eq_false (Int.not_lt.2 (Int.natCast_nonneg _))]
theorem pcr_number (hG : Stable G) (X s : Nat) (hs : s ≤ 60) : PCr Tryz.prog G 125 [.str ⟨(pp X s).toArray⟩] (N (X % 10 ^ s)) := by
  have h1 := pcr_np hG (pp X s) (by rw [pp_len]; omega)
  have h2 := pp_val (X := X) (s := s)
  have h3 := pp_len (X := X) (s := s)
  have e : (if pgd (pp X s) = true then decV (pp X s) else 0) = X % 10 ^ s := by
    by_cases h0 : s = 0
    · subst h0
      rw [List.eq_nil_of_length_eq_zero h3, if_neg (by decide), Nat.pow_zero, Nat.mod_one]
    · rw [if_pos (pgd_iff.2 ⟨fun e => h0 (by rw [← h3, e]; rfl), List.all_eq_true.2 pp_isD⟩), h2]
  rw [e] at h1
  generalize pgd (pp X s) = g at *
  refine pcr_by hG (fn := Tryz.f125) (n := 11) (rv := [.cell 2 true 1]) (by kernel_rfl) ok125 (by kernel_rfl) (by decide) (by kernel_rfl) (by simp) (by kernel_rfl) (fun r hr => ?_); unfold c125 st0
  (exact xwalkd)
theorem pcr_whole (hG : Stable G) (X : Nat) : PCr Tryz.prog G 126 [N X] (QD ((X : Int) : Rat)) := by
  have h1 := RatT.pcr_int hG 0 (by omega) (by omega)
  rw [show (0 : Int) = ((0 : Nat) : Int) from rfl, QD_nat, nl_zero] at h1
  rw [QD_nat]
  refine pcr_by hG (fn := Tryz.f126) (n := 9) (rv := [.cell 2 true 3]) (by kernel_rfl) ok126 (by kernel_rfl) (by decide) (by kernel_rfl) (by simp) (by kernel_rfl) (fun r hr => ?_); unfold c126 st0
  (exact xwalkd)
set_option maxHeartbeats 8000000 in
theorem pcr_oof (hG : Stable G) (hT : ∀ w, G w → Lib.TabIs Tryz.prog w "internal/strconv.uint64pow10" .u64 Lib.pow10Tab) (h : Dm L b X s d) (hL : L < 100000) : PCr Tryz.prog G 55 [d] (OD X s) := by
  obtain ⟨⟨hb, hs⟩, hX⟩ := h.ok
  have hok : Dok false X s := ⟨fun h => Bool.noConfusion h, hs⟩
  have hdm := Dm.self hok hX
  have hp := pcr_dpart hG hT hdm hL
  have hsh := pcr_dshort hG hdm (by omega)
  have hsx : (sh X s).1 < 4294967296 ^ L := Nat.lt_of_le_of_lt (sh_fst_le s X) hX
  have hps := pcr_dpart hG hT (Dm.self hok.short hsx) hL
  have hra := pcr_drat hG hdm (by omega)
  have hwh := pcr_dwhole hG hdm (by omega)
  have hn1 := pcr_number hG X s hs
  have hn2 := pcr_number hG (sh X s).1 (sh X s).2 hok.short.2
  have hl1 := pp_len (X := X) (s := s)
  have hl2 := pp_len (X := (sh X s).1) (s := (sh X s).2)
  rw [QD_dq] at hra
  obtain ⟨b0, a, n, k, hn, ha, hl, rfl, he⟩ := h
  cases hgd : gdB b0 a k
  · have hg := pcr_dgood hG b0 a n k hn ha (by omega)
    rw [hgd] at hg he
    cases he
    rw [DD_zero] at hp hsh hra hwh
    refine pcr_by hG (fn := Tryz.f55) (n := 28) (rv := [.cell 2 true 8]) (by kernel_rfl) ok55 (by kernel_rfl) (by decide) (by kernel_rfl) (by simp) (by kernel_rfl) (fun r hr => ?_); unfold c55 st0
    (have we1 := hl1; have we2 := hl2; exact xwalkd2)
  · obtain ⟨h1, h2⟩ := gdB_DD hn ha hgd
    rw [hgd] at he
    cases he
    rw [h1]
    have hg := pcr_dgoodD hG h2 hX (by omega)
    refine pcr_by hG (fn := Tryz.f55) (n := 28) (rv := [.cell 2 true 8]) (by kernel_rfl) ok55 (by kernel_rfl) (by decide) (by kernel_rfl) (by simp) (by kernel_rfl) (fun r hr => ?_); unfold c55 st0
    (have we1 := hl1; have we2 := hl2; exact xwalkd2)
/-- What a letter tells. -/
def oval (X s : Nat) (c : Int) : Rat :=
  if c = 110 then dq false X s else if c = 105 then (((X / 10 ^ s : Nat) : Int) : Rat) else if c = 118 then ((s : Int) : Rat) else if c = 119 then (((sh X s).2 : Int) : Rat)
  else if c = 102 then (((X % 10 ^ s : Nat) : Int) : Rat) else if c = 116 then ((((sh X s).1 % 10 ^ (sh X s).2 : Nat) : Int) : Rat) else ((0 : Int) : Rat)
def ois (c : Int) : Bool := decide (c = 110 ∨ c = 105 ∨ c = 118 ∨ c = 119 ∨ c = 102 ∨ c = 116 ∨ c = 101)
theorem seven (c : Int) : c = 110 ∨ c = 105 ∨ c = 118 ∨ c = 119 ∨ c = 102 ∨ c = 116 ∨ c = 101 ∨ (¬ c = 110 ∧ ¬ c = 105 ∧ ¬ c = 118 ∧ ¬ c = 119 ∧ ¬ c = 102 ∧ ¬ c = 116 ∧ ¬ c = 101) := by omega
set_option maxHeartbeats 8000000 in
theorem pcr_value (hG : Stable G) (hs : s ≤ 60) (c : Int) : PCr Tryz.prog G 56 [OD X s, .int .u8 c] (.tup [QD (oval X s c), .bool (ois c)]) := by
  have hw1 := pcr_whole hG (X / 10 ^ s)
  have hw2 := pcr_whole hG (X % 10 ^ s)
  have hw3 := pcr_whole hG ((sh X s).1 % 10 ^ (sh X s).2)
  have hs2 := sh_le s X
  have hi0 := RatT.pcr_int hG 0 (by omega) (by omega)
  have hi1 := RatT.pcr_int hG (s : Int) (by omega) (by omega)
  have hi2 := RatT.pcr_int hG ((sh X s).2 : Int) (by omega) (by omega)
  unfold oval ois
  rcases seven c with rfl | rfl | rfl | rfl | rfl | rfl | rfl | ⟨h1, h2, h3, h4, h5, h6, h7⟩
  · rw [if_pos rfl, QD_dq, decide_eq_true (by omega)]
    refine pcr_by hG (fn := Tryz.f56) (n := 40) (rv := [.cell 4 true 3, .tmp 5]) (by kernel_rfl) ok56 (by kernel_rfl) (by decide) (by kernel_rfl) (by simp) (by kernel_rfl) (fun r hr => ?_); unfold c56 st0
    (exact xwalkd)
  · rw [if_neg (by decide), if_pos rfl, decide_eq_true (by omega)]
    refine pcr_by hG (fn := Tryz.f56) (n := 40) (rv := [.cell 4 true 3, .tmp 5]) (by kernel_rfl) ok56 (by kernel_rfl) (by decide) (by kernel_rfl) (by simp) (by kernel_rfl) (fun r hr => ?_); unfold c56 st0
    (exact xwalkd)
  · rw [if_neg (by decide), if_neg (by decide), if_pos rfl, decide_eq_true (by omega)]
    refine pcr_by hG (fn := Tryz.f56) (n := 40) (rv := [.cell 4 true 3, .tmp 5]) (by kernel_rfl) ok56 (by kernel_rfl) (by decide) (by kernel_rfl) (by simp) (by kernel_rfl) (fun r hr => ?_); unfold c56 st0
    (exact xwalkd)
  · rw [if_neg (by decide), if_neg (by decide), if_neg (by decide), if_pos rfl, decide_eq_true (by omega)]
    refine pcr_by hG (fn := Tryz.f56) (n := 40) (rv := [.cell 4 true 3, .tmp 5]) (by kernel_rfl) ok56 (by kernel_rfl) (by decide) (by kernel_rfl) (by simp) (by kernel_rfl) (fun r hr => ?_); unfold c56 st0
    (exact xwalkd)
  · rw [if_neg (by decide), if_neg (by decide), if_neg (by decide), if_neg (by decide), if_pos rfl, decide_eq_true (by omega)]
    refine pcr_by hG (fn := Tryz.f56) (n := 40) (rv := [.cell 4 true 3, .tmp 5]) (by kernel_rfl) ok56 (by kernel_rfl) (by decide) (by kernel_rfl) (by simp) (by kernel_rfl) (fun r hr => ?_); unfold c56 st0
    (exact xwalkd)
  · rw [if_neg (by decide), if_neg (by decide), if_neg (by decide), if_neg (by decide), if_neg (by decide), if_pos rfl, decide_eq_true (by omega)]
    refine pcr_by hG (fn := Tryz.f56) (n := 40) (rv := [.cell 4 true 3, .tmp 5]) (by kernel_rfl) ok56 (by kernel_rfl) (by decide) (by kernel_rfl) (by simp) (by kernel_rfl) (fun r hr => ?_); unfold c56 st0
    (exact xwalkd)
  · rw [if_neg (by decide), if_neg (by decide), if_neg (by decide), if_neg (by decide), if_neg (by decide), if_neg (by decide), decide_eq_true (by omega)]
    refine pcr_by hG (fn := Tryz.f56) (n := 40) (rv := [.cell 4 true 3, .tmp 5]) (by kernel_rfl) ok56 (by kernel_rfl) (by decide) (by kernel_rfl) (by simp) (by kernel_rfl) (fun r hr => ?_); unfold c56 st0
    (exact xwalkd)
  · rw [if_neg h1, if_neg h2, if_neg h3, if_neg h4, if_neg h5, if_neg h6, decide_eq_false (by omega)]
    refine pcr_by hG (fn := Tryz.f56) (n := 40) (rv := [.cell 4 true 3, .tmp 5]) (by kernel_rfl) ok56 (by kernel_rfl) (by decide) (by kernel_rfl) (by simp) (by kernel_rfl) (fun r hr => ?_); unfold c56 st0
    (exact xwalkd)
theorem qm_natq (h : 1 ≤ M) (hx : X < 4294967296 ^ M) : Qm M (((X : Nat) : Int) : Rat) (QD (((X : Nat) : Int) : Rat)) := qm_QD h (by rw [Rat.num_intCast, Int.natAbs_natCast]; exact hx) (by rw [Rat.den_intCast]; exact pow_one_le h)
theorem dq_qmf (hs : s ≤ 60) (hx : X < 4294967296 ^ L) : Qm (L + 7) (dq b X s) (QD (dq b X s)) := by
  refine qm_le (by omega) ?_ ?_
  · rw [sg_abs, Nat.pow_add]
    have := Nat.pow_pos (n := 7) (show 0 < 4294967296 by omega)
    have h2 := Nat.le_mul_of_pos_right (4294967296 ^ L) this
    omega
  · refine Nat.lt_of_lt_of_le (ten_lt hs) (Nat.pow_le_pow_right (by omega) (by omega))
theorem oval_qm (hs : s ≤ 60) (hx : X < 4294967296 ^ L) (c : Int) : Qm (L + 7) (oval X s c) (QD (oval X s c)) := by
  have hp : 4294967296 ^ L ≤ 4294967296 ^ (L + 7) := Nat.pow_le_pow_right (by omega) (by omega)
  have hp2 : 4294967296 ^ 7 ≤ 4294967296 ^ (L + 7) := Nat.pow_le_pow_right (by omega) (by omega)
  have hs2 := sh_le s X
  have h7 : 60 < 4294967296 ^ 7 := by decide
  have hsx := sh_fst_le s X
  unfold oval
  split
  · exact dq_qmf hs hx
  split
  · exact qm_natq (by omega) (by have := Nat.div_le_self X (10 ^ s); omega)
  split
  · exact qm_natq (by omega) (by omega)
  split
  · exact qm_natq (by omega) (by omega)
  split
  · exact qm_natq (by omega) (by have := Nat.mod_le X (10 ^ s); omega)
  split
  · exact qm_natq (by omega) (by have := Nat.mod_le (sh X s).1 (10 ^ (sh X s).2); omega)
  · exact qm_natq (X := 0) (by omega) (by omega)
end Go.Proofs.YtapikjmijmebpaaGreatDoorK.OperT
