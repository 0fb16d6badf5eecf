/-
  Package rat: Pow, Floor, Text, Good, Parse: what they compute.
-/
import Derived.Test.YtnildflhdkdbiaaGreatDoorKIrRat
import Derived.Test.YtnildflhdkdbiaaGreatDoorKRatA
import Derived.Test.YtnildflhdkdbiaaGreatDoorKP
set_option linter.all false
set_option linter.unusedVariables false
set_option linter.unusedSimpArgs false
set_option maxHeartbeats 4000000
namespace Go.Proofs.YtnildflhdkdbiaaGreatDoorK.RatT
open Go.Proofs.YtnildflhdkdbiaaGreatDoorK.AI Go.Proofs.YtnildflhdkdbiaaGreatDoorK.NatIr Go.Proofs.YtnildflhdkdbiaaGreatDoorK.Dig Go.Proofs.YtnildflhdkdbiaaGreatDoorK.NatT Go.Proofs.YtnildflhdkdbiaaGreatDoorK.NumT Go.Proofs.YtnildflhdkdbiaaGreatDoorK.LibT
set_option linter.unusedSimpArgs false
attribute [local irreducible] awp awpOps
attribute [local go_sem] getO putE_same putE_ne putE_none un0_at ini_zero ini_one ini_two ini_three ne_eq not_false_eq_true Nat.zero_ne_one Nat.one_ne_zero zero_ne_succ succ_ne_zero sym_nil sym_cons symG_call symG_op symG_skip IOp.isCall gd st_mv st_pick st_new st_box st_build st_lit st_load st_store st_faddr st_fld st_iaddrS st_iaddrA st_idxs st_bin st_beq st_neg st_not st_conv st_slcS st_slcL st_make st_app st_lenS st_lenL st_mx st_mn st_ext st_nilck pureC loadC setH hv boundO D.cells D.one D.boxable fillD putD rowD binC intBinC decT decF dec_true dec_false bne_self_eq_false beq_self_eq_true beq_true_false beq_false_true bne_iff_ne List.length_nil List.length_cons List.getD_cons_zero List.getD_cons_succ List.set_cons_zero List.set_cons_succ List.all_cons List.all_nil Bool.and_true Bool.true_and Nat.lt_irrefl Nat.sub_self Nat.zero_add Nat.add_zero Nat.mul_one Nat.lt_add_one if_true if_false List.replicate_zero List.nil_append List.cons_append List.append_nil List.map_cons List.map_nil Bool.false_eq_true or_self or_true true_or or_false false_or true_and and_true and_self Int.ofNat_zero wrap_i64 wrap_u32 wrap_u64 wrap_u8 wrap_u32_mod wrap_u64_mod Nat.zero_lt_one Int.toNat_natCast Int.sub_zero toNat_pred List.take_succ_cons List.take_zero List.drop_succ_cons List.drop_zero List.take_nil List.drop_nil Nat.le_refl List.length_singleton rvDs rvD ldD one? Option.bind_some Option.map_some resD_int resD_bool resD_str resD_sl resD_rp resD_nils resD_null resD_agg resD_tup resD_own rdOwn resD_ptr rdPtr rd_ite resL_eq go_nil go_cons D.imm resArgs shr32 shl32 Nat.zero_mul Bool.and_self Bool.and_false Bool.false_and strBin_eql strBin_neq Bool.not_true Bool.not_false i64max List.length_reverse List.length_set SS_length SS_getD SS_set SS_take SS_drop SS_imm SS_one SS_app1 W_get1 W_len1 W_getD W_set W_take W_drop W_app W_length W_imm W_one W_repl N mx_nat toNat_succ toNat_add toNat_pred2 tdiv_nn tmod_nn List.take_of_length_le cast_succ and_one or_shl32 min64 shr32b shl32b IntKind.bits
attribute [local go_sem] nl ZD
attribute [local go_sem] QD
variable {G : World → Prop} {L M X Y : Nat} {x y r : Rat} {d e : D}
theorem neg_pow {z : Int} (hz : z < 0) : ∀ K : Nat, (K % 2 = 0 → 0 < z ^ K) ∧ (K % 2 = 1 → z ^ K < 0)
  | 0 => ⟨fun _ => by simp, fun h => by simp at h⟩
  | K + 1 => by
    obtain ⟨h1, h2⟩ := neg_pow hz K
    rw [Int.pow_succ]
    exact ⟨fun h => Int.mul_pos_of_neg_of_neg (h2 (by omega)) hz, fun h => Int.mul_neg_of_pos_of_neg (h1 (by omega)) hz⟩
theorem ng_pow (z : Int) (K : Nat) : ng (z ^ K) = (ng z && decide (K % 2 = 1)) := by
  unfold ng
  by_cases hz : z < 0
  · obtain ⟨h1, h2⟩ := neg_pow hz K
    rw [decide_eq_true hz, Bool.true_and]
    refine decide_eq_decide.2 ⟨fun h => ?_, h2⟩
    rcases Nat.mod_two_eq_zero_or_one K with h3 | h3
    · have := h1 h3; omega
    · exact h3
  · have : 0 ≤ z ^ K := Int.pow_nonneg (by omega)
    rw [decide_eq_false hz, Bool.false_and]
    exact decide_eq_false (by omega)
theorem QD_pow (r : Rat) (K : Nat) : QD (r ^ K) = .agg [.bool (ng r.num && decide (K % 2 = 1)), nl (r.num.natAbs ^ K), nl (r.den ^ K)] := by
  rw [QD, Rat.num_pow, Rat.den_pow, ng_pow, Int.natAbs_pow]
theorem qm_pow (hx : Qm L r d) (K : Nat) : Qm (L * K + 1) (r ^ K) (QD (r ^ K)) := by
  refine qm_QD (by omega) ?_ ?_
  · rw [Rat.num_pow, Int.natAbs_pow]; exact (nm_pow (zm_num hx |>.row.choose_spec.choose_spec.choose_spec.1) K).lt
  · rw [Rat.den_pow]; exact (nm_pow (nm_den hx) K).lt
theorem pcr_pow (hG : Stable G) (hx : Qm L r d) (K : Nat) (h : L < 200) (hk : K < 1000) : PCr Tryz.prog G 71 [d, .int .i64 K] (.tup [QD (r ^ K), .bool true]) := by
  have hp := pcr_plain hG hx (by omega)
  have h1 := pcr_powN hG (nm_N hx.lt.1) K (by omega) (by omega)
  have h2 := pcr_powN hG (nm_den hx) K (by omega) (by omega)
  rw [Int.toNat_natCast] at h1 h2
  rw [QD_pow]
  have hodd : decide ((K : Int) % 2 = 1) = decide (K % 2 = 1) := decide_eq_decide.2 (by omega)
  obtain ⟨b1, X1, Y1, n1, m1, cs1, ds1, _, _, _, rfl⟩ := hx.row
  cases hb : ng r.num
  · rw [QD, hb] at hp
    refine pcr_by hG (fn := Tryz.f71) (n := 52) (rv := [.cell 4 true 3, .tmp 5]) (by kernel_rfl) ok71 (by kernel_rfl) (by decide) (by kernel_rfl) (by simp) (by kernel_rfl) (fun r hr => ?_); unfold c71 st0
    refine xctl ?_
    refine xrg ?_
    refine xctl ?_
    refine xrg ?_; (refine xca1 ?_; refine xca (hp) ?_)
    refine xrg ?_
    refine xctl ?_
    refine xrg ?_
    refine xctl ?_
    refine xcF ?_
    refine xctl ?_
    refine xrg ?_; (refine xca1 ?_; refine xca (h1) ?_)
    refine xrg ?_; (refine xca1 ?_; refine xca (h2) ?_)
    refine xrg ?_
    refine xctl ?_
    refine xdr ?_
    refine xctl ?_
    refine xrt ?_
    rw [hr]; rfl
  · rw [QD, hb] at hp
    refine pcr_by hG (fn := Tryz.f71) (n := 52) (rv := [.cell 4 true 3, .tmp 5]) (by kernel_rfl) ok71 (by kernel_rfl) (by decide) (by kernel_rfl) (by simp) (by kernel_rfl) (fun r hr => ?_); unfold c71 st0
    refine xctl ?_
    refine xrg ?_
    refine xctl ?_
    refine xrg ?_; (refine xca1 ?_; refine xca (hp) ?_)
    refine xrg ?_
    refine xctl ?_
    refine xrg ?_
    refine xctl ?_
    refine xcF ?_
    refine xctl ?_
    refine xrg ?_; (refine xca1 ?_; refine xca (h1) ?_)
    refine xrg ?_; (refine xca1 ?_; refine xca (h2) ?_)
    refine xrg ?_
    refine xctl ?_
    refine xdr ?_
    refine xctl ?_
    refine xrt ?_
    rw [hr]
    simp only [Bool.true_and, hodd]
    rfl
/-- To a power below nought: -(K + 1). -/
theorem pcr_powneg (hG : Stable G) (hx : Qm L r d) (K : Nat) (h : L < 200) (hk : K < 100) (h0 : r ≠ 0) (k : Int) (hkk : k = -((K : Int) + 1)) : PCr Tryz.prog G 71 [d, .int .i64 k] (.tup [QD (r⁻¹ ^ (K + 1)), .bool true]) := by
  have hp := pcr_plain hG hx (by omega)
  have h1 := pcr_inv hG hx.self (by omega) h0
  have h2 := pcr_pow hG (qm_inv hx) K h (by omega)
  have hb : L * K ≤ 200 * 100 := Nat.mul_le_mul (by omega) (by omega)
  have h3 := pcr_mul hG (qm_inv hx) (qm_pow (qm_inv hx) K) (by omega) (by omega)
  rw [show r⁻¹ * r⁻¹ ^ K = r⁻¹ ^ (K + 1) by rw [Rat.pow_succ, Rat.mul_comm]] at h3
  have e1 : (0 : Int) - (k + 1) = K := by omega
  obtain ⟨b1, X1, Y1, n1, m1, cs1, ds1, _, _, _, rfl⟩ := hx.row
  refine pcr_by hG (fn := Tryz.f71) (n := 52) (rv := [.cell 4 true 3, .tmp 5]) (by kernel_rfl) ok71 (by kernel_rfl) (by decide) (by kernel_rfl) (by simp) (by kernel_rfl) (fun r hr => ?_); unfold c71 st0
  refine xctl ?_
  refine xrg ?_
  refine xctl ?_
  refine xrg ?_; (refine xca1 ?_; refine xca (hp) ?_)
  refine xrg ?_
  refine xctl ?_
  refine xrg ?_
  refine xctl ?_
  refine xct ?_
  refine xctl ?_
  refine xrg ?_; (refine xca1 ?_; refine xca (h1) ?_)
  refine xrg ?_
  refine xctl ?_
  refine xrg ?_
  refine xctl ?_
  refine xcF ?_
  refine xctl ?_
  refine ops_sym (by simp (disch := omega) only [go_sem, Nat.reduceEqDiff, Nat.reduceAdd, Nat.reduceLT, Nat.reduceMul, Nat.reduceLeDiff, reduceCtorEq, Int.reduceNeg, Int.reduceToNat, e1]; rfl) (by first | with_reducible exact True.intro | omega) ?_
  refine xca1 ?_; refine xca h2 ?_
  refine xrg ?_
  refine xctl ?_
  refine xrg ?_; (refine xca1 ?_; refine xca (h3) ?_)
  refine xrg ?_
  refine xctl ?_
  refine xrt ?_
  exact hr.symm
theorem pcr_powneg0 (hG : Stable G) (hx : Qm L 0 d) (h : L < 200) (k : Int) (hk : k < 0) : PCr Tryz.prog G 71 [d, .int .i64 k] (.tup [QD 0, .bool false]) := by
  have hp := pcr_plain hG hx (by omega)
  have h1 := pcr_inv0 hG hx.self (by omega)
  have h2 := pcr_none hG
  obtain ⟨b1, X1, Y1, n1, m1, cs1, ds1, _, _, _, rfl⟩ := hx.row
  refine pcr_by hG (fn := Tryz.f71) (n := 52) (rv := [.cell 4 true 3, .tmp 5]) (by kernel_rfl) ok71 (by kernel_rfl) (by decide) (by kernel_rfl) (by simp) (by kernel_rfl) (fun r hr => ?_); unfold c71 st0
  refine xctl ?_
  refine xrg ?_
  refine xctl ?_
  refine xrg ?_; (refine xca1 ?_; refine xca (hp) ?_)
  refine xrg ?_
  refine xctl ?_
  refine xrg ?_
  refine xctl ?_
  refine xct ?_
  refine xctl ?_
  refine xrg ?_; (refine xca1 ?_; refine xca (h1) ?_)
  refine xrg ?_
  refine xctl ?_
  refine xrg ?_
  refine xctl ?_
  refine xct ?_
  refine xctl ?_
  refine xrg ?_; (refine xca1 ?_; refine xca (h2) ?_)
  refine xrg ?_
  refine xctl ?_
  refine xrt ?_
  exact hr.symm
theorem pcr_floor (hG : Stable G) (hx : Qm L r d) (h : L < 150000) : PCr Tryz.prog G 60 [d] (ZD r.floor) := by
  have hp := pcr_plain hG hx h
  have hd := NumT.pcr_div hG (zm_num hx) (zm_sg (b := false) (nm_den hx)) h h (show sg false r.den ≠ 0 by have := r.den_nz; simp [sg]; exact this)
  rw [show r.num / sg false r.den = r.floor from (Rat.floor_def r).symm] at hd
  obtain ⟨b1, X1, Y1, n1, m1, cs1, ds1, _, _, _, rfl⟩ := hx.row
  refine pcr_by hG (fn := Tryz.f60) (n := 19) (rv := [.cell 2 true 2]) (by kernel_rfl) ok60 (by kernel_rfl) (by decide) (by kernel_rfl) (by simp) (by kernel_rfl) (fun r hr => ?_); unfold c60 st0
  refine xctl ?_
  refine xrg ?_
  refine xctl ?_
  refine xrg ?_; (refine xca1 ?_; refine xca (hp) ?_)
  refine xrg ?_
  refine xctl ?_
  refine xrg ?_; (refine xca1 ?_; refine xca (hd) ?_)
  refine xrg ?_
  refine xctl ?_
  refine xrg ?_
  refine xctl ?_
  refine xrt ?_
  exact hr.symm
/-- A fraction's text. -/
def qT (r : Rat) : List UInt8 := if r.den = 1 then zT r.num else zT r.num ++ 47 :: Lib.decDigits r.den
theorem ba_app (l m : List UInt8) : (⟨l.toArray⟩ : ByteArray) ++ ⟨m.toArray⟩ = ⟨(l ++ m).toArray⟩ := ba_ext (by simp [ByteArray.data_append])
theorem pcr_text (hG : Stable G) (hT : ∀ w, G w → Lib.TabIs Tryz.prog w "internal/strconv.uint64pow10" .u64 Lib.pow10Tab) (hx : Qm L x d) (h : L < 100000) : PCr Tryz.prog G 58 [d] (.str ⟨(qT x).toArray⟩) := by
  have hp := pcr_plain hG hx (by omega)
  have h1 := pcr_one hG
  have hc := pcr_cmpN hG (nm_den hx) nm1 (by omega) (by omega)
  have ht := NumT.pcr_text hG hT (zm_num hx) (by omega)
  have hl := zT_len (zm_num hx)
  have ht2 := pcr_textN hG hT (nm_den hx) (by omega)
  have hl2 := nm_dlen (nm_den hx)
  have hce : decide (cmpN x.den 1 = 0) = decide (x.den = 1) := by
    unfold cmpN
    have := x.den_nz
    refine decide_eq_decide.2 ?_
    split
    · omega
    · split <;> simp_all
  have s1 : (zT x.num).toArray.size = (zT x.num).length := by simp
  have s2 : (Lib.decDigits x.den).toArray.size = (Lib.decDigits x.den).length := by simp
  have s3 : (#[47] : Array UInt8).size = 1 := rfl
  have s4 : ((⟨(zT x.num).toArray⟩ : ByteArray) ++ ⟨#[47]⟩).size = (zT x.num).length + 1 := by rw [ByteArray.size_append, ba_size]; rfl
  obtain ⟨b1, X1, Y1, n1, m1, cs1, ds1, _, _, _, rfl⟩ := hx.row
  unfold qT
  refine pcr_by hG (fn := Tryz.f58) (n := 21) (rv := [.tmp 2]) (by kernel_rfl) ok58 (by kernel_rfl) (by decide) (by kernel_rfl) (by simp) (by kernel_rfl) (fun r hr => ?_); unfold c58 st0
  refine xctl ?_
  refine xrg ?_
  refine xctl ?_
  refine xrg ?_; (refine xca1 ?_; refine xca (hp) ?_)
  refine xrg ?_
  refine xctl ?_
  refine xrg ?_; (refine xca1 ?_; refine xca (h1) ?_)
  refine xrg ?_; (refine xcf1 ?_; refine xcf (hc) rfl ?_)
  refine ops_sym (by simp (disch := omega) only [go_sem, Nat.reduceEqDiff, Nat.reduceAdd, Nat.reduceLT, Nat.reduceMul, Nat.reduceLeDiff, reduceCtorEq, Int.reduceNeg, Int.reduceToNat, hce]; rfl) (by first | with_reducible exact True.intro | omega) ?_
  refine xctl ?_
  refine xdr ?_
  refine xctl ?_
  by_cases hd : x.den = 1
  · rw [if_pos hd] at hr
    refine xct ?_ (by simp only [go_sem, Nat.reduceEqDiff, Nat.reduceAdd, Nat.reduceLT, Nat.reduceMul, Nat.reduceLeDiff, reduceCtorEq, Int.reduceNeg, Int.reduceToNat]; exact congrArg D.bool (decide_eq_true hd))
    refine xctl ?_
    refine xrg ?_; (refine xca1 ?_; refine xca (ht) ?_)
    refine xrg ?_
    refine xctl ?_
    refine xrt ?_
    exact hr.symm
  · rw [if_neg hd] at hr
    refine xcF ?_ (by simp only [go_sem, Nat.reduceEqDiff, Nat.reduceAdd, Nat.reduceLT, Nat.reduceMul, Nat.reduceLeDiff, reduceCtorEq, Int.reduceNeg, Int.reduceToNat]; exact congrArg D.bool (decide_eq_false hd))
    refine xctl ?_
    refine xrg ?_; (refine xca1 ?_; refine xca (ht) ?_)
    refine xrg ?_; (refine xca1 ?_; refine xca (ht2) ?_)
    refine xrg ?_
    refine xctl ?_
    refine xdr ?_
    refine xctl ?_
    refine xrt ?_
    rw [hr]
    refine congrArg D.str ?_
    rw [show (⟨#[47]⟩ : ByteArray) = ⟨[47].toArray⟩ from rfl, ba_app, ba_app, List.append_assoc]; rfl
end Go.Proofs.YtnildflhdkdbiaaGreatDoorK.RatT
