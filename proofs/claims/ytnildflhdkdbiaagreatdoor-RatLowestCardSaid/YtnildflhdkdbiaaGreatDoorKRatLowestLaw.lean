/-
  cubitlaw3.RatLowest answers true.
-/
import Derived.Test.YtnildflhdkdbiaaGreatDoorKIrLRatLowest
import Derived.Test.YtnildflhdkdbiaaGreatDoorKAwakeE3
import Derived.Test.YtnildflhdkdbiaaGreatDoorKLongQ3
set_option linter.all false
set_option linter.unusedVariables false
set_option linter.unusedSimpArgs false
set_option maxHeartbeats 4000000
namespace Go.Proofs.YtnildflhdkdbiaaGreatDoorK.LawT3
open Go.Proofs.YtnildflhdkdbiaaGreatDoorK.AI Go.Proofs.YtnildflhdkdbiaaGreatDoorK.NatIr Go.Proofs.YtnildflhdkdbiaaGreatDoorK.Dig Go.Proofs.YtnildflhdkdbiaaGreatDoorK.NatT Go.Proofs.YtnildflhdkdbiaaGreatDoorK.NumT Go.Proofs.YtnildflhdkdbiaaGreatDoorK.RatT
set_option linter.unusedSimpArgs false
attribute [local irreducible] awp awpOps
attribute [local go_sem] getO putE_same putE_ne putE_none un0_at ini_zero ini_one ini_two ini_three ne_eq not_false_eq_true Nat.zero_ne_one Nat.one_ne_zero zero_ne_succ succ_ne_zero sym_nil sym_cons symG_call symG_op symG_skip IOp.isCall gd st_mv st_pick st_new st_box st_build st_lit st_load st_store st_faddr st_fld st_iaddrS st_iaddrA st_idxs st_bin st_beq st_neg st_not st_conv st_slcS st_slcL st_make st_app st_lenS st_lenL st_mx st_mn st_ext st_nilck pureC loadC setH hv boundO D.cells D.one D.boxable fillD putD rowD binC intBinC decT decF dec_true dec_false bne_self_eq_false beq_self_eq_true beq_true_false beq_false_true bne_iff_ne List.length_nil List.length_cons List.getD_cons_zero List.getD_cons_succ List.set_cons_zero List.set_cons_succ List.all_cons List.all_nil Bool.and_true Bool.true_and Nat.lt_irrefl Nat.sub_self Nat.zero_add Nat.add_zero Nat.mul_one Nat.lt_add_one if_true if_false List.replicate_zero List.nil_append List.cons_append List.append_nil List.map_cons List.map_nil Bool.false_eq_true or_self or_true true_or or_false false_or true_and and_true and_self Int.ofNat_zero wrap_i64 wrap_u32 wrap_u64 wrap_u8 wrap_u32_mod wrap_u64_mod Nat.zero_lt_one Int.toNat_natCast Int.sub_zero toNat_pred List.take_succ_cons List.take_zero List.drop_succ_cons List.drop_zero List.take_nil List.drop_nil Nat.le_refl List.length_singleton rvDs rvD ldD one? Option.bind_some Option.map_some resD_int resD_bool resD_str resD_sl resD_rp resD_nils resD_null resD_agg resD_tup resD_own rdOwn resD_ptr rdPtr rd_ite resL_eq go_nil go_cons D.imm resArgs shr32 shl32 Nat.zero_mul Bool.and_self Bool.and_false Bool.false_and strBin_eql strBin_neq Bool.not_true Bool.not_false i64max List.length_reverse List.length_set SS_length SS_getD SS_set SS_take SS_drop SS_imm SS_one SS_app1 W_get1 W_len1 W_getD W_set W_take W_drop W_app W_length W_imm W_one W_repl N mx_nat toNat_succ toNat_add toNat_pred2 tdiv_nn tmod_nn List.take_of_length_le cast_succ and_one or_shl32 min64 shr32b shl32b IntKind.bits
attribute [local go_sem] nl ZD
attribute [local go_sem] QD
attribute [local go_sem] not_true_eq_false not_false_eq_true
variable {G : World → Prop}
set_option maxHeartbeats 8000000 in
theorem pcr_lowest_law (hG : Stable G) (hT : ∀ w, G w → Lib.TabIs Tryz.prog w "internal/strconv.uint64pow10" .u64 Lib.pow10Tab) (hM : ∀ w, G w → LibT.gMax w)
    (p : Int) (hp : -9223372036854775808 ≤ p ∧ p ≤ 9223372036854775807) (q0 : Int) (hq : 0 ≤ q0 ∧ q0 ≤ 18446744073709551615) (k0 : Int) (hk : 0 ≤ k0 ∧ k0 ≤ 18446744073709551615) :
    PCr Tryz.prog G 7 [.int .i64 p, .int .u64 q0, .int .u64 k0] (.bool true) := by
  obtain ⟨q, rfl⟩ := Int.eq_ofNat_of_zero_le hq.1
  obtain ⟨k, rfl⟩ := Int.eq_ofNat_of_zero_le hk.1
  have hop := NumT.pcr_of hG p hp.1 hp.2
  have hoq := NatT.pcr_of hG q (by omega)
  have hok := NatT.pcr_of hG k (by omega)
  have hpz : Zm 2 p (ZD p) := zm_ZD (by omega)
  have hpm : Nm 2 p.natAbs (.agg [nl p.natAbs]) := nm_N (by omega)
  have hqm : Nm 2 q (N q) := nm_N (by omega)
  have hkm : Nm 2 k (N k) := nm_N (by omega)
  have hmu := NumT.pcr_mul hG hpz (zm_sg (b := false) hkm) (by omega) (by omega)
  have hmm : Nm 4 (p * sg false k).natAbs (.agg [nl (p * sg false k).natAbs]) := nm_N (zm_mul hpz (zm_sg (b := false) hkm)).lt
  have hqk := pcr_mulN hG hqm hkm (by omega) (by omega)
  have hqkm := nm_mul hqm hkm
  refine pcr_by hG (fn := Tryz.f7) (n := 78) (rv := [.tmp 6]) (by kernel_rfl) ok7 (by kernel_rfl) (by decide) (by kernel_rfl) (by simp) (by kernel_rfl) (fun r hr => ?_); unfold c7 st0
  (refine xctl ?_); refine xrg ?_; (refine xctl ?_); refine xrg ?_; (refine xca1 ?_; refine xca (pcr_awake hG hT hM) ?_); refine xrg ?_; (refine xctl ?_); refine xcF ?_; (refine xctl ?_)
  by_cases h0 : k = 0
  · refine xrg ?_; (refine xctl ?_); refine xct ?_; (refine xctl ?_); refine xrg ?_; (refine xctl ?_); refine xrt ?_; exact hr.symm
  · refine xrg ?_
    refine xctl ?_
    refine xcF ?_
    refine xctl ?_
    refine xrg ?_; (refine xca1 ?_; refine xca (hop) ?_)
    refine xrg ?_; (refine xca1 ?_; refine xca (hoq) ?_)
    by_cases hq0 : q = 0
    · subst hq0
      refine xrg ?_; (refine xca1 ?_; refine xca (RatT.pcr_of0 hG hpm hqm (by omega) (by omega)) ?_)
      refine xrg ?_
      refine xctl ?_
      refine xrg ?_; (refine xca1 ?_; refine xca (hop) ?_)
      refine xrg ?_; (refine xca1 ?_; refine xca (hok) ?_)
      refine xrg ?_; (refine xca1 ?_; refine xca (hmu) ?_)
      refine xrg ?_; (refine xca1 ?_; refine xca (hoq) ?_)
      refine xrg ?_; (refine xca1 ?_; refine xca (hok) ?_)
      refine xrg ?_; (refine xca1 ?_; refine xca (hqk) ?_)
      rw [Nat.zero_mul] at hqkm
      refine xrg ?_; (refine xca1 ?_; refine xca (RatT.pcr_of0 hG hmm hqkm (by omega) (by omega)) ?_)
      refine xrg ?_
      refine xctl ?_
      refine xrg ?_
      refine xctl ?_
      refine xct ?_
      refine xctl ?_
      refine xrg ?_
      refine xctl ?_
      refine xrt ?_
      exact hr.symm
    · have hof := RatT.pcr_of hG (b := ng p) hpm hqm hq0 (by omega) (by omega)
      rw [sg_self] at hof
      have hqk0 : q * k ≠ 0 := Nat.mul_ne_zero hq0 h0
      have hof2 := RatT.pcr_of hG (b := ng (p * sg false k)) hmm hqkm hqk0 (by omega) (by omega)
      rw [sg_self, show mkRat (p * sg false k) (q * k) = mkRat p q from Rat.mkRat_mul_right h0] at hof2
      have hQ : Qm 2 (mkRat p q) (QD (mkRat p q)) := qm_le (by omega) (by omega) (by omega)
      generalize mkRat p q = x at *
      have hgd := RatT.pcr_good hG hQ (by omega)
      have htx := RatT.pcr_text hG hT hQ (by omega)
      have hg := pcr_gcdN hG (nm_N hQ.lt.1) (nm_den hQ) (by omega) (by omega)
      rw [show Nat.gcd x.num.natAbs x.den = 1 from x.reduced] at hg
      have h1 := NatT.pcr_of hG 1 (by omega)
      have hc := pcr_cmpN hG nm1 nm1 (by omega) (by omega)
      rw [cmpN_self] at hc
      refine xrg ?_; (refine xca1 ?_; refine xca (hof) ?_)
      refine xrg ?_
      refine xctl ?_
      refine xrg ?_; (refine xca1 ?_; refine xca (hop) ?_)
      refine xrg ?_; (refine xca1 ?_; refine xca (hok) ?_)
      refine xrg ?_; (refine xca1 ?_; refine xca (hmu) ?_)
      refine xrg ?_; (refine xca1 ?_; refine xca (hoq) ?_)
      refine xrg ?_; (refine xca1 ?_; refine xca (hok) ?_)
      refine xrg ?_; (refine xca1 ?_; refine xca (hqk) ?_)
      refine xrg ?_; (refine xca1 ?_; refine xca (hof2) ?_)
      refine xrg ?_
      refine xctl ?_
      refine xrg ?_
      refine xctl ?_
      refine xcF ?_
      refine xctl ?_
      refine xrg ?_; (refine xca1 ?_; refine xca (hgd) ?_)
      refine xrg ?_; (refine xcga1 ?_; refine xca (hgd) ?_)
      refine xrg ?_; (refine xcga1 ?_; refine xca (htx) ?_)
      refine xrg ?_; (refine xcga1 ?_; refine xca (htx) ?_)
      refine xrg ?_; (refine xcga1 ?_; refine xca (hg) ?_)
      refine xrg ?_; (refine xcga1 ?_; refine xca (h1) ?_)
      refine xrg ?_; (refine xcga1 ?_; refine xca (hc) ?_)
      refine xrg ?_
      refine xctl ?_
      refine xdr ?_
      refine xctl ?_
      refine xrt ?_
      exact hr.symm
end Go.Proofs.YtnildflhdkdbiaaGreatDoorK.LawT3
