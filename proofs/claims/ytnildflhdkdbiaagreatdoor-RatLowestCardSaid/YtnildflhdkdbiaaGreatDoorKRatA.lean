/-
  Package rat: one, none, zero, Of, plain, Sign, Neg, times, Add, Mul, Cmp, Int, Inv: what they compute.
-/
import Derived.Test.YtnildflhdkdbiaaGreatDoorKIrRat
import Derived.Test.YtnildflhdkdbiaaGreatDoorKQm
set_option linter.all false
set_option linter.unusedVariables false
set_option linter.unusedSimpArgs false
set_option maxHeartbeats 4000000
namespace Go.Proofs.YtnildflhdkdbiaaGreatDoorK.RatT
open Go.Proofs.YtnildflhdkdbiaaGreatDoorK.AI Go.Proofs.YtnildflhdkdbiaaGreatDoorK.NatIr Go.Proofs.YtnildflhdkdbiaaGreatDoorK.Dig Go.Proofs.YtnildflhdkdbiaaGreatDoorK.NatT Go.Proofs.YtnildflhdkdbiaaGreatDoorK.NumT Go.Proofs.YtnildflhdkdbiaaGreatDoorK.LibT
set_option linter.unusedSimpArgs false
attribute [local irreducible] awp awpOps
attribute [local go_sem] getO putE_same putE_ne putE_none un0_at ini_zero ini_one ini_two ini_three ne_eq not_false_eq_true Nat.zero_ne_one Nat.one_ne_zero zero_ne_succ succ_ne_zero sym_nil sym_cons symG_call symG_op symG_skip IOp.isCall gd st_mv st_pick st_new st_box st_build st_lit st_load st_store st_faddr st_fld st_iaddrS st_iaddrA st_idxs st_bin st_beq st_neg st_not st_conv st_slcS st_slcL st_make st_app st_lenS st_lenL st_mx st_mn st_ext st_nilck pureC loadC setH hv boundO D.cells D.one D.boxable fillD putD rowD binC intBinC decT decF dec_true dec_false bne_self_eq_false beq_self_eq_true beq_true_false beq_false_true bne_iff_ne List.length_nil List.length_cons List.getD_cons_zero List.getD_cons_succ List.set_cons_zero List.set_cons_succ List.all_cons List.all_nil Bool.and_true Bool.true_and Nat.lt_irrefl Nat.sub_self Nat.zero_add Nat.add_zero Nat.mul_one Nat.lt_add_one if_true if_false List.replicate_zero List.nil_append List.cons_append List.append_nil List.map_cons List.map_nil Bool.false_eq_true or_self or_true true_or or_false false_or true_and and_true and_self Int.ofNat_zero wrap_i64 wrap_u32 wrap_u64 wrap_u8 wrap_u32_mod wrap_u64_mod Nat.zero_lt_one Int.toNat_natCast Int.sub_zero toNat_pred List.take_succ_cons List.take_zero List.drop_succ_cons List.drop_zero List.take_nil List.drop_nil Nat.le_refl List.length_singleton rvDs rvD ldD one? Option.bind_some Option.map_some resD_int resD_bool resD_str resD_sl resD_rp resD_nils resD_null resD_agg resD_tup resD_own rdOwn resD_ptr rdPtr rd_ite resL_eq go_nil go_cons D.imm resArgs shr32 shl32 Nat.zero_mul Bool.and_self Bool.and_false Bool.false_and strBin_eql strBin_neq Bool.not_true Bool.not_false i64max List.length_reverse List.length_set SS_length SS_getD SS_set SS_take SS_drop SS_imm SS_one SS_app1 W_get1 W_len1 W_getD W_set W_take W_drop W_app W_length W_imm W_one W_repl N mx_nat toNat_succ toNat_add toNat_pred2 tdiv_nn tmod_nn List.take_of_length_le cast_succ and_one or_shl32 min64 shr32b shl32b IntKind.bits
attribute [local go_sem] nl ZD
attribute [local go_sem] QD
variable {G : World → Prop} {L M X Y : Nat} {x y r : Rat} {d e : D}
theorem N_one : N 1 = .agg [nl 1] := rfl
theorem nm1 : Nm 1 1 (N 1) := nm_N (by omega)
theorem pcr_one (hG : Stable G) : PCr Tryz.prog G 111 [] (N 1) := by
  have h1 := NatT.pcr_of hG 1 (by omega)
  refine pcr_by hG (fn := Tryz.f111) (n := 2) (rv := [.cell 0 true 1]) (by kernel_rfl) ok111 (by kernel_rfl) (by decide) (by kernel_rfl) (by simp) (by kernel_rfl) (fun r hr => ?_); unfold c111 st0
  refine xctl ?_
  refine xrg ?_
  refine xctl ?_
  refine xrg ?_; (refine xca1 ?_; refine xca (h1) ?_)
  refine xrg ?_
  refine xctl ?_
  refine xrt ?_
  exact hr.symm
theorem pcr_none (hG : Stable G) : PCr Tryz.prog G 110 [] (QD 0) := by
  have h1 := pcr_one hG
  rw [QD_zero]
  refine pcr_by hG (fn := Tryz.f110) (n := 3) (rv := [.cell 0 true 3]) (by kernel_rfl) ok110 (by kernel_rfl) (by decide) (by kernel_rfl) (by simp) (by kernel_rfl) (fun r hr => ?_); unfold c110 st0
  refine xctl ?_
  refine xrg ?_
  refine xctl ?_
  refine xrg ?_; (refine xca1 ?_; refine xca (h1) ?_)
  refine xrg ?_
  refine xctl ?_
  refine xrt ?_
  exact hr.symm
theorem pcr_rzero (hG : Stable G) (hx : Nm L X d) (h : L < 1000000) : PCr Tryz.prog G 109 [d] (.bool (decide (X = 0))) := by
  obtain ⟨n, cs, rfl⟩ := hx.un
  have hc := pcr_cmpN hG hx nm0 h (by omega)
  refine pcr_by hG (fn := Tryz.f109) (n := 7) (rv := [.tmp 2]) (by kernel_rfl) ok109 (by kernel_rfl) (by decide) (by kernel_rfl) (by simp) (by kernel_rfl) (fun r hr => ?_); unfold c109 st0
  refine xctl ?_
  refine xrg ?_
  refine xctl ?_
  refine xrg ?_; (refine xcf1 ?_; refine xcf (hc) rfl ?_)
  refine xrg ?_
  refine xctl ?_
  refine xrt ?_
  rw [hr, cmpN_zero]
theorem pcr_of (hG : Stable G) {b : Bool} (hx : Nm L X (.agg [d])) (hy : Nm M Y (.agg [e])) (hY : Y ≠ 0) (h1 : L < 150000) (h2 : M < 150000) :
    PCr Tryz.prog G 55 [.agg [.bool b, d], .agg [e]] (.tup [QD (mkRat (sg b X) Y), .bool true]) := by
  obtain ⟨n, cs, he⟩ := hx.un
  cases he
  obtain ⟨m, ds, he⟩ := hy.un
  cases he
  have hz := pcr_rzero hG hy (by omega)
  rw [decide_eq_false hY] at hz
  have hg := pcr_gcdN hG hx hy (by omega) (by omega)
  have hgz : Nat.gcd X Y ≠ 0 := fun h => hY (Nat.eq_zero_of_gcd_eq_zero_right h)
  have hgm : Nm M (Nat.gcd X Y) (N (Nat.gcd X Y)) := nm_le hy (Nat.gcd_le_right _ (by omega))
  have hd1 := pcr_divN hG hx hgm (by omega) (by omega) hgz
  have hd2 := pcr_divN hG hy hgm (by omega) (by omega) hgz
  have hz2 := pcr_rzero hG (nm_le hx (Nat.div_le_self X (Nat.gcd X Y))) (by omega)
  rw [QD_mk hY]
  generalize X / Nat.gcd X Y = p at *
  generalize Y / Nat.gcd X Y = q at *
  cases b
  · refine pcr_by hG (fn := Tryz.f55) (n := 46) (rv := [.cell 4 true 3, .tmp 5]) (by kernel_rfl) ok55 (by kernel_rfl) (by decide) (by kernel_rfl) (by simp) (by kernel_rfl) (fun r hr => ?_); unfold c55 st0
    refine xctl ?_
    refine xrg ?_
    refine xctl ?_
    refine xrg ?_; (refine xcf1 ?_; refine xcf (hz) rfl ?_)
    refine xrg ?_
    refine xctl ?_
    refine xcF ?_
    refine xctl ?_
    refine xrg ?_; (refine xca1 ?_; refine xca (hg) ?_)
    refine xrg ?_
    refine xctl ?_
    refine xrg ?_; (refine xca1 ?_; refine xca (hd1) ?_)
    refine xrg ?_
    refine xctl ?_
    refine xrg ?_; (refine xca1 ?_; refine xca (hd2) ?_)
    refine xrg ?_
    refine xctl ?_
    refine xrg ?_
    refine xctl ?_
    refine xdr ?_
    refine xctl ?_
    refine xrt ?_
    rw [hr]; rfl
  · refine pcr_by hG (fn := Tryz.f55) (n := 46) (rv := [.cell 4 true 3, .tmp 5]) (by kernel_rfl) ok55 (by kernel_rfl) (by decide) (by kernel_rfl) (by simp) (by kernel_rfl) (fun r hr => ?_); unfold c55 st0
    refine xctl ?_
    refine xrg ?_
    refine xctl ?_
    refine xrg ?_; (refine xcf1 ?_; refine xcf (hz) rfl ?_)
    refine xrg ?_
    refine xctl ?_
    refine xcF ?_
    refine xctl ?_
    refine xrg ?_; (refine xca1 ?_; refine xca (hg) ?_)
    refine xrg ?_
    refine xctl ?_
    refine xrg ?_; (refine xca1 ?_; refine xca (hd1) ?_)
    refine xrg ?_
    refine xctl ?_
    refine xrg ?_; (refine xca1 ?_; refine xca (hd2) ?_)
    refine xrg ?_
    refine xctl ?_
    refine xrg ?_; (refine xcgf1 ?_; refine xcf (hz2) rfl ?_)
    refine xrg ?_
    refine xctl ?_
    refine xdr ?_
    refine xctl ?_
    refine xrt ?_
    rw [hr]
    simp only [Bool.true_and, decide_not]
    rfl
theorem pcr_of0 (hG : Stable G) {b : Bool} (hx : Nm L X (.agg [d])) (hy : Nm M 0 (.agg [e])) (h1 : L < 150000) (h2 : M < 150000) :
    PCr Tryz.prog G 55 [.agg [.bool b, d], .agg [e]] (.tup [QD 0, .bool false]) := by
  obtain ⟨n, cs, he⟩ := hx.un
  cases he
  obtain ⟨m, ds, he⟩ := hy.un
  cases he
  have hz := pcr_rzero hG hy (by omega)
  have hn := pcr_none hG
  refine pcr_by hG (fn := Tryz.f55) (n := 46) (rv := [.cell 4 true 3, .tmp 5]) (by kernel_rfl) ok55 (by kernel_rfl) (by decide) (by kernel_rfl) (by simp) (by kernel_rfl) (fun r hr => ?_); unfold c55 st0
  refine xctl ?_
  refine xrg ?_
  refine xctl ?_
  refine xrg ?_; (refine xcf1 ?_; refine xcf (hz) rfl ?_)
  refine xrg ?_
  refine xctl ?_
  refine xct ?_
  refine xctl ?_
  refine xrg ?_; (refine xca1 ?_; refine xca (hn) ?_)
  refine xrg ?_
  refine xctl ?_
  refine xrt ?_
  exact hr.symm
theorem pcr_plain (hG : Stable G) (hx : Qm L r d) (h : L < 150000) : PCr Tryz.prog G 112 [d] (QD r) := by
  obtain ⟨b, X, Y, n, m, cs, ds, hx1, hy1, rfl, rfl⟩ := hx.row
  by_cases hY : Y = 0
  · subst hY
    have ho := pcr_of0 hG (b := b) hx1 hy1 h h
    rw [Rat.mkRat_zero]
    refine pcr_by hG (fn := Tryz.f112) (n := 14) (rv := [.cell 2 true 3]) (by kernel_rfl) ok112 (by kernel_rfl) (by decide) (by kernel_rfl) (by simp) (by kernel_rfl) (fun r hr => ?_); unfold c112 st0
    refine xctl ?_
    refine xrg ?_
    refine xctl ?_
    refine xrg ?_; (refine xca1 ?_; refine xca (ho) ?_)
    refine xrg ?_
    refine xctl ?_
    refine xrg ?_
    refine xctl ?_
    refine xrt ?_
    exact hr.symm
  · have ho := pcr_of hG (b := b) hx1 hy1 hY h h
    refine pcr_by hG (fn := Tryz.f112) (n := 14) (rv := [.cell 2 true 3]) (by kernel_rfl) ok112 (by kernel_rfl) (by decide) (by kernel_rfl) (by simp) (by kernel_rfl) (fun r hr => ?_); unfold c112 st0
    refine xctl ?_
    refine xrg ?_
    refine xctl ?_
    refine xrg ?_; (refine xca1 ?_; refine xca (ho) ?_)
    refine xrg ?_
    refine xctl ?_
    refine xrg ?_
    refine xctl ?_
    refine xrt ?_
    exact hr.symm
theorem zm_num (hx : Qm L r d) : Zm L r.num (.agg [.bool (ng r.num), nl r.num.natAbs]) := zm_ZD hx.lt.1
theorem nm_den (hx : Qm L r d) : Nm L r.den (.agg [nl r.den]) := nm_N hx.lt.2
theorem pcr_sign (hG : Stable G) (hx : Qm L r d) (h : L < 150000) : PCr Tryz.prog G 65 [d] (.int .i64 r.num.sign) := by
  have hp := pcr_plain hG hx h
  have hs := NumT.pcr_sign hG (zm_num hx) (by omega)
  obtain ⟨b, X, Y, n, m, cs, ds, hx, hy, rfl, rfl⟩ := hx.row
  refine pcr_by hG (fn := Tryz.f65) (n := 7) (rv := [.tmp 2]) (by kernel_rfl) ok65 (by kernel_rfl) (by decide) (by kernel_rfl) (by simp) (by kernel_rfl) (fun r hr => ?_); unfold c65 st0
  refine xctl ?_
  refine xrg ?_
  refine xctl ?_
  refine xrg ?_; (refine xca1 ?_; refine xca (hp) ?_)
  refine xrg ?_; (refine xcf1 ?_; refine xcf (hs) rfl ?_)
  refine xrg ?_
  refine xctl ?_
  refine xrt ?_
  exact hr.symm
theorem pcr_neg (hG : Stable G) (hx : Qm L r d) (h : L < 150000) : PCr Tryz.prog G 64 [d] (QD (-r)) := by
  have hp := pcr_plain hG hx h
  have hs := NumT.pcr_neg hG (zm_num hx) (by omega)
  obtain ⟨b, X, Y, n, m, cs, ds, hx, hy, hrr, rfl⟩ := hx.row
  refine pcr_by hG (fn := Tryz.f64) (n := 11) (rv := [.cell 2 true 3]) (by kernel_rfl) ok64 (by kernel_rfl) (by decide) (by kernel_rfl) (by simp) (by kernel_rfl) (fun r hr => ?_); unfold c64 st0
  refine xctl ?_
  refine xrg ?_
  refine xctl ?_
  refine xrg ?_; (refine xca1 ?_; refine xca (hp) ?_)
  refine xrg ?_
  refine xctl ?_
  refine xrg ?_; (refine xca1 ?_; refine xca (hs) ?_)
  refine xrg ?_
  refine xctl ?_
  refine xdr ?_
  refine xctl ?_
  refine xrt ?_
  rw [hr]; rfl
theorem pcr_times (hG : Stable G) {z : Int} {b : Bool} (hx : Zm L z (.agg [.bool b, d])) (hy : Nm M Y (.agg [e])) (h1 : L < 150000) (h2 : M < 150000) : PCr Tryz.prog G 113 [.agg [.bool b, d], .agg [e]] (ZD (z * Y)) := by
  have hm := NumT.pcr_mul hG hx (zm_sg (b := false) hy) h1 h2
  obtain ⟨b', X, e', hx, rfl, he'⟩ := hx
  cases he'
  obtain ⟨n, cs, he⟩ := hx.un
  cases he
  obtain ⟨m, ds, he⟩ := hy.un
  cases he
  refine pcr_by hG (fn := Tryz.f113) (n := 9) (rv := [.cell 4 true 2]) (by kernel_rfl) ok113 (by kernel_rfl) (by decide) (by kernel_rfl) (by simp) (by kernel_rfl) (fun r hr => ?_); unfold c113 st0
  refine xctl ?_
  refine xrg ?_
  refine xctl ?_
  refine xrg ?_; (refine xca1 ?_; refine xca (hm) ?_)
  refine xrg ?_
  refine xctl ?_
  refine xrt ?_
  exact hr.symm
theorem pcr_add (hG : Stable G) (hx : Qm L x d) (hy : Qm M y e) (h1 : L < 30000) (h2 : M < 30000) : PCr Tryz.prog G 62 [d, e] (QD (x + y)) := by
  have hp1 := pcr_plain hG hx (by omega)
  have hp2 := pcr_plain hG hy (by omega)
  have ht1 := pcr_times hG (zm_num hx) (nm_den hy) (by omega) (by omega)
  have ht2 := pcr_times hG (zm_num hy) (nm_den hx) (by omega) (by omega)
  have hz1 : Zm (L + M) (x.num * y.den) (ZD (x.num * y.den)) := zm_mul (zm_num hx) (zm_sg (b := false) (nm_den hy))
  have hz2 : Zm (M + L) (y.num * x.den) (ZD (y.num * x.den)) := zm_mul (zm_num hy) (zm_sg (b := false) (nm_den hx))
  have ha := NumT.pcr_add hG hz1 hz2 (by omega) (by omega)
  have hm := pcr_mulN hG (nm_den hx) (nm_den hy) (by omega) (by omega)
  have hz3 := (zm_add hz1 hz2).lt
  have hq : Qm (L + M + 1) (x + y) (.agg [.bool (ng (x.num * y.den + y.num * x.den)), nl (x.num * y.den + y.num * x.den).natAbs, nl (x.den * y.den)]) := by
    refine ⟨_, _, _, _, _, by omega, nm_N (X := (x.num * y.den + y.num * x.den).natAbs) ?_, (nm_mul (nm_den hx) (nm_den hy)).up (by omega), ?_, rfl⟩
    · rwa [show max (L + M) (M + L) + 1 = L + M + 1 by omega] at hz3
    · rw [sg_self, Rat.add_def']
  have hpl := pcr_plain hG hq (by omega)
  obtain ⟨b1, X1, Y1, n1, m1, cs1, ds1, _, _, _, rfl⟩ := hx.row
  obtain ⟨b2, X2, Y2, n2, m2, cs2, ds2, _, _, _, rfl⟩ := hy.row
  refine pcr_by hG (fn := Tryz.f62) (n := 27) (rv := [.cell 4 true 3]) (by kernel_rfl) ok62 (by kernel_rfl) (by decide) (by kernel_rfl) (by simp) (by kernel_rfl) (fun r hr => ?_); unfold c62 st0
  refine xctl ?_
  refine xrg ?_
  refine xctl ?_
  refine xrg ?_; (refine xca1 ?_; refine xca (hp1) ?_)
  refine xrg ?_; (refine xca1 ?_; refine xca (hp2) ?_)
  refine xrg ?_
  refine xctl ?_
  refine xdr ?_
  refine xctl ?_
  refine xrg ?_; (refine xca1 ?_; refine xca (ht1) ?_)
  refine xrg ?_; (refine xca1 ?_; refine xca (ht2) ?_)
  refine xrg ?_; (refine xca1 ?_; refine xca (ha) ?_)
  refine xrg ?_; (refine xca1 ?_; refine xca (hm) ?_)
  refine xrg ?_; (refine xca1 ?_; refine xca (hpl) ?_)
  refine xrg ?_
  refine xctl ?_
  refine xdr ?_
  refine xctl ?_
  refine xrt ?_
  exact hr.symm
theorem pcr_mul (hG : Stable G) (hx : Qm L x d) (hy : Qm M y e) (h1 : L < 30000) (h2 : M < 30000) : PCr Tryz.prog G 67 [d, e] (QD (x * y)) := by
  have hp1 := pcr_plain hG hx (by omega)
  have hp2 := pcr_plain hG hy (by omega)
  have hz1 := zm_mul (zm_num hx) (zm_num hy)
  have ha := NumT.pcr_mul hG (zm_num hx) (zm_num hy) (by omega) (by omega)
  have hm := pcr_mulN hG (nm_den hx) (nm_den hy) (by omega) (by omega)
  have hq : Qm (L + M + 1) (x * y) (.agg [.bool (ng (x.num * y.num)), nl (x.num * y.num).natAbs, nl (x.den * y.den)]) := by
    refine ⟨_, _, _, _, _, by omega, (nm_N (X := (x.num * y.num).natAbs) hz1.lt).up (by omega), (nm_mul (nm_den hx) (nm_den hy)).up (by omega), ?_, rfl⟩
    rw [sg_self, Rat.mul_def']
  have hpl := pcr_plain hG hq (by omega)
  obtain ⟨b1, X1, Y1, n1, m1, cs1, ds1, _, _, _, rfl⟩ := hx.row
  obtain ⟨b2, X2, Y2, n2, m2, cs2, ds2, _, _, _, rfl⟩ := hy.row
  refine pcr_by hG (fn := Tryz.f67) (n := 21) (rv := [.cell 4 true 3]) (by kernel_rfl) ok67 (by kernel_rfl) (by decide) (by kernel_rfl) (by simp) (by kernel_rfl) (fun r hr => ?_); unfold c67 st0
  refine xctl ?_
  refine xrg ?_
  refine xctl ?_
  refine xrg ?_; (refine xca1 ?_; refine xca (hp1) ?_)
  refine xrg ?_; (refine xca1 ?_; refine xca (hp2) ?_)
  refine xrg ?_
  refine xctl ?_
  refine xdr ?_
  refine xctl ?_
  refine xrg ?_; (refine xca1 ?_; refine xca (ha) ?_)
  refine xrg ?_; (refine xca1 ?_; refine xca (hm) ?_)
  refine xrg ?_; (refine xca1 ?_; refine xca (hpl) ?_)
  refine xrg ?_
  refine xctl ?_
  refine xdr ?_
  refine xctl ?_
  refine xrt ?_
  exact hr.symm
theorem pcr_cmp (hG : Stable G) (hx : Qm L x d) (hy : Qm M y e) (h1 : L < 30000) (h2 : M < 30000) : PCr Tryz.prog G 61 [d, e] (.int .i64 (x - y).num.sign) := by
  have hn := pcr_neg hG hy (by omega)
  have ha := pcr_add hG hx (qm_neg hy) h1 h2
  have hs := pcr_sign hG (qm_add hx (qm_neg hy)) (by omega)
  rw [← Rat.sub_eq_add_neg] at ha hs
  obtain ⟨b1, X1, Y1, n1, m1, cs1, ds1, _, _, _, rfl⟩ := hx.row
  obtain ⟨b2, X2, Y2, n2, m2, cs2, ds2, _, _, _, rfl⟩ := hy.row
  refine pcr_by hG (fn := Tryz.f61) (n := 10) (rv := [.tmp 4]) (by kernel_rfl) ok61 (by kernel_rfl) (by decide) (by kernel_rfl) (by simp) (by kernel_rfl) (fun r hr => ?_); unfold c61 st0
  refine xctl ?_
  refine xrg ?_
  refine xctl ?_
  refine xrg ?_; (refine xca1 ?_; refine xca (hn) ?_)
  refine xrg ?_; (refine xca1 ?_; refine xca (ha) ?_)
  refine xrg ?_; (refine xcf1 ?_; refine xcf (hs) rfl ?_)
  refine xrg ?_
  refine xctl ?_
  refine xdr ?_
  refine xctl ?_
  refine xrt ?_
  exact hr.symm
theorem pcr_int (hG : Stable G) (n : Int) (h0 : -9223372036854775808 ≤ n) (h1 : n ≤ 9223372036854775807) : PCr Tryz.prog G 63 [.int .i64 n] (QD (n : Rat)) := by
  have h2 := NumT.pcr_of hG n h0 h1
  have h3 := pcr_one hG
  refine pcr_by hG (fn := Tryz.f63) (n := 7) (rv := [.cell 2 true 3]) (by kernel_rfl) ok63 (by kernel_rfl) (by decide) (by kernel_rfl) (by simp) (by kernel_rfl) (fun r hr => ?_); unfold c63 st0
  refine xctl ?_
  refine xrg ?_
  refine xctl ?_
  refine xrg ?_; (refine xca1 ?_; refine xca (h2) ?_)
  refine xrg ?_; (refine xca1 ?_; refine xca (h3) ?_)
  refine xrg ?_
  refine xctl ?_
  refine xrt ?_
  rw [hr]; rfl
theorem inv_mk (r : Rat) (h : r ≠ 0) : mkRat (sg (ng r.num) r.den) r.num.natAbs = r⁻¹ := by
  have h0 : r.num ≠ 0 := fun e => h (Rat.num_eq_zero.1 e)
  have h1 := Rat.mkRat_self r⁻¹
  rw [Rat.num_inv, Rat.den_inv, if_neg h0] at h1
  rw [← h1]
  congr 1
  rcases Int.lt_or_gt_of_ne h0 with h2 | h2
  · rw [show ng r.num = true from decide_eq_true h2, Int.sign_eq_neg_one_of_neg h2]; simp [sg]
  · rw [show ng r.num = false from decide_eq_false (by omega), Int.sign_eq_one_of_pos h2]; simp [sg]
theorem pcr_inv (hG : Stable G) (hx : Qm L r d) (h : L < 150000) (h0 : r ≠ 0) : PCr Tryz.prog G 66 [d] (.tup [QD r⁻¹, .bool true]) := by
  have hp := pcr_plain hG hx h
  have hnz : r.num.natAbs ≠ 0 := fun e => h0 (Rat.num_eq_zero.1 (Int.natAbs_eq_zero.1 e))
  have ho := pcr_of hG (b := ng r.num) (nm_den hx) (nm_N hx.lt.1) hnz (by omega) (by omega)
  rw [inv_mk r h0] at ho
  obtain ⟨b1, X1, Y1, n1, m1, cs1, ds1, _, _, _, rfl⟩ := hx.row
  refine pcr_by hG (fn := Tryz.f66) (n := 18) (rv := [.cell 2 true 3, .tmp 3]) (by kernel_rfl) ok66 (by kernel_rfl) (by decide) (by kernel_rfl) (by simp) (by kernel_rfl) (fun r hr => ?_); unfold c66 st0
  refine xctl ?_
  refine xrg ?_
  refine xctl ?_
  refine xrg ?_; (refine xca1 ?_; refine xca (hp) ?_)
  refine xrg ?_
  refine xctl ?_
  refine xrg ?_; (refine xca1 ?_; refine xca (ho) ?_)
  refine xrg ?_
  refine xctl ?_
  refine xrt ?_
  exact hr.symm
theorem pcr_inv0 (hG : Stable G) (hx : Qm L 0 d) (h : L < 150000) : PCr Tryz.prog G 66 [d] (.tup [QD 0, .bool false]) := by
  have hp := pcr_plain hG hx h
  have ho := pcr_of0 hG (b := ng (0 : Rat).num) (nm_den hx) (e := nl 0) (M := 0) (nm_N (by decide)) (by omega) (by omega)
  obtain ⟨b1, X1, Y1, n1, m1, cs1, ds1, _, _, _, rfl⟩ := hx.row
  refine pcr_by hG (fn := Tryz.f66) (n := 18) (rv := [.cell 2 true 3, .tmp 3]) (by kernel_rfl) ok66 (by kernel_rfl) (by decide) (by kernel_rfl) (by simp) (by kernel_rfl) (fun r hr => ?_); unfold c66 st0
  refine xctl ?_
  refine xrg ?_
  refine xctl ?_
  refine xrg ?_; (refine xca1 ?_; refine xca (hp) ?_)
  refine xrg ?_
  refine xctl ?_
  refine xrg ?_; (refine xca1 ?_; refine xca (ho) ?_)
  refine xrg ?_
  refine xctl ?_
  refine xrt ?_
  exact hr.symm
end Go.Proofs.YtnildflhdkdbiaaGreatDoorK.RatT
