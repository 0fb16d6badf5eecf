/-
  cubitlaw2.NumSays answers true.
-/
import Derived.Test.YtnildflhdkdbiaaGreatDoorVIrLNumSays
import Derived.Test.YtnildflhdkdbiaaGreatDoorVAwakeE2
import Derived.Test.YtnildflhdkdbiaaGreatDoorVLongZ2
import Derived.Test.YtnildflhdkdbiaaGreatDoorVIsZ2
set_option linter.all false
set_option linter.unusedVariables false
set_option linter.unusedSimpArgs false
set_option maxHeartbeats 4000000
namespace Go.Proofs.YtnildflhdkdbiaaGreatDoorV.LawT2
open Go.Proofs.YtnildflhdkdbiaaGreatDoorV.AI Go.Proofs.YtnildflhdkdbiaaGreatDoorV.NatIr Go.Proofs.YtnildflhdkdbiaaGreatDoorV.Dig Go.Proofs.YtnildflhdkdbiaaGreatDoorV.NatT Go.Proofs.YtnildflhdkdbiaaGreatDoorV.NumT Go.Proofs.YtnildflhdkdbiaaGreatDoorV.RefT
set_option linter.unusedSimpArgs false
attribute [local irreducible] awp awpOps
attribute [local go_sem] getO putE_same putE_ne putE_none un0_at ini_zero ini_one ini_two ini_three ne_eq not_false_eq_true Nat.zero_ne_one Nat.one_ne_zero zero_ne_succ succ_ne_zero sym_nil sym_cons symG_call symG_op symG_skip IOp.isCall gd st_mv st_pick st_new st_box st_build st_lit st_load st_store st_faddr st_fld st_iaddrS st_iaddrA st_idxs st_bin st_beq st_neg st_not st_conv st_slcS st_slcL st_make st_app st_lenS st_lenL st_mx st_mn st_ext st_nilck st_bstr byD pureC loadC setH hv boundO D.cells D.one D.boxable fillD putD rowD binC intBinC decT decF dec_true dec_false bne_self_eq_false beq_self_eq_true beq_true_false beq_false_true bne_iff_ne List.length_nil List.length_cons List.getD_cons_zero List.getD_cons_succ List.set_cons_zero List.set_cons_succ List.all_cons List.all_nil Bool.and_true Bool.true_and Nat.lt_irrefl Nat.sub_self Nat.zero_add Nat.add_zero Nat.mul_one Nat.lt_add_one if_true if_false List.replicate_zero List.nil_append List.cons_append List.append_nil List.map_cons List.map_nil Bool.false_eq_true or_self or_true true_or or_false false_or true_and and_true and_self Int.ofNat_zero wrap_i64 wrap_u32 wrap_u64 wrap_u8 wrap_u32_mod wrap_u64_mod Nat.zero_lt_one Int.toNat_natCast Int.sub_zero toNat_pred List.take_succ_cons List.take_zero List.drop_succ_cons List.drop_zero List.take_nil List.drop_nil Nat.le_refl List.length_singleton rvDs rvD ldD one? Option.bind_some Option.map_some resD_int resD_bool resD_str resD_sl resD_rp resD_nils resD_null resD_agg resD_tup resD_own rdOwn resD_ptr rdPtr rd_ite resL_eq go_nil go_cons D.imm resArgs shr32 shl32 Nat.zero_mul Bool.and_self Bool.and_false Bool.false_and strBin_eql strBin_neq Bool.not_true Bool.not_false i64max List.length_reverse List.length_set SS_length SS_getD SS_set SS_take SS_drop SS_imm SS_one SS_app1 W_get1 W_len1 W_getD W_set W_take W_drop W_app W_length W_imm W_one W_repl N mx_nat toNat_succ toNat_add toNat_pred2 tdiv_nn tmod_nn List.take_of_length_le cast_succ and_one or_shl32 min64 shr32b shl32b IntKind.bits
attribute [local go_sem] V_getD V_set V_take V_drop V_imm V_one V_app V_app1 V_repl V_get1 V_length M List.length_append
attribute [local go_sem] nl ZD MZ
attribute [local go_sem] not_true_eq_false not_false_eq_true
variable {G : World → Prop}
theorem vl_zero_iff {a : List Int} (ha : ok 4294967296 a) (hg : (decide (a = []) || decide (a.getD (a.length - 1) 0 ≠ 0)) = true) : vl 4294967296 a = 0 ↔ a = [] := by
  constructor
  · intro h
    rcases Classical.em (a = []) with h1 | h1
    · exact h1
    · exfalso
      rw [decide_eq_false h1, Bool.false_or, decide_eq_true_iff] at hg
      have hlen : a.length ≠ 0 := fun e => h1 (List.eq_nil_of_length_eq_zero e)
      have h2 := vl_take_drop 4294967296 a (a.length - 1)
      have h3 : vl 4294967296 (a.drop (a.length - 1)) ≠ 0 := by
        rw [List.drop_eq_getElem_cons (by omega), vl_cons]
        have g := ok_get ha (by omega) (a.length - 1)
        rw [List.getD_eq_getElem?_getD, List.getElem?_eq_getElem (by omega)] at hg g
        simp only [Option.getD_some] at hg g
        omega
      have h4 : 0 < 4294967296 ^ min (a.length - 1) a.length := Nat.pow_pos (by omega)
      have h5 := Nat.mul_pos h4 (Nat.pos_of_ne_zero h3)
      omega
  · rintro rfl; rfl
theorem pZ_lt {l : List UInt8} {v : Int} {L : Nat} (h : pZ l = some v) (hl : l.length ≤ L) : v.natAbs < 4294967296 ^ L := by
  unfold pZ at h
  split at h
  · rename_i hc
    cases h
    rw [sg_abs]
    refine Nat.lt_of_lt_of_le (decV_lt _ (List.all_eq_true.1 hc.2)) ?_
    refine Nat.le_trans (Nat.pow_le_pow_left (show 10 ≤ 4294967296 by omega) _) (Nat.pow_le_pow_right (by omega) ?_)
    exact Nat.le_trans (trim_le _ _) hl
  · cases h
theorem good_eq {a : List Int} {n : Nat} (hn : n = a.length) (ha : ok 4294967296 a) (b : Bool) :
    ((decide (a = []) || decide (a.getD (a.length - 1) 0 ≠ 0)) && !(b && decide (vl 4294967296 a = 0))) = ((decide (a = []) || decide (a.getD (a.length - 1) 0 ≠ 0)) && (!b || decide ((0 : Int) < n))) := by
  cases hg : (decide (a = []) || decide (a.getD (a.length - 1) 0 ≠ 0))
  · rfl
  · have h1 := vl_zero_iff ha hg
    have h2 : a = [] ↔ ¬ (0 : Int) < n := by
      rw [hn]
      constructor
      · rintro rfl; simp
      · intro h; exact List.eq_nil_of_length_eq_zero (by omega)
    cases b
    · rfl
    · simp only [Bool.true_and, Bool.not_true, Bool.false_or]
      by_cases h3 : (0 : Int) < n
      · rw [decide_eq_true h3, decide_eq_false (fun h => (h2.1 (h1.1 h)) h3)]; rfl
      · rw [decide_eq_false h3, decide_eq_true (h1.2 (h2.2 h3))]; rfl
set_option maxHeartbeats 16000000 in
theorem pcr_says_law (hG : Stable G) (hT : ∀ w, G w → Lib.TabIs Tryz.prog w "internal/strconv.uint64pow10" .u64 Lib.pow10Tab) (hM : ∀ w, G w → LibT.gMax w)
    (b1 : Bool) (a1 : List Int) (n1 : Nat) (hn1 : n1 = a1.length) (ha1 : ok 4294967296 a1) (hla1 : a1.length ≤ 9223372036854775807)
    (b2 : Bool) (a2 : List Int) (n2 : Nat) (hn2 : n2 = a2.length) (ha2 : ok 4294967296 a2) (hla2 : a2.length ≤ 9223372036854775807)
    (k : Int) (hk : -9223372036854775808 ≤ k ∧ k ≤ 9223372036854775807) (s : ByteArray) (hs : s.size ≤ 9223372036854775807)
    : PCr Tryz.prog G 5 [.agg [.bool b1, .sl n1 (W a1)], .agg [.bool b2, .sl n2 (W a2)], .int .i64 k, .str s] (.bool true) := by
  obtain ⟨l1, hl1, hb1⟩ := pcr_longz hG b1 n1 (W a1)
  obtain ⟨l2, hl2, hb2⟩ := pcr_longz hG b2 n2 (W a2)
  refine pcr_by hG (fn := Tryz.f5) (n := 163) (rv := [.tmp 8]) (by kernel_rfl) ok5 (by kernel_rfl) (by decide) (by kernel_rfl) (by simp) (by kernel_rfl) (fun r hr => ?_); unfold c5 st0
  (refine xctl ?_); refine xrg ?_; (refine xctl ?_); refine xrg ?_; (refine xca1 ?_; refine xca (pcr_awake hG hT hM) ?_); refine xrg ?_; (refine xctl ?_); refine xcF ?_; (refine xctl ?_)
  cases l1
  case true => (refine xrg ?_; (refine xca1 ?_; refine xca (hl1) ?_); refine xrg ?_; (refine xctl ?_); refine xct ?_; (refine xctl ?_); refine xrg ?_; (refine xctl ?_); refine xrt ?_; exact hr.symm)
  cases l2
  case true => (refine xrg ?_; (refine xca1 ?_; refine xca (hl1) ?_); refine xrg ?_; (refine xcga1 ?_; refine xca (hl2) ?_); refine xrg ?_; (refine xctl ?_); refine xct ?_; (refine xctl ?_); refine xrg ?_; (refine xctl ?_); refine xrt ?_; exact hr.symm)
  refine xrg ?_; (refine xca1 ?_; refine xca (hl1) ?_); refine xrg ?_; (refine xcga1 ?_; refine xca (hl2) ?_)
  by_cases hss : 200 < s.size
  · refine xrg ?_; (refine xctl ?_); refine xct ?_; (refine xctl ?_); refine xrg ?_; (refine xctl ?_); refine xrt ?_; exact hr.symm
  have hx := zm_arg (b := b1) hn1 ha1 (hb1 rfl)
  have hy := zm_arg (b := b2) hn2 ha2 (hb2 rfl)
  have ho1 := pcr_own hG b1 a1 n1 hn1 ha1 (by have := hb1 rfl; omega)
  have ho2 := pcr_own hG b2 a2 n2 hn2 ha2 (by have := hb2 rfl; omega)
  have hgz := NumT.pcr_goodR hG b1 a1 n1 hn1 ha1 (by have := hb1 rfl; omega)
  have hgn := NatT.pcr_good hG a1 n1 hn1 (by have := hb1 rfl; omega)
  rw [good_eq hn1 ha1] at hgz
  generalize (decide (a1 = []) || decide (a1.getD (a1.length - 1) 0 ≠ 0)) = gd at *
  generalize sg b1 (vl 4294967296 a1) = x at *
  generalize sg b2 (vl 4294967296 a2) = y at *
  have hxl := hx.lt
  have hyl := hy.lt
  have hal := (zm_add hx hy).lt
  have hml := (zm_mul hx hy).lt
  have hnl := (zm_neg hx).lt
  have kl : k.natAbs < 4294967296 ^ 2 := by omega
  have z1 := pcr_zis hG hal (by decide)
  have z2 := pcr_zis hG hml (by decide)
  have z3 := pcr_zis hG hnl (by decide)
  have z4 := pcr_zis hG kl (by decide)
  have hzs := pcr_zsign hG y
  refine xrg ?_
  refine xctl ?_
  refine xcF ?_
  refine xctl ?_
  refine xrg ?_; (refine xca1 ?_; refine xca (ho1) ?_)
  refine xrg ?_; (refine xca1 ?_; refine xca (ho2) ?_)
  refine xrg ?_
  refine xctl ?_
  refine xdr ?_
  refine xctl ?_
  by_cases hy0 : y = 0
  · have hsg : ¬ y.sign ≠ 0 := by rw [hy0]; decide
    refine xrg ?_; (refine xca1 ?_; refine xca (NumT.pcr_div0 hG hx (hy0 ▸ hy) (by omega) (by omega)) ?_)
    refine xrg ?_
    refine xctl ?_
    refine xrg ?_; (refine xcf1 ?_; refine xcf (hzs) rfl ?_)
    refine xrg ?_
    refine xctl ?_
    refine xcF ?_
    refine xctl ?_
    refine xrg ?_
    refine xctl ?_
    refine xcF ?_
    refine xctl ?_
    have hp1 := NumT.pcr_parse hG s (by omega)
    have hp2 := pcr_zparse hG s (by omega)
    have hpz := fun v hv => pZ_lt (v := v) (l := s.data.toList) (L := 200) hv (by have := ba_len s; omega)
    cases hpc : pZ s.data.toList with
    | none =>
      rw [hpc, zR] at hp1
      rw [hpc, mR] at hp2
      refine xrg ?_; (refine xca1 ?_; refine xca (hp1) ?_)
      refine xrg ?_
      refine xctl ?_
      refine xrg ?_; (refine xca1 ?_; refine xca (hp2) ?_)
      refine xrg ?_
      refine xctl ?_
      refine xrg ?_; (refine xcgf1 ?_; refine xcf (NumT.pcr_sign hG hx (by omega)) rfl ?_)
      refine xrg ?_; (refine xcgf1 ?_; refine xcf (pcr_zsign hG x) rfl ?_)
      refine xrg ?_; (refine xcgf1 ?_; refine xcf (NumT.pcr_cmp hG hx hy (by omega) (by omega)) rfl ?_)
      refine xrg ?_; (refine xcgf1 ?_; refine xcf (pcr_zcmp hG hxl hyl (by omega) (by omega)) rfl ?_)
      refine xrg ?_; (refine xcga1 ?_; refine xca (NumT.pcr_add hG hx hy (by omega) (by omega)) ?_)
      refine xrg ?_; (refine xcga1 ?_; refine xca (pcr_zadd hG hxl hyl (by omega) (by omega)) ?_)
      refine xrg ?_; (refine xcgf1 ?_; refine xcf (z1) rfl ?_)
      refine xrg ?_; (refine xcga1 ?_; refine xca (NumT.pcr_mul hG hx hy (by omega) (by omega)) ?_)
      refine xrg ?_; (refine xcga1 ?_; refine xca (pcr_zmul hG hxl hyl (by omega) (by omega)) ?_)
      refine xrg ?_; (refine xcgf1 ?_; refine xcf (z2) rfl ?_)
      refine xrg ?_; (refine xcga1 ?_; refine xca (NumT.pcr_neg hG hx (by omega)) ?_)
      refine xrg ?_; (refine xcga1 ?_; refine xca (pcr_zneg hG x) ?_)
      refine xrg ?_; (refine xcgf1 ?_; refine xcf (z3) rfl ?_)
      refine xrg ?_; (refine xcgf1 ?_; refine xcf (NumT.pcr_text hG hT hx (by omega)) rfl ?_)
      refine xrg ?_; (refine xcgf1 ?_; refine xcf (pcr_ztext hG hxl (by omega)) rfl ?_)
      refine xrg ?_; (refine xcga1 ?_; refine xca (NumT.pcr_of hG k hk.1 hk.2) ?_)
      refine xrg ?_; (refine xcga1 ?_; refine xca (pcr_zint hG k hk.1 hk.2) ?_)
      refine xrg ?_; (refine xcgf1 ?_; refine xcf (z4) rfl ?_)
      cases gd
      · rw [Bool.false_and] at hgz
        refine xrg ?_; (refine xcgf1 ?_; refine xcf (hgz) rfl ?_)
        refine xrg ?_; (refine xcgf1 ?_; refine xcf (hgn) rfl ?_)
        refine xrg ?_; (refine xctl ?_); refine xdr ?_; (refine xctl ?_); refine xrt ?_; exact hr.symm
      · rw [Bool.true_and] at hgz
        cases b1
        · rw [Bool.not_false, Bool.true_or] at hgz
          refine xrg ?_; (refine xcgf1 ?_; refine xcf (hgz) rfl ?_)
          refine xrg ?_; (refine xcgf1 ?_; refine xcf (hgn) rfl ?_)
          refine xrg ?_; (refine xctl ?_); refine xdr ?_; (refine xctl ?_); refine xrt ?_; exact hr.symm
        · rw [Bool.not_true, Bool.false_or] at hgz
          refine xrg ?_; (refine xcgf1 ?_; refine xcf (hgz) rfl ?_)
          refine xrg ?_; (refine xcgf1 ?_; refine xcf (hgn) rfl ?_)
          refine xrg ?_; (refine xctl ?_); refine xdr ?_; (refine xctl ?_); refine xrt ?_; exact hr.symm
    | some v =>
      rw [hpc, zR] at hp1
      rw [hpc, mR] at hp2
      have z5 := pcr_zis hG (hpz v hpc) (by decide)
      refine xrg ?_; (refine xca1 ?_; refine xca (hp1) ?_)
      refine xrg ?_
      refine xctl ?_
      refine xrg ?_; (refine xca1 ?_; refine xca (hp2) ?_)
      refine xrg ?_
      refine xctl ?_
      refine xrg ?_; (refine xcgf1 ?_; refine xcf (z5) rfl ?_)
      refine xrg ?_; (refine xcgf1 ?_; refine xcf (NumT.pcr_sign hG hx (by omega)) rfl ?_)
      refine xrg ?_; (refine xcgf1 ?_; refine xcf (pcr_zsign hG x) rfl ?_)
      refine xrg ?_; (refine xcgf1 ?_; refine xcf (NumT.pcr_cmp hG hx hy (by omega) (by omega)) rfl ?_)
      refine xrg ?_; (refine xcgf1 ?_; refine xcf (pcr_zcmp hG hxl hyl (by omega) (by omega)) rfl ?_)
      refine xrg ?_; (refine xcga1 ?_; refine xca (NumT.pcr_add hG hx hy (by omega) (by omega)) ?_)
      refine xrg ?_; (refine xcga1 ?_; refine xca (pcr_zadd hG hxl hyl (by omega) (by omega)) ?_)
      refine xrg ?_; (refine xcgf1 ?_; refine xcf (z1) rfl ?_)
      refine xrg ?_; (refine xcga1 ?_; refine xca (NumT.pcr_mul hG hx hy (by omega) (by omega)) ?_)
      refine xrg ?_; (refine xcga1 ?_; refine xca (pcr_zmul hG hxl hyl (by omega) (by omega)) ?_)
      refine xrg ?_; (refine xcgf1 ?_; refine xcf (z2) rfl ?_)
      refine xrg ?_; (refine xcga1 ?_; refine xca (NumT.pcr_neg hG hx (by omega)) ?_)
      refine xrg ?_; (refine xcga1 ?_; refine xca (pcr_zneg hG x) ?_)
      refine xrg ?_; (refine xcgf1 ?_; refine xcf (z3) rfl ?_)
      refine xrg ?_; (refine xcgf1 ?_; refine xcf (NumT.pcr_text hG hT hx (by omega)) rfl ?_)
      refine xrg ?_; (refine xcgf1 ?_; refine xcf (pcr_ztext hG hxl (by omega)) rfl ?_)
      refine xrg ?_; (refine xcga1 ?_; refine xca (NumT.pcr_of hG k hk.1 hk.2) ?_)
      refine xrg ?_; (refine xcga1 ?_; refine xca (pcr_zint hG k hk.1 hk.2) ?_)
      refine xrg ?_; (refine xcgf1 ?_; refine xcf (z4) rfl ?_)
      cases gd
      · rw [Bool.false_and] at hgz
        refine xrg ?_; (refine xcgf1 ?_; refine xcf (hgz) rfl ?_)
        refine xrg ?_; (refine xcgf1 ?_; refine xcf (hgn) rfl ?_)
        refine xrg ?_; (refine xctl ?_); refine xdr ?_; (refine xctl ?_); refine xrt ?_; exact hr.symm
      · rw [Bool.true_and] at hgz
        cases b1
        · rw [Bool.not_false, Bool.true_or] at hgz
          refine xrg ?_; (refine xcgf1 ?_; refine xcf (hgz) rfl ?_)
          refine xrg ?_; (refine xcgf1 ?_; refine xcf (hgn) rfl ?_)
          refine xrg ?_; (refine xctl ?_); refine xdr ?_; (refine xctl ?_); refine xrt ?_; exact hr.symm
        · rw [Bool.not_true, Bool.false_or] at hgz
          refine xrg ?_; (refine xcgf1 ?_; refine xcf (hgz) rfl ?_)
          refine xrg ?_; (refine xcgf1 ?_; refine xcf (hgn) rfl ?_)
          refine xrg ?_; (refine xctl ?_); refine xdr ?_; (refine xctl ?_); refine xrt ?_; exact hr.symm
  · have hsg : y.sign ≠ 0 := fun h => hy0 (Int.sign_eq_zero_iff_zero.1 h)
    have hql := (zm_le hx (Int.natAbs_ediv_le_natAbs x y)).lt
    have hrn := Int.emod_nonneg x hy0
    have hrl := Int.emod_lt x hy0
    have hrm := (zm_le (z := x % y) hy (by omega)).lt
    have z6 := pcr_zis hG hql (by decide)
    have z7 := pcr_zis hG hrm (by decide)
    refine xrg ?_; (refine xca1 ?_; refine xca (NumT.pcr_div hG hx hy (by omega) (by omega) hy0) ?_)
    refine xrg ?_
    refine xctl ?_
    refine xrg ?_; (refine xcf1 ?_; refine xcf (hzs) rfl ?_)
    refine xrg ?_
    refine xctl ?_
    refine xcF ?_
    refine xctl ?_
    refine xrg ?_
    refine xctl ?_
    refine xct ?_
    refine xctl ?_
    refine xrg ?_; (refine xca1 ?_; refine xca (pcr_zdiv hG hxl hyl (by omega) (by omega) hy0) ?_)
    refine xrg ?_
    refine xctl ?_
    refine xrg ?_; (refine xcf1 ?_; refine xcf (z6) rfl ?_)
    refine xrg ?_; (refine xcgf1 ?_; refine xcf (z7) rfl ?_)
    refine xrg ?_
    refine xctl ?_
    refine xcF ?_
    refine xctl ?_
    have hp1 := NumT.pcr_parse hG s (by omega)
    have hp2 := pcr_zparse hG s (by omega)
    have hpz := fun v hv => pZ_lt (v := v) (l := s.data.toList) (L := 200) hv (by have := ba_len s; omega)
    cases hpc : pZ s.data.toList with
    | none =>
      rw [hpc, zR] at hp1
      rw [hpc, mR] at hp2
      refine xrg ?_; (refine xca1 ?_; refine xca (hp1) ?_)
      refine xrg ?_
      refine xctl ?_
      refine xrg ?_; (refine xca1 ?_; refine xca (hp2) ?_)
      refine xrg ?_
      refine xctl ?_
      refine xrg ?_; (refine xcgf1 ?_; refine xcf (NumT.pcr_sign hG hx (by omega)) rfl ?_)
      refine xrg ?_; (refine xcgf1 ?_; refine xcf (pcr_zsign hG x) rfl ?_)
      refine xrg ?_; (refine xcgf1 ?_; refine xcf (NumT.pcr_cmp hG hx hy (by omega) (by omega)) rfl ?_)
      refine xrg ?_; (refine xcgf1 ?_; refine xcf (pcr_zcmp hG hxl hyl (by omega) (by omega)) rfl ?_)
      refine xrg ?_; (refine xcga1 ?_; refine xca (NumT.pcr_add hG hx hy (by omega) (by omega)) ?_)
      refine xrg ?_; (refine xcga1 ?_; refine xca (pcr_zadd hG hxl hyl (by omega) (by omega)) ?_)
      refine xrg ?_; (refine xcgf1 ?_; refine xcf (z1) rfl ?_)
      refine xrg ?_; (refine xcga1 ?_; refine xca (NumT.pcr_mul hG hx hy (by omega) (by omega)) ?_)
      refine xrg ?_; (refine xcga1 ?_; refine xca (pcr_zmul hG hxl hyl (by omega) (by omega)) ?_)
      refine xrg ?_; (refine xcgf1 ?_; refine xcf (z2) rfl ?_)
      refine xrg ?_; (refine xcga1 ?_; refine xca (NumT.pcr_neg hG hx (by omega)) ?_)
      refine xrg ?_; (refine xcga1 ?_; refine xca (pcr_zneg hG x) ?_)
      refine xrg ?_; (refine xcgf1 ?_; refine xcf (z3) rfl ?_)
      refine xrg ?_; (refine xcgf1 ?_; refine xcf (NumT.pcr_text hG hT hx (by omega)) rfl ?_)
      refine xrg ?_; (refine xcgf1 ?_; refine xcf (pcr_ztext hG hxl (by omega)) rfl ?_)
      refine xrg ?_; (refine xcga1 ?_; refine xca (NumT.pcr_of hG k hk.1 hk.2) ?_)
      refine xrg ?_; (refine xcga1 ?_; refine xca (pcr_zint hG k hk.1 hk.2) ?_)
      refine xrg ?_; (refine xcgf1 ?_; refine xcf (z4) rfl ?_)
      cases gd
      · rw [Bool.false_and] at hgz
        refine xrg ?_; (refine xcgf1 ?_; refine xcf (hgz) rfl ?_)
        refine xrg ?_; (refine xcgf1 ?_; refine xcf (hgn) rfl ?_)
        refine xrg ?_; (refine xctl ?_); refine xdr ?_; (refine xctl ?_); refine xrt ?_; exact hr.symm
      · rw [Bool.true_and] at hgz
        cases b1
        · rw [Bool.not_false, Bool.true_or] at hgz
          refine xrg ?_; (refine xcgf1 ?_; refine xcf (hgz) rfl ?_)
          refine xrg ?_; (refine xcgf1 ?_; refine xcf (hgn) rfl ?_)
          refine xrg ?_; (refine xctl ?_); refine xdr ?_; (refine xctl ?_); refine xrt ?_; exact hr.symm
        · rw [Bool.not_true, Bool.false_or] at hgz
          refine xrg ?_; (refine xcgf1 ?_; refine xcf (hgz) rfl ?_)
          refine xrg ?_; (refine xcgf1 ?_; refine xcf (hgn) rfl ?_)
          refine xrg ?_; (refine xctl ?_); refine xdr ?_; (refine xctl ?_); refine xrt ?_; exact hr.symm
    | some v =>
      rw [hpc, zR] at hp1
      rw [hpc, mR] at hp2
      have z5 := pcr_zis hG (hpz v hpc) (by decide)
      refine xrg ?_; (refine xca1 ?_; refine xca (hp1) ?_)
      refine xrg ?_
      refine xctl ?_
      refine xrg ?_; (refine xca1 ?_; refine xca (hp2) ?_)
      refine xrg ?_
      refine xctl ?_
      refine xrg ?_; (refine xcgf1 ?_; refine xcf (z5) rfl ?_)
      refine xrg ?_; (refine xcgf1 ?_; refine xcf (NumT.pcr_sign hG hx (by omega)) rfl ?_)
      refine xrg ?_; (refine xcgf1 ?_; refine xcf (pcr_zsign hG x) rfl ?_)
      refine xrg ?_; (refine xcgf1 ?_; refine xcf (NumT.pcr_cmp hG hx hy (by omega) (by omega)) rfl ?_)
      refine xrg ?_; (refine xcgf1 ?_; refine xcf (pcr_zcmp hG hxl hyl (by omega) (by omega)) rfl ?_)
      refine xrg ?_; (refine xcga1 ?_; refine xca (NumT.pcr_add hG hx hy (by omega) (by omega)) ?_)
      refine xrg ?_; (refine xcga1 ?_; refine xca (pcr_zadd hG hxl hyl (by omega) (by omega)) ?_)
      refine xrg ?_; (refine xcgf1 ?_; refine xcf (z1) rfl ?_)
      refine xrg ?_; (refine xcga1 ?_; refine xca (NumT.pcr_mul hG hx hy (by omega) (by omega)) ?_)
      refine xrg ?_; (refine xcga1 ?_; refine xca (pcr_zmul hG hxl hyl (by omega) (by omega)) ?_)
      refine xrg ?_; (refine xcgf1 ?_; refine xcf (z2) rfl ?_)
      refine xrg ?_; (refine xcga1 ?_; refine xca (NumT.pcr_neg hG hx (by omega)) ?_)
      refine xrg ?_; (refine xcga1 ?_; refine xca (pcr_zneg hG x) ?_)
      refine xrg ?_; (refine xcgf1 ?_; refine xcf (z3) rfl ?_)
      refine xrg ?_; (refine xcgf1 ?_; refine xcf (NumT.pcr_text hG hT hx (by omega)) rfl ?_)
      refine xrg ?_; (refine xcgf1 ?_; refine xcf (pcr_ztext hG hxl (by omega)) rfl ?_)
      refine xrg ?_; (refine xcga1 ?_; refine xca (NumT.pcr_of hG k hk.1 hk.2) ?_)
      refine xrg ?_; (refine xcga1 ?_; refine xca (pcr_zint hG k hk.1 hk.2) ?_)
      refine xrg ?_; (refine xcgf1 ?_; refine xcf (z4) rfl ?_)
      cases gd
      · rw [Bool.false_and] at hgz
        refine xrg ?_; (refine xcgf1 ?_; refine xcf (hgz) rfl ?_)
        refine xrg ?_; (refine xcgf1 ?_; refine xcf (hgn) rfl ?_)
        refine xrg ?_; (refine xctl ?_); refine xdr ?_; (refine xctl ?_); refine xrt ?_; exact hr.symm
      · rw [Bool.true_and] at hgz
        cases b1
        · rw [Bool.not_false, Bool.true_or] at hgz
          refine xrg ?_; (refine xcgf1 ?_; refine xcf (hgz) rfl ?_)
          refine xrg ?_; (refine xcgf1 ?_; refine xcf (hgn) rfl ?_)
          refine xrg ?_; (refine xctl ?_); refine xdr ?_; (refine xctl ?_); refine xrt ?_; exact hr.symm
        · rw [Bool.not_true, Bool.false_or] at hgz
          refine xrg ?_; (refine xcgf1 ?_; refine xcf (hgz) rfl ?_)
          refine xrg ?_; (refine xcgf1 ?_; refine xcf (hgn) rfl ?_)
          refine xrg ?_; (refine xctl ?_); refine xdr ?_; (refine xctl ?_); refine xrt ?_; exact hr.symm
end Go.Proofs.YtnildflhdkdbiaaGreatDoorV.LawT2
