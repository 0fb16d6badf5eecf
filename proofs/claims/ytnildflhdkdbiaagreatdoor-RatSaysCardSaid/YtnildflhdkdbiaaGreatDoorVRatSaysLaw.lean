/-
  cubitlaw3.RatSays answers true.
-/
import Derived.Test.YtnildflhdkdbiaaGreatDoorVIrLRatSays
import Derived.Test.YtnildflhdkdbiaaGreatDoorVAwakeE3
import Derived.Test.YtnildflhdkdbiaaGreatDoorVLongQ3
import Derived.Test.YtnildflhdkdbiaaGreatDoorVIsQ3
set_option linter.all false
set_option linter.unusedVariables false
set_option linter.unusedSimpArgs false
set_option maxHeartbeats 4000000
namespace Go.Proofs.YtnildflhdkdbiaaGreatDoorV.LawT3
open Go.Proofs.YtnildflhdkdbiaaGreatDoorV.AI Go.Proofs.YtnildflhdkdbiaaGreatDoorV.NatIr Go.Proofs.YtnildflhdkdbiaaGreatDoorV.Dig Go.Proofs.YtnildflhdkdbiaaGreatDoorV.NatT Go.Proofs.YtnildflhdkdbiaaGreatDoorV.NumT Go.Proofs.YtnildflhdkdbiaaGreatDoorV.RatT Go.Proofs.YtnildflhdkdbiaaGreatDoorV.RefT
set_option linter.unusedSimpArgs false
attribute [local irreducible] awp awpOps
attribute [local go_sem] getO putE_same putE_ne putE_none un0_at ini_zero ini_one ini_two ini_three ne_eq not_false_eq_true Nat.zero_ne_one Nat.one_ne_zero zero_ne_succ succ_ne_zero sym_nil sym_cons symG_call symG_op symG_skip IOp.isCall gd st_mv st_pick st_new st_box st_build st_lit st_load st_store st_faddr st_fld st_iaddrS st_iaddrA st_idxs st_bin st_beq st_neg st_not st_conv st_slcS st_slcL st_make st_app st_lenS st_lenL st_mx st_mn st_ext st_nilck st_bstr byD pureC loadC setH hv boundO D.cells D.one D.boxable fillD putD rowD binC intBinC decT decF dec_true dec_false bne_self_eq_false beq_self_eq_true beq_true_false beq_false_true bne_iff_ne List.length_nil List.length_cons List.getD_cons_zero List.getD_cons_succ List.set_cons_zero List.set_cons_succ List.all_cons List.all_nil Bool.and_true Bool.true_and Nat.lt_irrefl Nat.sub_self Nat.zero_add Nat.add_zero Nat.mul_one Nat.lt_add_one if_true if_false List.replicate_zero List.nil_append List.cons_append List.append_nil List.map_cons List.map_nil Bool.false_eq_true or_self or_true true_or or_false false_or true_and and_true and_self Int.ofNat_zero wrap_i64 wrap_u32 wrap_u64 wrap_u8 wrap_u32_mod wrap_u64_mod Nat.zero_lt_one Int.toNat_natCast Int.sub_zero toNat_pred List.take_succ_cons List.take_zero List.drop_succ_cons List.drop_zero List.take_nil List.drop_nil Nat.le_refl List.length_singleton rvDs rvD ldD one? Option.bind_some Option.map_some resD_int resD_bool resD_str resD_sl resD_rp resD_nils resD_null resD_agg resD_tup resD_own rdOwn resD_ptr rdPtr rd_ite resL_eq go_nil go_cons D.imm resArgs shr32 shl32 Nat.zero_mul Bool.and_self Bool.and_false Bool.false_and strBin_eql strBin_neq Bool.not_true Bool.not_false i64max List.length_reverse List.length_set SS_length SS_getD SS_set SS_take SS_drop SS_imm SS_one SS_app1 W_get1 W_len1 W_getD W_set W_take W_drop W_app W_length W_imm W_one W_repl N mx_nat toNat_succ toNat_add toNat_pred2 tdiv_nn tmod_nn List.take_of_length_le cast_succ and_one or_shl32 min64 shr32b shl32b IntKind.bits
attribute [local go_sem] V_getD V_set V_take V_drop V_imm V_one V_app V_app1 V_repl V_get1 V_length M List.length_append
attribute [local go_sem] nl ZD MZ
attribute [local go_sem] QD MQ
attribute [local go_sem] not_true_eq_false not_false_eq_true
variable {G : World → Prop}
@[local simp] theorem kb_M (k X : Nat) : kb k (M X) := by simp [M, kb, kbs_V]
/-- What comes behind the sixth part, shown once. -/
theorem awp_share {P : Program} {m : Nat} {Q : AEx → St → Prop} {σ : St} {a1 a2 a3 a4 a5 a6 rest : IR} (J : St → Prop) (hr : ∀ σ, J σ → awp P G m rest Q σ)
    (h : (∀ σ, J σ → awp P G m rest Q σ) → awp P G m (.seq a1 (.seq a2 (.seq a3 (.seq a4 (.seq a5 (.seq a6 rest)))))) Q σ) : awp P G m (.seq a1 (.seq a2 (.seq a3 (.seq a4 (.seq a5 (.seq a6 rest)))))) Q σ := h hr
set_option maxHeartbeats 32000000 in
theorem pcr_says_law (hG : Stable G) (hT : ∀ w, G w → Lib.TabIs Tryz.prog w "internal/strconv.uint64pow10" .u64 Lib.pow10Tab) (hM : ∀ w, G w → LibT.gMax w)
    (b1 : Bool) (a1 : List Int) (n1 : Nat) (hn1 : n1 = a1.length) (ha1 : ok 4294967296 a1) (hla1 : a1.length ≤ 9223372036854775807) (c1 : List Int) (m1 : Nat) (hm1 : m1 = c1.length) (hc1 : ok 4294967296 c1) (hlc1 : c1.length ≤ 9223372036854775807)
    (b2 : Bool) (a2 : List Int) (n2 : Nat) (hn2 : n2 = a2.length) (ha2 : ok 4294967296 a2) (hla2 : a2.length ≤ 9223372036854775807) (c2 : List Int) (m2 : Nat) (hm2 : m2 = c2.length) (hc2 : ok 4294967296 c2) (hlc2 : c2.length ≤ 9223372036854775807)
    (s : ByteArray) (hs : s.size ≤ 9223372036854775807) (k : Int) (hk : -9223372036854775808 ≤ k ∧ k ≤ 9223372036854775807)
    : PCr Tryz.prog G 11 [.agg [.bool b1, .sl n1 (W a1), .sl m1 (W c1)], .agg [.bool b2, .sl n2 (W a2), .sl m2 (W c2)], .str s, .int .i64 k] (.bool true) := by
  obtain ⟨l1, hl1, hb1⟩ := pcr_longq hG b1 n1 m1 (W a1) (W c1)
  obtain ⟨l2, hl2, hb2⟩ := pcr_longq hG b2 n2 m2 (W a2) (W c2)
  refine pcr_by hG (fn := Tryz.f11) (n := 196) (rv := [.tmp 8]) (by kernel_rfl) ok11 (by kernel_rfl) (by decide) (by kernel_rfl) (by simp) (by kernel_rfl) (fun r hr => ?_); unfold c11 st0
  (refine xctl ?_); refine xrg ?_; (refine xctl ?_); refine xrg ?_; (refine xca1 ?_; refine xca (pcr_awake hG hT hM) ?_); refine xrg ?_; (refine xctl ?_); refine xcF ?_; (refine xctl ?_)
  cases l1
  case true => (refine xrg ?_; (refine xca1 ?_; refine xca (hl1) ?_); refine xrg ?_; (refine xctl ?_); refine xct ?_; (refine xctl ?_); refine xrg ?_; (refine xctl ?_); refine xrt ?_; exact hr.symm)
  cases l2
  case true => (refine xrg ?_; (refine xca1 ?_; refine xca (hl1) ?_); refine xrg ?_; (refine xcga1 ?_; refine xca (hl2) ?_); refine xrg ?_; (refine xctl ?_); refine xct ?_; (refine xctl ?_); refine xrg ?_; (refine xctl ?_); refine xrt ?_; exact hr.symm)
  refine xrg ?_; (refine xca1 ?_; refine xca (hl1) ?_); refine xrg ?_; (refine xcga1 ?_; refine xca (hl2) ?_)
  by_cases hss : 60 < s.size
  · refine xrg ?_; (refine xctl ?_); refine xct ?_; (refine xctl ?_); refine xrg ?_; (refine xctl ?_); refine xrt ?_; exact hr.symm
  by_cases hk1 : 5 < k
  · refine xrg ?_; (refine xctl ?_); refine xct ?_; (refine xctl ?_); refine xrg ?_; (refine xctl ?_); refine xrt ?_; exact hr.symm
  by_cases hk2 : k < -5
  · refine xrg ?_; (refine xctl ?_); refine xct ?_; (refine xctl ?_); refine xrg ?_; (refine xctl ?_); refine xrt ?_; exact hr.symm
  obtain ⟨hb11, hb12⟩ := hb1 rfl
  obtain ⟨hb21, hb22⟩ := hb2 rfl
  have hx := qm_in (b := b1) hn1 ha1 hm1 hc1 (by omega) hb11 hb12
  have hy := qm_in (b := b2) hn2 ha2 hm2 hc2 (by omega) hb21 hb22
  have ho1 := pcr_own hG b1 a1 n1 hn1 ha1 hb11 c1 m1 hm1 hc1 hb12
  have ho2 := pcr_own hG b2 a2 n2 hn2 ha2 hb21 c2 m2 hm2 hc2 hb22
  have hwc := pcr_words hG c1 m1 hm1 hc1 (by omega)
  have hmx := nm_in (L := 12) hn1 ha1 (by omega)
  have hmy := nm_in (L := 12) hm1 hc1 (by omega)
  have hxv : vq b1 a1 c1 = mkRat (sg b1 (vl 4294967296 a1)) (vl 4294967296 c1) := rfl
  generalize vl 4294967296 a1 = X at *
  generalize vl 4294967296 c1 = Y at *
  generalize vq b1 a1 c1 = x at *
  generalize vq b2 a2 c2 = y at *
  have hsum := qm_add hx hy
  have hprd := qm_mul hx hy
  have hngx := qm_neg hx
  have hfl : x.floor.natAbs < 4294967296 ^ 12 := by
    rw [Rat.floor_def]
    exact Nat.lt_of_le_of_lt (Int.natAbs_ediv_le_natAbs x.num x.den) hx.lt.1
  have q1 := pcr_qis hG hx (by omega)
  have q2 := pcr_qis hG hngx (by omega)
  have q3 := pcr_qis hG hsum (by omega)
  have q4 := pcr_qis hG hprd (by omega)
  have z1 := pcr_zis hG hfl (by decide)
  have hqs := pcr_qsign hG x
  refine xrg ?_
  refine xctl ?_
  refine xcF ?_
  refine xctl ?_
  refine xrg ?_; (refine xca1 ?_; refine xca (ho1) ?_)
  refine xrg ?_; (refine xca1 ?_; refine xca (ho2) ?_)
  refine xrg ?_
  refine xctl ?_
  refine xdr ?_
  refine xctl1 ?_
  refine awp_share (fun σ => σ = ⟨(putE (putE (putE (putE un0 (some 4) (.ptr 0 0 0)) (some 5) (.ptr 1 0 0)) (some 9) (.ptr 2 0 0)) (some 10) (.ptr 3 0 0)), [some (0, 75, 3, [.bool b1, .sl n1 (W a1), .sl m1 (W c1)]), some (0, 75, 3, [.bool b2, .sl n2 (W a2), .sl m2 (W c2)]), some (0, 92, 3, [.bool (ng x.num), M x.num.natAbs, M x.den]), some (0, 92, 3, [.bool (ng y.num), M y.num.natAbs, M y.den])]⟩) ?_ fun tail => ?_
  · rintro σ rfl
    by_cases hY0 : Y = 0
    · have hw0 : (wd 10000 Y).length = 0 := by rw [hY0, wd_zero]; rfl
      have hof := RatT.pcr_of0 hG (b := b1) hmx (hY0 ▸ hmy) (by omega) (by omega)
      refine xctl ?_
      refine xrg ?_; (refine xca1 ?_; refine xca (hof) ?_)
      refine xrg ?_
      refine xctl ?_
      refine xrg ?_; (refine xca1 ?_; refine xca (hwc) ?_)
      refine xrg ?_
      refine xctl ?_
      refine xcF ?_
      refine xctl ?_
      refine xrg ?_; (refine xcf1 ?_; refine xcf (RatT.pcr_sign hG hx (by omega)) rfl ?_)
      refine xrg ?_; (refine xcf1 ?_; refine xcf (hqs) rfl ?_)
      refine xrg ?_; (refine xcgf1 ?_; refine xcf (RatT.pcr_cmp hG hx hy (by omega) (by omega)) rfl ?_)
      refine xrg ?_; (refine xcgf1 ?_; refine xcf (pcr_qcmp hG hx hy (by omega) (by omega)) rfl ?_)
      refine xrg ?_; (refine xcga1 ?_; refine xca (RatT.pcr_neg hG hx (by omega)) ?_)
      refine xrg ?_; (refine xcga1 ?_; refine xca (pcr_qneg hG x) ?_)
      refine xrg ?_; (refine xcgf1 ?_; refine xcf (q2) rfl ?_)
      refine xrg ?_; (refine xcga1 ?_; refine xca (RatT.pcr_add hG hx hy (by omega) (by omega)) ?_)
      refine xrg ?_; (refine xcga1 ?_; refine xca (pcr_qadd hG hx hy (by omega) (by omega)) ?_)
      refine xrg ?_; (refine xcgf1 ?_; refine xcf (q3) rfl ?_)
      refine xrg ?_; (refine xcga1 ?_; refine xca (RatT.pcr_mul hG hx hy (by omega) (by omega)) ?_)
      refine xrg ?_; (refine xcga1 ?_; refine xca (pcr_qmul hG hx hy (by omega) (by omega)) ?_)
      refine xrg ?_; (refine xcgf1 ?_; refine xcf (q4) rfl ?_)
      refine xrg ?_; (refine xcga1 ?_; refine xca (RatT.pcr_floor hG hx (by omega)) ?_)
      refine xrg ?_; (refine xcga1 ?_; refine xca (pcr_qfloor hG hx (by omega)) ?_)
      refine xrg ?_; (refine xcgf1 ?_; refine xcf (z1) rfl ?_)
      refine xrg ?_; (refine xcgf1 ?_; refine xcf (RatT.pcr_text hG hT hx (by omega)) rfl ?_)
      refine xrg ?_; (refine xcgf1 ?_; refine xcf (pcr_qtext hG hx (by omega)) rfl ?_)
      refine xrg ?_; (refine xctl ?_); refine xdr ?_; (refine xctl ?_); refine xrt ?_; exact hr.symm
    · have hw0 := wd4_pos hY0
      have hof := RatT.pcr_of hG (b := b1) hmx hmy hY0 (by omega) (by omega)
      rw [← hxv] at hof
      refine xctl ?_
      refine xrg ?_; (refine xca1 ?_; refine xca (hof) ?_)
      refine xrg ?_
      refine xctl ?_
      refine xrg ?_; (refine xca1 ?_; refine xca (hwc) ?_)
      refine xrg ?_; (refine xcgf1 ?_; refine xcf (q1) rfl ?_)
      refine xrg ?_
      refine xctl ?_
      refine xcF ?_
      refine xctl ?_
      refine xrg ?_; (refine xcf1 ?_; refine xcf (RatT.pcr_sign hG hx (by omega)) rfl ?_)
      refine xrg ?_; (refine xcf1 ?_; refine xcf (hqs) rfl ?_)
      refine xrg ?_; (refine xcgf1 ?_; refine xcf (RatT.pcr_cmp hG hx hy (by omega) (by omega)) rfl ?_)
      refine xrg ?_; (refine xcgf1 ?_; refine xcf (pcr_qcmp hG hx hy (by omega) (by omega)) rfl ?_)
      refine xrg ?_; (refine xcga1 ?_; refine xca (RatT.pcr_neg hG hx (by omega)) ?_)
      refine xrg ?_; (refine xcga1 ?_; refine xca (pcr_qneg hG x) ?_)
      refine xrg ?_; (refine xcgf1 ?_; refine xcf (q2) rfl ?_)
      refine xrg ?_; (refine xcga1 ?_; refine xca (RatT.pcr_add hG hx hy (by omega) (by omega)) ?_)
      refine xrg ?_; (refine xcga1 ?_; refine xca (pcr_qadd hG hx hy (by omega) (by omega)) ?_)
      refine xrg ?_; (refine xcgf1 ?_; refine xcf (q3) rfl ?_)
      refine xrg ?_; (refine xcga1 ?_; refine xca (RatT.pcr_mul hG hx hy (by omega) (by omega)) ?_)
      refine xrg ?_; (refine xcga1 ?_; refine xca (pcr_qmul hG hx hy (by omega) (by omega)) ?_)
      refine xrg ?_; (refine xcgf1 ?_; refine xcf (q4) rfl ?_)
      refine xrg ?_; (refine xcga1 ?_; refine xca (RatT.pcr_floor hG hx (by omega)) ?_)
      refine xrg ?_; (refine xcga1 ?_; refine xca (pcr_qfloor hG hx (by omega)) ?_)
      refine xrg ?_; (refine xcgf1 ?_; refine xcf (z1) rfl ?_)
      refine xrg ?_; (refine xcgf1 ?_; refine xcf (RatT.pcr_text hG hT hx (by omega)) rfl ?_)
      refine xrg ?_; (refine xcgf1 ?_; refine xcf (pcr_qtext hG hx (by omega)) rfl ?_)
      refine xrg ?_; (refine xctl ?_); refine xdr ?_; (refine xctl ?_); refine xrt ?_; exact hr.symm
  by_cases hx0 : x = 0
  · have hsg : ¬ x.num.sign ≠ 0 := by rw [hx0]; decide
    have hinv := RatT.pcr_inv0 hG (hx0 ▸ hx) (by omega)
    by_cases hk0 : k < 0
    · have hw1 := RatT.pcr_powneg0 hG (hx0 ▸ hx) (by omega) k hk0
      have hw2 := pcr_qpow0 hG k hk0
      rw [← hx0] at hw2
      have hp1 := RatT.pcr_parse hG hM s (by omega)
      have hp2 := pcr_qparse hG s (by omega)
      cases hpc : pQ s.data.toList with
      | none =>
        rw [hpc, qR] at hp1
        rw [hpc, mQ] at hp2
        refine xctl ?_
        refine xrg ?_; (refine xca1 ?_; refine xca (hinv) ?_)
        refine xrg ?_
        refine xctl ?_
        refine xrg ?_; (refine xca1 ?_; refine xca (hp1) ?_)
        refine xrg ?_
        refine xctl ?_
        refine xrg ?_; (refine xca1 ?_; refine xca (hp2) ?_)
        refine xrg ?_
        refine xctl ?_
        refine xrg ?_; (refine xca1 ?_; refine xca (hw1) ?_)
        refine xrg ?_
        refine xctl ?_
        refine xrg ?_; (refine xca1 ?_; refine xca (hw2) ?_)
        refine xrg ?_
        refine xctl1 ?_
        refine awp_seq_mid _ tail ?_
        refine xctl ?_
        refine xrg ?_; (refine xcf1 ?_; refine xcf (hqs) rfl ?_)
        refine xrg ?_
        refine xctl ?_
        refine xdr ?_
        refine xctl ?_
        refine xcF ?_
        refine xctl ?_
        refine ⟨_, Nat.zero_le _, (Ent.cutk 4 (less_put (less_put (less_put (less_put (less_un0 _) ?_) ?_) ?_) ?_) (by exact ⟨.inr rfl, .inr rfl, .inr rfl, .inr rfl, trivial⟩) (kb_put (kb_put (kb_put (kb_put (kb_un0 _) (by simp [kb])) (by simp [kb])) (by simp [kb])) (by simp [kb])) (by simp [kbH, kb.kbs, kb, kbs_W, kbs_SS])), rfl⟩
        iterate 4 (· exact xlq)
      | some q =>
        rw [hpc, qR] at hp1
        rw [hpc, mQ] at hp2
        have q6 := pcr_qis hG (pQ_qm hpc (by rw [ba_len]; omega)) (by omega)
        refine xctl ?_
        refine xrg ?_; (refine xca1 ?_; refine xca (hinv) ?_)
        refine xrg ?_
        refine xctl ?_
        refine xrg ?_; (refine xca1 ?_; refine xca (hp1) ?_)
        refine xrg ?_
        refine xctl ?_
        refine xrg ?_; (refine xca1 ?_; refine xca (hp2) ?_)
        refine xrg ?_
        refine xctl ?_
        refine xrg ?_; (refine xca1 ?_; refine xca (hw1) ?_)
        refine xrg ?_
        refine xctl ?_
        refine xrg ?_; (refine xca1 ?_; refine xca (hw2) ?_)
        refine xrg ?_
        refine xctl1 ?_
        refine awp_seq_mid _ tail ?_
        refine xctl ?_
        refine xrg ?_; (refine xcf1 ?_; refine xcf (hqs) rfl ?_)
        refine xrg ?_; (refine xcgf1 ?_; refine xcf (q6) rfl ?_)
        refine xrg ?_
        refine xctl ?_
        refine xdr ?_
        refine xctl ?_
        refine xcF ?_
        refine xctl ?_
        refine ⟨_, Nat.zero_le _, (Ent.cutk 4 (less_put (less_put (less_put (less_put (less_un0 _) ?_) ?_) ?_) ?_) (by exact ⟨.inr rfl, .inr rfl, .inr rfl, .inr rfl, trivial⟩) (kb_put (kb_put (kb_put (kb_put (kb_un0 _) (by simp [kb])) (by simp [kb])) (by simp [kb])) (by simp [kb])) (by simp [kbH, kb.kbs, kb, kbs_W, kbs_SS])), rfl⟩
        iterate 4 (· exact xlq)
    · obtain ⟨K, rfl⟩ := Int.eq_ofNat_of_zero_le (show 0 ≤ k by omega)
      have hw1 := RatT.pcr_pow hG hx K (by omega) (by omega)
      have hw2 := pcr_qpow hG hx K (by omega) (by omega)
      have hKb : 12 * K + 1 < 3000 := by omega
      have q7 := pcr_qis hG (qm_pow hx K) hKb
      have hp1 := RatT.pcr_parse hG hM s (by omega)
      have hp2 := pcr_qparse hG s (by omega)
      cases hpc : pQ s.data.toList with
      | none =>
        rw [hpc, qR] at hp1
        rw [hpc, mQ] at hp2
        refine xctl ?_
        refine xrg ?_; (refine xca1 ?_; refine xca (hinv) ?_)
        refine xrg ?_
        refine xctl ?_
        refine xrg ?_; (refine xca1 ?_; refine xca (hp1) ?_)
        refine xrg ?_
        refine xctl ?_
        refine xrg ?_; (refine xca1 ?_; refine xca (hp2) ?_)
        refine xrg ?_
        refine xctl ?_
        refine xrg ?_; (refine xca1 ?_; refine xca (hw1) ?_)
        refine xrg ?_
        refine xctl ?_
        refine xrg ?_; (refine xca1 ?_; refine xca (hw2) ?_)
        refine xrg ?_
        refine xctl1 ?_
        refine awp_seq_mid _ tail ?_
        refine xctl ?_
        refine xrg ?_; (refine xcf1 ?_; refine xcf (hqs) rfl ?_)
        refine xrg ?_; (refine xcgf1 ?_; refine xcf (q7) rfl ?_)
        refine xrg ?_
        refine xctl ?_
        refine xdr ?_
        refine xctl ?_
        refine xcF ?_
        refine xctl ?_
        refine ⟨_, Nat.zero_le _, (Ent.cutk 4 (less_put (less_put (less_put (less_put (less_un0 _) ?_) ?_) ?_) ?_) (by exact ⟨.inr rfl, .inr rfl, .inr rfl, .inr rfl, trivial⟩) (kb_put (kb_put (kb_put (kb_put (kb_un0 _) (by simp [kb])) (by simp [kb])) (by simp [kb])) (by simp [kb])) (by simp [kbH, kb.kbs, kb, kbs_W, kbs_SS])), rfl⟩
        iterate 4 (· exact xlq)
      | some q =>
        rw [hpc, qR] at hp1
        rw [hpc, mQ] at hp2
        have q6 := pcr_qis hG (pQ_qm hpc (by rw [ba_len]; omega)) (by omega)
        refine xctl ?_
        refine xrg ?_; (refine xca1 ?_; refine xca (hinv) ?_)
        refine xrg ?_
        refine xctl ?_
        refine xrg ?_; (refine xca1 ?_; refine xca (hp1) ?_)
        refine xrg ?_
        refine xctl ?_
        refine xrg ?_; (refine xca1 ?_; refine xca (hp2) ?_)
        refine xrg ?_
        refine xctl ?_
        refine xrg ?_; (refine xca1 ?_; refine xca (hw1) ?_)
        refine xrg ?_
        refine xctl ?_
        refine xrg ?_; (refine xca1 ?_; refine xca (hw2) ?_)
        refine xrg ?_
        refine xctl1 ?_
        refine awp_seq_mid _ tail ?_
        refine xctl ?_
        refine xrg ?_; (refine xcf1 ?_; refine xcf (hqs) rfl ?_)
        refine xrg ?_; (refine xcgf1 ?_; refine xcf (q6) rfl ?_)
        refine xrg ?_; (refine xcgf1 ?_; refine xcf (q7) rfl ?_)
        refine xrg ?_
        refine xctl ?_
        refine xdr ?_
        refine xctl ?_
        refine xcF ?_
        refine xctl ?_
        refine ⟨_, Nat.zero_le _, (Ent.cutk 4 (less_put (less_put (less_put (less_put (less_un0 _) ?_) ?_) ?_) ?_) (by exact ⟨.inr rfl, .inr rfl, .inr rfl, .inr rfl, trivial⟩) (kb_put (kb_put (kb_put (kb_put (kb_un0 _) (by simp [kb])) (by simp [kb])) (by simp [kb])) (by simp [kb])) (by simp [kbH, kb.kbs, kb, kbs_W, kbs_SS])), rfl⟩
        iterate 4 (· exact xlq)
  · have hsg : x.num.sign ≠ 0 := fun h => hx0 (Rat.num_eq_zero.1 (Int.sign_eq_zero_iff_zero.1 h))
    have hinv := RatT.pcr_inv hG hx (by omega) hx0
    have q5 := pcr_qis hG (qm_inv hx) (by omega)
    by_cases hk0 : k < 0
    · obtain ⟨K, hK⟩ : ∃ K : Nat, k = -((K : Int) + 1) := ⟨(-k - 1).toNat, by omega⟩
      have hw1 := RatT.pcr_powneg hG hx K (by omega) (by omega) hx0 k hK
      have hw2 := pcr_qpowneg hG hx K (by omega) (by omega) hx0 k hK
      have hKb : 12 * (K + 1) + 1 < 3000 := by omega
      have q7 := pcr_qis hG (qm_pow (qm_inv hx) (K + 1)) hKb
      have hp1 := RatT.pcr_parse hG hM s (by omega)
      have hp2 := pcr_qparse hG s (by omega)
      cases hpc : pQ s.data.toList with
      | none =>
        rw [hpc, qR] at hp1
        rw [hpc, mQ] at hp2
        refine xctl ?_
        refine xrg ?_; (refine xca1 ?_; refine xca (hinv) ?_)
        refine xrg ?_
        refine xctl ?_
        refine xrg ?_; (refine xca1 ?_; refine xca (hp1) ?_)
        refine xrg ?_
        refine xctl ?_
        refine xrg ?_; (refine xca1 ?_; refine xca (hp2) ?_)
        refine xrg ?_
        refine xctl ?_
        refine xrg ?_; (refine xca1 ?_; refine xca (hw1) ?_)
        refine xrg ?_
        refine xctl ?_
        refine xrg ?_; (refine xca1 ?_; refine xca (hw2) ?_)
        refine xrg ?_
        refine xctl1 ?_
        refine awp_seq_mid _ tail ?_
        refine xctl ?_
        refine xrg ?_; (refine xcf1 ?_; refine xcf (hqs) rfl ?_)
        refine xrg ?_; (refine xcga1 ?_; refine xca (pcr_qinv hG x hx0) ?_)
        refine xrg ?_; (refine xcgf1 ?_; refine xcf (q5) rfl ?_)
        refine xrg ?_; (refine xcgf1 ?_; refine xcf (q7) rfl ?_)
        refine xrg ?_
        refine xctl ?_
        refine xdr ?_
        refine xctl ?_
        refine xcF ?_
        refine xctl ?_
        refine ⟨_, Nat.zero_le _, (Ent.cutk 4 (less_put (less_put (less_put (less_put (less_un0 _) ?_) ?_) ?_) ?_) (by exact ⟨.inr rfl, .inr rfl, .inr rfl, .inr rfl, trivial⟩) (kb_put (kb_put (kb_put (kb_put (kb_un0 _) (by simp [kb])) (by simp [kb])) (by simp [kb])) (by simp [kb])) (by simp [kbH, kb.kbs, kb, kbs_W, kbs_SS])), rfl⟩
        iterate 4 (· exact xlq)
      | some q =>
        rw [hpc, qR] at hp1
        rw [hpc, mQ] at hp2
        have q6 := pcr_qis hG (pQ_qm hpc (by rw [ba_len]; omega)) (by omega)
        refine xctl ?_
        refine xrg ?_; (refine xca1 ?_; refine xca (hinv) ?_)
        refine xrg ?_
        refine xctl ?_
        refine xrg ?_; (refine xca1 ?_; refine xca (hp1) ?_)
        refine xrg ?_
        refine xctl ?_
        refine xrg ?_; (refine xca1 ?_; refine xca (hp2) ?_)
        refine xrg ?_
        refine xctl ?_
        refine xrg ?_; (refine xca1 ?_; refine xca (hw1) ?_)
        refine xrg ?_
        refine xctl ?_
        refine xrg ?_; (refine xca1 ?_; refine xca (hw2) ?_)
        refine xrg ?_
        refine xctl1 ?_
        refine awp_seq_mid _ tail ?_
        refine xctl ?_
        refine xrg ?_; (refine xcf1 ?_; refine xcf (hqs) rfl ?_)
        refine xrg ?_; (refine xcga1 ?_; refine xca (pcr_qinv hG x hx0) ?_)
        refine xrg ?_; (refine xcgf1 ?_; refine xcf (q5) rfl ?_)
        refine xrg ?_; (refine xcgf1 ?_; refine xcf (q6) rfl ?_)
        refine xrg ?_; (refine xcgf1 ?_; refine xcf (q7) rfl ?_)
        refine xrg ?_
        refine xctl ?_
        refine xdr ?_
        refine xctl ?_
        refine xcF ?_
        refine xctl ?_
        refine ⟨_, Nat.zero_le _, (Ent.cutk 4 (less_put (less_put (less_put (less_put (less_un0 _) ?_) ?_) ?_) ?_) (by exact ⟨.inr rfl, .inr rfl, .inr rfl, .inr rfl, trivial⟩) (kb_put (kb_put (kb_put (kb_put (kb_un0 _) (by simp [kb])) (by simp [kb])) (by simp [kb])) (by simp [kb])) (by simp [kbH, kb.kbs, kb, kbs_W, kbs_SS])), rfl⟩
        iterate 4 (· exact xlq)
    · obtain ⟨K, rfl⟩ := Int.eq_ofNat_of_zero_le (show 0 ≤ k by omega)
      have hw1 := RatT.pcr_pow hG hx K (by omega) (by omega)
      have hw2 := pcr_qpow hG hx K (by omega) (by omega)
      have hKb : 12 * K + 1 < 3000 := by omega
      have q7 := pcr_qis hG (qm_pow hx K) hKb
      have hp1 := RatT.pcr_parse hG hM s (by omega)
      have hp2 := pcr_qparse hG s (by omega)
      cases hpc : pQ s.data.toList with
      | none =>
        rw [hpc, qR] at hp1
        rw [hpc, mQ] at hp2
        refine xctl ?_
        refine xrg ?_; (refine xca1 ?_; refine xca (hinv) ?_)
        refine xrg ?_
        refine xctl ?_
        refine xrg ?_; (refine xca1 ?_; refine xca (hp1) ?_)
        refine xrg ?_
        refine xctl ?_
        refine xrg ?_; (refine xca1 ?_; refine xca (hp2) ?_)
        refine xrg ?_
        refine xctl ?_
        refine xrg ?_; (refine xca1 ?_; refine xca (hw1) ?_)
        refine xrg ?_
        refine xctl ?_
        refine xrg ?_; (refine xca1 ?_; refine xca (hw2) ?_)
        refine xrg ?_
        refine xctl1 ?_
        refine awp_seq_mid _ tail ?_
        refine xctl ?_
        refine xrg ?_; (refine xcf1 ?_; refine xcf (hqs) rfl ?_)
        refine xrg ?_; (refine xcga1 ?_; refine xca (pcr_qinv hG x hx0) ?_)
        refine xrg ?_; (refine xcgf1 ?_; refine xcf (q5) rfl ?_)
        refine xrg ?_; (refine xcgf1 ?_; refine xcf (q7) rfl ?_)
        refine xrg ?_
        refine xctl ?_
        refine xdr ?_
        refine xctl ?_
        refine xcF ?_
        refine xctl ?_
        refine ⟨_, Nat.zero_le _, (Ent.cutk 4 (less_put (less_put (less_put (less_put (less_un0 _) ?_) ?_) ?_) ?_) (by exact ⟨.inr rfl, .inr rfl, .inr rfl, .inr rfl, trivial⟩) (kb_put (kb_put (kb_put (kb_put (kb_un0 _) (by simp [kb])) (by simp [kb])) (by simp [kb])) (by simp [kb])) (by simp [kbH, kb.kbs, kb, kbs_W, kbs_SS])), rfl⟩
        iterate 4 (· exact xlq)
      | some q =>
        rw [hpc, qR] at hp1
        rw [hpc, mQ] at hp2
        have q6 := pcr_qis hG (pQ_qm hpc (by rw [ba_len]; omega)) (by omega)
        refine xctl ?_
        refine xrg ?_; (refine xca1 ?_; refine xca (hinv) ?_)
        refine xrg ?_
        refine xctl ?_
        refine xrg ?_; (refine xca1 ?_; refine xca (hp1) ?_)
        refine xrg ?_
        refine xctl ?_
        refine xrg ?_; (refine xca1 ?_; refine xca (hp2) ?_)
        refine xrg ?_
        refine xctl ?_
        refine xrg ?_; (refine xca1 ?_; refine xca (hw1) ?_)
        refine xrg ?_
        refine xctl ?_
        refine xrg ?_; (refine xca1 ?_; refine xca (hw2) ?_)
        refine xrg ?_
        refine xctl1 ?_
        refine awp_seq_mid _ tail ?_
        refine xctl ?_
        refine xrg ?_; (refine xcf1 ?_; refine xcf (hqs) rfl ?_)
        refine xrg ?_; (refine xcga1 ?_; refine xca (pcr_qinv hG x hx0) ?_)
        refine xrg ?_; (refine xcgf1 ?_; refine xcf (q5) rfl ?_)
        refine xrg ?_; (refine xcgf1 ?_; refine xcf (q6) rfl ?_)
        refine xrg ?_; (refine xcgf1 ?_; refine xcf (q7) rfl ?_)
        refine xrg ?_
        refine xctl ?_
        refine xdr ?_
        refine xctl ?_
        refine xcF ?_
        refine xctl ?_
        refine ⟨_, Nat.zero_le _, (Ent.cutk 4 (less_put (less_put (less_put (less_put (less_un0 _) ?_) ?_) ?_) ?_) (by exact ⟨.inr rfl, .inr rfl, .inr rfl, .inr rfl, trivial⟩) (kb_put (kb_put (kb_put (kb_put (kb_un0 _) (by simp [kb])) (by simp [kb])) (by simp [kb])) (by simp [kb])) (by simp [kbH, kb.kbs, kb, kbs_W, kbs_SS])), rfl⟩
        iterate 4 (· exact xlq)
end Go.Proofs.YtnildflhdkdbiaaGreatDoorV.LawT3
