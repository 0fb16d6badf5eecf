/-
  cubitlaw5.RoundSays answers true.
-/
import Derived.Test.YtapikjmijmebpaaGreatDoorKIrLRoundSays
import Derived.Test.YtapikjmijmebpaaGreatDoorKAwakeE5
import Derived.Test.YtapikjmijmebpaaGreatDoorKIsD5
import Derived.Test.YtapikjmijmebpaaGreatDoorKOverL5
import Derived.Test.YtapikjmijmebpaaGreatDoorKRr
set_option linter.all false
set_option linter.unusedVariables false
set_option linter.unusedSimpArgs false
set_option maxHeartbeats 4000000
namespace Go.Proofs.YtapikjmijmebpaaGreatDoorK.LawT5
open Go.Proofs.YtapikjmijmebpaaGreatDoorK.AI Go.Proofs.YtapikjmijmebpaaGreatDoorK.NatIr Go.Proofs.YtapikjmijmebpaaGreatDoorK.Dig Go.Proofs.YtapikjmijmebpaaGreatDoorK.NatT Go.Proofs.YtapikjmijmebpaaGreatDoorK.NumT Go.Proofs.YtapikjmijmebpaaGreatDoorK.RatT Go.Proofs.YtapikjmijmebpaaGreatDoorK.RefT Go.Proofs.YtapikjmijmebpaaGreatDoorK.DecT Go.Proofs.YtapikjmijmebpaaGreatDoorK.RoundT
set_option linter.unusedSimpArgs false
attribute [local irreducible] awp awpOps
attribute [local go_sem] getO putE_same putE_ne putE_none un0_at ini_zero ini_one ini_two ini_three ne_eq not_false_eq_true Nat.zero_ne_one Nat.one_ne_zero zero_ne_succ succ_ne_zero sym_nil sym_cons symG_call symG_op symG_skip IOp.isCall gd st_mv st_pick st_new st_box st_build st_lit st_load st_store st_faddr st_fld st_iaddrS st_iaddrA st_idxs st_bin st_beq st_neg st_not st_conv st_slcS st_slcL st_make st_app st_lenS st_lenL st_mx st_mn st_ext st_nilck st_bstr byD pureC loadC setH hv boundO D.cells D.one D.boxable fillD putD rowD binC intBinC decT decF dec_true dec_false bne_self_eq_false beq_self_eq_true beq_true_false beq_false_true bne_iff_ne List.length_nil List.length_cons List.getD_cons_zero List.getD_cons_succ List.set_cons_zero List.set_cons_succ List.all_cons List.all_nil Bool.and_true Bool.true_and Nat.lt_irrefl Nat.sub_self Nat.zero_add Nat.add_zero Nat.mul_one Nat.lt_add_one if_true if_false List.replicate_zero List.nil_append List.cons_append List.append_nil List.map_cons List.map_nil Bool.false_eq_true or_self or_true true_or or_false false_or true_and and_true and_self Int.ofNat_zero wrap_i64 wrap_u32 wrap_u64 wrap_u8 wrap_u32_mod wrap_u64_mod Nat.zero_lt_one Int.toNat_natCast Int.sub_zero toNat_pred List.take_succ_cons List.take_zero List.drop_succ_cons List.drop_zero List.take_nil List.drop_nil Nat.le_refl List.length_singleton rvDs rvD ldD one? Option.bind_some Option.map_some resD_int resD_bool resD_str resD_sl resD_rp resD_nils resD_null resD_agg resD_tup resD_own rdOwn resD_ptr rdPtr rd_ite resL_eq go_nil go_cons D.imm resArgs shr32 shl32 Nat.zero_mul Bool.and_self Bool.and_false Bool.false_and strBin_eql strBin_neq Bool.not_true Bool.not_false i64max List.length_reverse List.length_set SS_length SS_getD SS_set SS_take SS_drop SS_imm SS_one SS_app1 W_get1 W_len1 W_getD W_set W_take W_drop W_app W_length W_imm W_one W_repl N mx_nat toNat_succ toNat_add toNat_pred2 tdiv_nn tmod_nn List.take_of_length_le cast_succ and_one or_shl32 min64 shr32b shl32b IntKind.bits
attribute [local go_sem] V_getD V_set V_take V_drop V_imm V_one V_app V_app1 V_repl V_get1 V_length M List.length_append
attribute [local go_sem] nl ZD MZ
attribute [local go_sem] QD MQ
attribute [local go_sem] not_true_eq_false not_false_eq_true beq_self_eq_true
theorem ini_four {a b c d e : D} {l : List D} : ini (a :: b :: c :: d :: e :: l) 4 = e := of_eq rfl
attribute [local go_sem] ini_four
variable {G : World → Prop}
attribute [local go_sem] MD DD
set_option maxRecDepth 4000 in
set_option maxHeartbeats 32000000 in
theorem pcr_says_law (hG : Stable G) (hT : ∀ w, G w → Lib.TabIs Tryz.prog w "internal/strconv.uint64pow10" .u64 Lib.pow10Tab) (hM : ∀ w, G w → LibT.gMax w)
    (bA : Bool) (a : List Int) (n : Nat) (hn : n = a.length) (ha : ok 4294967296 a) (hla : a.length ≤ 9223372036854775807) (c : List Int) (m : Nat) (hm : m = c.length) (hc : ok 4294967296 c) (hlc : c.length ≤ 9223372036854775807)
    (sc : Int) (hsc : -9223372036854775808 ≤ sc ∧ sc ≤ 9223372036854775807) (dg : Int) (hdg : -9223372036854775808 ≤ dg ∧ dg ≤ 9223372036854775807) (mo : Int) (hmo : -9223372036854775808 ≤ mo ∧ mo ≤ 9223372036854775807)
    (b0 : Bool) (a0 : List Int) (n0 : Nat) (hn0 : n0 = a0.length) (ha0 : ok 4294967296 a0) (hla0 : a0.length ≤ 9223372036854775807) (k : Int) (hk : -9223372036854775808 ≤ k ∧ k ≤ 9223372036854775807) :
    PCr Tryz.prog G 3 [.agg [.bool bA, .sl n (W a), .sl m (W c)], .int .i64 sc, .int .i64 dg, .int .i64 mo, .agg [.bool b0, .sl n0 (W a0), .int .i64 k]] (.bool true) := by
  have haw := pcr_awake hG hT hM
  obtain ⟨l, hl, hb⟩ := pcr_longq hG bA n m (W a) (W c)
  cases l
  case true =>
    refine pcr_byq ok3 hG (n := 192) (rv := [.tmp 10]) fun r hr => ?_; unfold c3 st0
    (exact xwalkd)
  by_cases hl0 : 10 < n0
  · refine pcr_byq ok3 hG (n := 192) (rv := [.tmp 10]) fun r hr => ?_; unfold c3 st0
    (exact xwalkd)
  obtain ⟨hb1, hb2⟩ := hb rfl
  have hx := qm_in (b := bA) (L := 12) hn ha hm hc (by omega) hb1 hb2
  have hown := pcr_own hG bA a n hn ha hb1 c m hm hc hb2
  generalize vq bA a c = x at *
  have hwd := pcr_words hG a0 n0 hn0 ha0 (by omega)
  have hgd := pcr_dgood hG b0 a0 n0 k hn0 ha0 (by omega)
  have hmd := pcr_mode hG mo
  have hto : ∃ (b : Bool) (X s : Nat) (f : Int) (ok : Bool), PCr Tryz.prog G 16 [.agg [.bool bA, .sl n (W a), .sl m (W c)], .int .i64 sc, .int .i64 mo] (.tup [DD b X s, .int .i64 f]) ∧ PCr Tryz.prog G 22 [MQ x, .int .i64 sc, .int .i64 mo] (.tup [MD b X s, .bool ok]) ∧ ((ok = true ∧ f = 0 ∧ PCr Tryz.prog G 27 [DD b X s, MD b X s] (.bool true)) ∨ (ok = false ∧ f = 1)) := by
    by_cases hg : (0 ≤ sc ∧ sc ≤ 60) ∧ mok mo = true
    · obtain ⟨hg1, hg2⟩ := hg
      rw [mok_iff] at hg2
      obtain ⟨s, rfl⟩ : ∃ s : Nat, sc = s := ⟨sc.toNat, by omega⟩
      exact ⟨_, _, s, 0, true, pcr_to hG hx (by omega) (by omega) hg2.1 hg2.2, pcr_toR hG hx (by omega) (by omega) hg2.1 hg2.2, .inl ⟨rfl, rfl, pcr_dis hG (dok_z (by omega)) (rto_nat hx (by omega) mo) (by omega)⟩⟩
    · have h2 : (sc < 0 ∨ 60 < sc) ∨ mok mo = false := by
        cases hmk : mok mo
        · exact .inr rfl
        · rw [hmk] at hg
          left
          by_cases h3 : sc < 0
          · exact .inl h3
          · refine .inr (Int.lt_of_not_ge fun h4 => hg ⟨⟨by omega, h4⟩, rfl⟩)
      exact ⟨false, 0, 0, 1, false, pcr_to0 hG hx (by omega) sc h2, pcr_toR0 hG x sc h2, .inr ⟨rfl, rfl⟩⟩
  have hsi : ∃ (b : Bool) (X s : Nat) (g : Int), PCr Tryz.prog G 17 [.agg [.bool bA, .sl n (W a), .sl m (W c)], .int .i64 dg, .int .i64 mo] (.tup [DD b X s, .int .i64 g]) ∧ PCr Tryz.prog G 23 [MQ x, .int .i64 dg, .int .i64 mo] (.tup [MD b X s, .int .i64 g]) ∧ (¬ g = 0 ∨ (g = 0 ∧ PCr Tryz.prog G 27 [DD b X s, MD b X s] (.bool true))) ∧ 0 ≤ g ∧ g ≤ 11 := by
    by_cases hg : (1 ≤ dg ∧ dg ≤ 40) ∧ mok mo = true
    · obtain ⟨hg1, hg2⟩ := hg
      rw [mok_iff] at hg2
      obtain ⟨q, rfl⟩ : ∃ q : Nat, dg = q := ⟨dg.toNat, by omega⟩
      by_cases hx0 : x = 0
      · subst hx0
        exact ⟨false, 0, q - 1, 0, pcr_sig0 hG hx (by omega) q (by omega) (by omega) hg2.1 hg2.2, pcr_sigR0 hG q (by omega) (by omega) hg2.1 hg2.2, .inr ⟨rfl, pcr_dis hG (L := 1) ⟨fun h => Bool.noConfusion h, by omega⟩ (by omega) (by omega)⟩, by omega, by omega⟩
      · have h1 := pcr_sig hG hT hx (by omega) hx0 q (by omega) (by omega) hg2.1 hg2.2
        have h2 := pcr_sigR hG hx (by omega) hx0 q (by omega) (by omega) hg2.1 hg2.2
        unfold sgR at h1
        unfold mgR at h2
        by_cases h6 : 60 < sgs x q
        · rw [if_pos h6] at h1 h2
          exact ⟨false, 0, 0, 11, h1, h2, .inl (by omega), by omega, by omega⟩
        · rw [if_neg h6] at h1 h2
          exact ⟨_, _, _, 0, h1, h2, .inr ⟨rfl, pcr_dis hG ⟨(dok_z (s := 0) (by omega)).1, sgv_two h6⟩ (sgv_nat hx (by omega) mo) (by omega)⟩, by omega, by omega⟩
    · have h2 : (dg < 1 ∨ 40 < dg) ∨ mok mo = false := by
        cases hmk : mok mo
        · exact .inr rfl
        · rw [hmk] at hg
          left
          by_cases h3 : dg < 1
          · exact .inl h3
          · refine .inr (Int.lt_of_not_ge fun h4 => hg ⟨⟨by omega, h4⟩, rfl⟩)
      exact ⟨false, 0, 0, 1, pcr_sig1 hG hx dg h2, pcr_sigR1 hG x dg h2, .inl (by omega), by omega, by omega⟩
  have hst : (gdB b0 a0 k = false ∧ PCr Tryz.prog G 18 [.agg [.bool bA, .sl n (W a), .sl m (W c)], .agg [.bool b0, .sl n0 (W a0), .int .i64 k], .int .i64 mo] (.tup [DD false 0 0, .int .i64 1])) ∨
      (gdB b0 a0 k = true ∧ ∃ (b : Bool) (X s : Nat) (h : Int) (fine : Bool), PCr Tryz.prog G 18 [.agg [.bool bA, .sl n (W a), .sl m (W c)], .agg [.bool b0, .sl n0 (W a0), .int .i64 k], .int .i64 mo] (.tup [DD b X s, .int .i64 h]) ∧
        PCr Tryz.prog G 25 [MQ x, .agg [.bool b0, M (vl 4294967296 a0), .int .i64 k], .int .i64 mo] (.tup [MD b X s, .bool fine]) ∧ ((fine = true ∧ h = 0 ∧ PCr Tryz.prog G 27 [DD b X s, MD b X s] (.bool true)) ∨ (fine = false ∧ h = 1))) := by
    cases hg : gdB b0 a0 k
    · exact .inl ⟨rfl, pcr_step0 hG hx (by omega) b0 a0 n0 k hn0 ha0 (M := 10) (by omega) (by omega) (.inl hg)⟩
    · right
      refine ⟨rfl, ?_⟩
      obtain ⟨h1, h2, h3⟩ := gdB_DD hn0 ha0 hg
      have hkk : k = ((k.toNat : Nat) : Int) := by
        injection h1 with h1
        injection h1 with _ h1
        injection h1 with _ h1
        injection h1 with h1 _
        injection h1
      have hY : vl 4294967296 a0 < 4294967296 ^ 10 := Nat.lt_of_lt_of_le (vl_lt ha0) (Nat.pow_le_pow_right (by omega) (by omega))
      have hMD : D.agg [.bool b0, M (vl 4294967296 a0), .int .i64 k] = MD b0 (vl 4294967296 a0) k.toNat := by rw [MD, ← hkk]
      rw [hMD]
      by_cases h4 : b0 = true ∨ vl 4294967296 a0 = 0
      · exact ⟨false, 0, 0, 1, false, pcr_step0 hG hx (by omega) b0 a0 n0 k hn0 ha0 (M := 10) (by omega) (by omega) (.inr h4), pcr_stepR0 hG x b0 _ _ (.inl h4), .inr ⟨rfl, rfl⟩⟩
      · have hb0 : b0 = false := by
          cases hb0 : b0
          · rfl
          · exact absurd (.inl hb0) h4
        have hY0 : vl 4294967296 a0 ≠ 0 := fun e => h4 (.inr e)
        subst hb0
        rw [h1]
        cases hmk : mok mo
        · exact ⟨false, 0, 0, 1, false, pcr_stepm hG hx (by omega) ⟨h2, h3⟩ hY (by omega) hY0 hmk, pcr_stepR0 hG x false _ _ (.inr hmk), .inr ⟨rfl, rfl⟩⟩
        · have h5 := mok_iff.1 hmk
          have hq := qm_mul hx (qm_inv (qm_dq (b := false) (s := k.toNat) ⟨fun h => Bool.noConfusion h, h3⟩ hY))
          have hrb := rnd_nat hq mo
          have hsb : (stz x (vl 4294967296 a0) k.toNat mo).natAbs < 4294967296 ^ (12 + (10 + 7) + 1 + 10) := by
            rw [stz, Int.natAbs_mul, Int.natAbs_natCast, Nat.pow_add _ _ 10]
            exact mul_lt2 hrb hY
          exact ⟨_, _, _, 0, true, pcr_step hG hx (by omega) ⟨h2, h3⟩ hY (by omega) hY0 h5.1 h5.2, pcr_stepR hG hx (by omega) h3 hY (by omega) hY0 h5.1 h5.2, .inl ⟨rfl, rfl, pcr_dis hG (dok_z h3) hsb (by omega)⟩⟩
  have hin : ∃ (zb : Bool) (zn : Nat) (zc : List D) (ei : Int), PCr Tryz.prog G 15 [.agg [.bool bA, .sl n (W a), .sl m (W c)], .int .i64 mo] (.tup [.agg [.bool zb, .sl zn zc], .int .i64 ei]) ∧
      ((mok mo = false ∧ ei = 1) ∨ (mok mo = true ∧ ei = 0 ∧ PCr Tryz.prog G 21 [MQ x, .int .i64 mo] (MZ (rnd x mo)) ∧ PCr Tryz.prog G 20 [.agg [.bool zb, .sl zn zc], MZ (rnd x mo)] (.bool true))) := by
    cases hmk : mok mo
    · have hri := pcr_rint0 hG hx hmk
      rw [ZD_zero] at hri
      exact ⟨_, _, _, _, hri, .inl ⟨rfl, rfl⟩⟩
    · have hm1 := mok_iff.1 hmk
      exact ⟨_, _, _, _, pcr_rint hG hx (by omega) hm1.1 hm1.2, .inr ⟨rfl, rfl, pcr_intR hG hx (by omega) hm1.1 hm1.2, pcr_zis hG (rnd_nat hx mo) (by omega)⟩⟩
  have hst2 : ∃ (bu : Bool) (Xu su : Nat) (hu : Int) (fu r1 : Bool) (r2 : D) (r3 : Int), PCr Tryz.prog G 18 [.agg [.bool bA, .sl n (W a), .sl m (W c)], .agg [.bool b0, .sl n0 (W a0), .int .i64 k], .int .i64 mo] (.tup [DD bu Xu su, .int .i64 hu]) ∧
      ((gdB b0 a0 k = false ∧ fu = false ∧ hu = 1 ∧ r1 = false ∧ r2 = .nils ∧ r3 = 0) ∨ (gdB b0 a0 k = true ∧ r1 = bu ∧ r2 = M Xu ∧ r3 = su ∧ PCr Tryz.prog G 25 [MQ x, .agg [.bool b0, M (vl 4294967296 a0), .int .i64 k], .int .i64 mo] (.tup [MD bu Xu su, .bool fu]))) ∧
      ((fu = true ∧ hu = 0 ∧ PCr Tryz.prog G 27 [DD bu Xu su, .agg [.bool r1, r2, .int .i64 r3]] (.bool true)) ∨ (fu = false ∧ hu = 1)) := by
    rcases hst with ⟨hg, u1⟩ | ⟨hg, bu, Xu, su, hu, fu, u1, u2, u3⟩
    · exact ⟨false, 0, 0, 1, false, false, .nils, 0, u1, .inl ⟨hg, rfl, rfl, rfl, rfl, rfl⟩, .inr ⟨rfl, rfl⟩⟩
    · exact ⟨bu, Xu, su, hu, fu, bu, M Xu, su, u1, .inr ⟨hg, rfl, rfl, rfl, u2⟩, u3⟩
  obtain ⟨bt1, Xt, st, ft, okt, t1, t2, t3⟩ := hto
  obtain ⟨bs1, Xs, ss, gs, s1, s2, s3, s4, s5⟩ := hsi
  obtain ⟨zb, zn, zc, ei, z1, z2⟩ := hin
  obtain ⟨bu, Xu, su, hu, fu, r1, r2, r3, u1, u2, u3⟩ := hst2
  refine pcr_byq ok3 hG (n := 192) (rv := [.tmp 10]) fun r hr => ?_; unfold c3 st0
  refine xctl ?_
  refine xrg ?_
  refine xctl ?_
  refine xrg ?_; (refine xcf1 ?_; refine xcf (haw) rfl ?_)
  refine xrg ?_
  refine xctl ?_
  refine xcF ?_
  refine xctl ?_
  refine xrg ?_; (refine xcf1 ?_; refine xcf (hl) rfl ?_)
  refine xrg ?_
  refine xctl ?_
  refine xcF ?_
  refine xctl ?_
  refine xrg ?_; (refine xca1 ?_; refine xca (hown) ?_)
  refine xrg ?_
  refine xctl ?_
  refine xrg ?_; (refine xca1 ?_; refine xca (z1) ?_)
  refine xrg ?_
  refine xctl ?_
  refine xrg ?_; (refine xca1 ?_; refine xca (t1) ?_)
  refine xrg ?_
  refine xctl ?_
  refine xrg ?_; (refine xca1 ?_; refine xca (s1) ?_)
  refine xrg ?_
  refine xctl1 ?_
  refine awp_seq_mid (fun σ => σ = ⟨(putE (putE (putE (putE (putE (putE (putE (putE (putE (putE (putE (putE (putE (putE un0 (some 1) (.int .i64 sc)) (some 2) (.int .i64 dg)) (some 3) (.int .i64 mo)) (some 9) (.ptr 1 0 0)) (some 10) (.bool false)) (some 11) (.ptr 2 0 0)) (some 12) (.ptr 3 0 0)) (some 13) (.int .i64 ei)) (some 14) (.ptr 4 0 0)) (some 15) (.int .i64 ft)) (some 16) (.ptr 5 0 0)) (some 17) (.int .i64 gs)) (some 18) (.ptr 6 0 0)) (some 19) (.int .i64 hu)), [some (0, 28, 3, [.bool bA, .sl n (W a), .sl m (W c)]), some (0, 30, 3, [.bool b0, .sl n0 (W a0), .int .i64 k]), some (0, 38, 3, [.bool (ng x.num), M x.num.natAbs, M x.den]), some (0, 26, 2, [.bool zb, .sl zn zc]), some (0, 30, 3, [.bool bt1, nl Xt, .int .i64 (st : Int)]), some (0, 30, 3, [.bool bs1, nl Xs, .int .i64 (ss : Int)]), some (0, 30, 3, [.bool bu, nl Xu, .int .i64 (su : Int)])]⟩) ?_ ?_
  rotate_left
  · (refine xwalk ?_)
    refine ⟨_, Nat.zero_le _, Ent.env (less_put (less_put (less_put (less_put (less_put (less_put (less_put (less_put (less_put (less_put (less_put (less_put (less_put (less_put (less_un0 _) ?_) ?_) ?_) ?_) ?_) ?_) ?_) ?_) ?_) ?_) ?_) ?_) ?_) ?_), rfl⟩
    iterate 14 (· exact xlq)
  rintro σ rfl
  refine awp_seq_mid (fun σ => σ = ⟨(putE (putE (putE (putE (putE (putE (putE (putE (putE (putE (putE (putE un0 (some 1) (.int .i64 sc)) (some 2) (.int .i64 dg)) (some 3) (.int .i64 mo)) (some 9) (.ptr 1 0 0)) (some 10) (.bool false)) (some 11) (.ptr 2 0 0)) (some 14) (.ptr 4 0 0)) (some 15) (.int .i64 ft)) (some 16) (.ptr 5 0 0)) (some 17) (.int .i64 gs)) (some 18) (.ptr 6 0 0)) (some 19) (.int .i64 hu)), [some (0, 28, 3, [.bool bA, .sl n (W a), .sl m (W c)]), some (0, 30, 3, [.bool b0, .sl n0 (W a0), .int .i64 k]), some (0, 38, 3, [.bool (ng x.num), M x.num.natAbs, M x.den]), some (0, 26, 2, [.bool zb, .sl zn zc]), some (0, 30, 3, [.bool bt1, nl Xt, .int .i64 (st : Int)]), some (0, 30, 3, [.bool bs1, nl Xs, .int .i64 (ss : Int)]), some (0, 30, 3, [.bool bu, nl Xu, .int .i64 (su : Int)])]⟩) ?_ ?_
  rotate_left
  · rcases z2 with ⟨hmk, rfl⟩ | ⟨hmk, rfl, z2, z3⟩
    · rw [hmk] at hmd
      by_cases hm1 : 1 ≤ mo
      · have hm7 : 7 < mo := by
          refine Int.lt_of_not_ge fun h => ?_
          rw [mok_iff.2 ⟨hm1, h⟩] at hmk; cases hmk
        (refine xwalk ?_)
        refine ⟨_, Nat.zero_le _, Ent.env (less_put (less_put (less_put (less_put (less_put (less_put (less_put (less_put (less_put (less_put (less_put (less_put (less_un0 _) ?_) ?_) ?_) ?_) ?_) ?_) ?_) ?_) ?_) ?_) ?_) ?_), rfl⟩
        iterate 12 (· exact xlq)
      · (refine xwalk ?_)
        refine ⟨_, Nat.zero_le _, Ent.env (less_put (less_put (less_put (less_put (less_put (less_put (less_put (less_put (less_put (less_put (less_put (less_put (less_un0 _) ?_) ?_) ?_) ?_) ?_) ?_) ?_) ?_) ?_) ?_) ?_) ?_), rfl⟩
        iterate 12 (· exact xlq)
    · rw [hmk] at hmd
      have hm1 := mok_iff.1 hmk
      (refine xwalk ?_)
      refine ⟨_, Nat.zero_le _, Ent.env (less_put (less_put (less_put (less_put (less_put (less_put (less_put (less_put (less_put (less_put (less_put (less_put (less_un0 _) ?_) ?_) ?_) ?_) ?_) ?_) ?_) ?_) ?_) ?_) ?_) ?_), rfl⟩
      iterate 12 (· exact xlq)
  rintro σ rfl
  refine xctl ?_
  refine xrg ?_; (refine xca1 ?_; refine xca (t2) ?_)
  refine xrg ?_
  refine xctl ?_
  refine xrg ?_; (refine xca1 ?_; refine xca (s2) ?_)
  refine xrg ?_
  refine xctl ?_
  refine xrg ?_; (refine xca1 ?_; refine xca (hgd) ?_)
  refine xrg ?_
  refine xctl ?_
  refine xrg ?_
  refine xctl ?_
  refine xrg ?_
  refine xctl1 ?_
  refine awp_seq_mid (fun σ => σ = ⟨(putE (putE (putE (putE (putE (putE (putE (putE (putE (putE (putE (putE (putE un0 (some 10) (.bool false)) (some 14) (.ptr 4 0 0)) (some 15) (.int .i64 ft)) (some 16) (.ptr 5 0 0)) (some 17) (.int .i64 gs)) (some 18) (.ptr 6 0 0)) (some 19) (.int .i64 hu)) (some 20) (.ptr 7 0 0)) (some 21) (.bool okt)) (some 22) (.ptr 8 0 0)) (some 23) (.int .i64 gs)) (some 25) (.ptr 9 0 0)) (some 26) (.bool fu)), [some (0, 28, 3, [.bool bA, .sl n (W a), .sl m (W c)]), some (0, 30, 3, [.bool b0, .sl n0 (W a0), .int .i64 k]), some (0, 38, 3, [.bool (ng x.num), M x.num.natAbs, M x.den]), some (0, 26, 2, [.bool zb, .sl zn zc]), some (0, 30, 3, [.bool bt1, nl Xt, .int .i64 (st : Int)]), some (0, 30, 3, [.bool bs1, nl Xs, .int .i64 (ss : Int)]), some (0, 30, 3, [.bool bu, nl Xu, .int .i64 (su : Int)]), some (0, 50, 3, [.bool bt1, M Xt, .int .i64 (st : Int)]), some (0, 50, 3, [.bool bs1, M Xs, .int .i64 (ss : Int)]), some (0, 50, 3, [.bool r1, r2, .int .i64 r3])]⟩) ?_ ?_
  rotate_left
  · rcases u2 with ⟨hg, rfl, rfl, rfl, rfl, rfl⟩ | ⟨hg, rfl, rfl, rfl, u2⟩
    · rw [hg]
      (refine xwalk ?_)
      refine ⟨_, Nat.zero_le _, Ent.env (less_put (less_put (less_put (less_put (less_put (less_put (less_put (less_put (less_put (less_put (less_put (less_put (less_put (less_un0 _) ?_) ?_) ?_) ?_) ?_) ?_) ?_) ?_) ?_) ?_) ?_) ?_) ?_), rfl⟩
      iterate 13 (· exact xlq)
    · rw [hg]
      (refine xwalk ?_)
      refine ⟨_, Nat.zero_le _, Ent.env (less_put (less_put (less_put (less_put (less_put (less_put (less_put (less_put (less_put (less_put (less_put (less_put (less_put (less_un0 _) ?_) ?_) ?_) ?_) ?_) ?_) ?_) ?_) ?_) ?_) ?_) ?_) ?_), rfl⟩
      iterate 13 (· exact xlq)
  rintro σ rfl
  rcases t3 with ⟨rfl, rfl, t3⟩ | ⟨rfl, rfl⟩
  all_goals rcases s3 with s3 | ⟨rfl, s3⟩
  all_goals rcases u3 with ⟨rfl, rfl, u3⟩ | ⟨rfl, rfl⟩
  all_goals try (rcases u2 with ⟨_, h, _⟩ | ⟨_, rfl, rfl, rfl, _⟩; (· cases h))
  all_goals (exact xwalkd)
end Go.Proofs.YtapikjmijmebpaaGreatDoorK.LawT5
