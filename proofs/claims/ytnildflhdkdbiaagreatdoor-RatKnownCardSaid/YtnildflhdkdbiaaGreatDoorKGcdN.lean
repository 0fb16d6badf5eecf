/-
  nat.Gcd, Pow, Low: what they compute.
-/
import Derived.Test.YtnildflhdkdbiaaGreatDoorKIrNat
import Derived.Test.YtnildflhdkdbiaaGreatDoorKDivN
set_option linter.all false
set_option linter.unusedVariables false
set_option linter.unusedSimpArgs false
set_option maxHeartbeats 4000000
namespace Go.Proofs.YtnildflhdkdbiaaGreatDoorK.NatT
open Go.Proofs.YtnildflhdkdbiaaGreatDoorK.AI Go.Proofs.YtnildflhdkdbiaaGreatDoorK.NatIr Go.Proofs.YtnildflhdkdbiaaGreatDoorK.Dig Go.Proofs.YtnildflhdkdbiaaGreatDoorK.LibT
set_option linter.unusedSimpArgs false
attribute [local irreducible] awp awpOps
attribute [local go_sem] getO putE_same putE_ne putE_none un0_at ini_zero ini_one ini_two ini_three ne_eq not_false_eq_true Nat.zero_ne_one Nat.one_ne_zero zero_ne_succ succ_ne_zero sym_nil sym_cons symG_call symG_op symG_skip IOp.isCall gd st_mv st_pick st_new st_box st_build st_lit st_load st_store st_faddr st_fld st_iaddrS st_iaddrA st_idxs st_bin st_beq st_neg st_not st_conv st_slcS st_slcL st_make st_app st_lenS st_lenL st_mx st_mn st_ext st_nilck pureC loadC setH hv boundO D.cells D.one D.boxable fillD putD rowD binC intBinC decT decF dec_true dec_false bne_self_eq_false beq_self_eq_true beq_true_false beq_false_true bne_iff_ne List.length_nil List.length_cons List.getD_cons_zero List.getD_cons_succ List.set_cons_zero List.set_cons_succ List.all_cons List.all_nil Bool.and_true Bool.true_and Nat.lt_irrefl Nat.sub_self Nat.zero_add Nat.add_zero Nat.mul_one Nat.lt_add_one if_true if_false List.replicate_zero List.nil_append List.cons_append List.append_nil List.map_cons List.map_nil Bool.false_eq_true or_self or_true true_or or_false false_or true_and and_true and_self Int.ofNat_zero wrap_i64 wrap_u32 wrap_u64 wrap_u8 wrap_u32_mod wrap_u64_mod Nat.zero_lt_one Int.toNat_natCast Int.sub_zero toNat_pred List.take_succ_cons List.take_zero List.drop_succ_cons List.drop_zero List.take_nil List.drop_nil Nat.le_refl List.length_singleton rvDs rvD ldD one? Option.bind_some Option.map_some resD_int resD_bool resD_str resD_sl resD_rp resD_nils resD_null resD_agg resD_tup resD_own rdOwn resD_ptr rdPtr rd_ite resL_eq go_nil go_cons D.imm resArgs shr32 shl32 Nat.zero_mul Bool.and_self Bool.and_false Bool.false_and strBin_eql strBin_neq Bool.not_true Bool.not_false i64max List.length_reverse List.length_set SS_length SS_getD SS_set SS_take SS_drop SS_imm SS_one SS_app1 W_get1 W_len1 W_getD W_set W_take W_drop W_app W_length W_imm W_one W_repl N mx_nat toNat_succ toNat_add toNat_pred2 tdiv_nn tmod_nn List.take_of_length_le cast_succ and_one or_shl32 min64 shr32b shl32b IntKind.bits
variable {G : World → Prop}
theorem wd_len_mono {B a b : Nat} (hB : 2 ≤ B) (h : a ≤ b) : (wd B a).length ≤ (wd B b).length := by
  have h1 := vl_lt (ok_wd hB b)
  rw [vl_wd hB] at h1
  exact wd_length_le hB (Nat.lt_of_le_of_lt h h1)
set_option maxHeartbeats 2000000 in
theorem pcr_gcd (hG : Stable G) (a b : List Int) (n m : Nat) (hn : n = a.length) (hm : m = b.length) (ha : ok 4294967296 a) (hb : ok 4294967296 b) (hla : a.length < 400000) (hlb : b.length < 400000) :
    PCr Tryz.prog G 28 [.agg [.sl n (W a)], .agg [.sl m (W b)]] (N (Nat.gcd (vl 4294967296 a) (vl 4294967296 b))) := by
  refine pcr_by hG (fn := Tryz.f28) (n := 31) (rv := [.cell 4 true 1]) (by kernel_rfl) ok28 (by kernel_rfl) (by decide) (by kernel_rfl) (by simp) (by kernel_rfl) (fun r hr => ?_); unfold c28 st0
  refine xctl ?_
  refine xrg ?_
  refine xctl ?_
  refine xrg ?_
  refine xca1 ?_; refine xca (pcr_trim hG a n hn ha (by omega)) ?_
  refine xrg ?_
  refine xca1 ?_; refine xca (pcr_trim hG b m hm hb (by omega)) ?_
  refine xrg ?_
  refine xctl ?_
  refine xdr ?_
  refine xctl ?_
  refine awp_loop (fun k σ => ∃ A B : Nat, k = B ∧ (wd 4294967296 A).length < 400000 ∧ (wd 4294967296 B).length < 400000 ∧ Nat.gcd A B = Nat.gcd (vl 4294967296 a) (vl 4294967296 b) ∧
      σ = ⟨(putE (putE (putE un0 (some 2) (.ptr 0 0 0)) (some 3) (.ptr 1 0 0)) (some 4) (.ptr 2 0 0)), [some (0, 25, 1, [.sl (wd 4294967296 A).length (W (wd 4294967296 A))]), some (0, 25, 1, [.sl (wd 4294967296 B).length (W (wd 4294967296 B))]), some (0, 25, 1, [.nils])]⟩) (vl 4294967296 b)
    (Ent.env (less_put (less_put (less_put (less_un0 _) ?_) ?_) ?_)) ⟨vl 4294967296 a, vl 4294967296 b, rfl, Nat.lt_of_le_of_lt (wd_len_small ha) hla, Nat.lt_of_le_of_lt (wd_len_small hb) hlb, rfl, rfl⟩ ?_
  iterate 3 (· exact xlq)
  rintro B σ1 ⟨A, _, rfl, hlA, hlB, hg, rfl⟩
  have hoA := ok_wd (B := 4294967296) (by omega) A
  have hoB := ok_wd (B := 4294967296) (by omega) B
  refine xctl ?_
  refine xrg ?_
  refine xctl ?_
  refine xcs (fun hb => ?_) (fun hb => ?_)
  · have hb' := of_decide_eq_true hb
    have hB0 : B ≠ 0 := fun h => by subst h; rw [wd_zero] at hb'; simp at hb'
    have hdiv := pcr_div hG (wd 4294967296 A) (wd 4294967296 B) _ _ rfl rfl hoA hoB hlA hlB
    rw [vl_wd (by omega), vl_wd (by omega), if_neg hB0, if_neg hB0, decide_eq_true hB0] at hdiv
    have hlt := Nat.mod_lt A (Nat.pos_of_ne_zero hB0)
    have hlm := wd_len_mono (B := 4294967296) (by omega) (Nat.le_of_lt hlt)
    refine xctl ?_
    refine xrg ?_
    refine xca1 ?_; refine xca hdiv ?_
    refine xrg ?_
    refine xctl ?_
    refine xrg ?_
    refine xctl ?_
    refine xdr ?_
    refine xctl ?_
    refine ⟨A % B, _, hlt, (Ent.cutk 3 (less_put (less_put (less_put (less_un0 _) ?_) ?_) ?_) (by exact ⟨.inr rfl, .inr rfl, .inr rfl, trivial⟩) (kb_put (kb_put (kb_put (kb_un0 _) (by simp [kb])) (by simp [kb])) (by simp [kb])) (by simp [kbH, kb.kbs, kb, kbs_W, kbs_SS])), B, A % B, rfl, hlB, by omega, ?_, rfl⟩
    iterate 3 (· exact xlq)
    rw [← hg, Nat.gcd_comm A B, Nat.gcd_rec B A, Nat.gcd_comm]
  · have hb' := of_decide_eq_false hb
    have hB0 : B = 0 := by
      rw [← vl_wd (B := 4294967296) (by omega) B, List.eq_nil_of_length_eq_zero (by omega : (wd 4294967296 B).length = 0)]; rfl
    subst hB0
    rw [Nat.gcd_zero_right] at hg
    refine xctl ?_
    refine xrg ?_
    refine xca1 ?_; refine xca (pcr_clone _ _ rfl (by omega)) ?_
    refine xrg ?_
    refine xctl ?_
    refine xrt ?_
    rw [hr, ← hg]; rfl
theorem pow_len {B v n e : Nat} (hB : 2 ≤ B) (h : v < B ^ n) (he : 0 < e ∨ 0 < n) : (wd B (v ^ e)).length ≤ n * e + 1 := by
  refine wd_length_le hB ?_
  have h1 : v ^ e ≤ (B ^ n) ^ e := Nat.pow_le_pow_left (Nat.le_of_lt h) e
  rw [← Nat.pow_mul] at h1
  have h2 : B ^ (n * e) < B ^ (n * e + 1) := Nat.pow_lt_pow_right (by omega) (by omega)
  omega
set_option maxHeartbeats 2000000 in
theorem pcr_pow (hG : Stable G) (a : List Int) (n : Nat) (k : Int) (hn : n = a.length) (ha : ok 4294967296 a) (hk : k < 1000) (hlen : a.length < 200) :
    PCr Tryz.prog G 115 [.agg [.sl n (W a)], .int .i64 k] (N (vl 4294967296 a ^ k.toNat)) := by
  refine pcr_by hG (fn := Tryz.f115) (n := 23) (rv := [.cell 4 true 1]) (by kernel_rfl) ok115 (by kernel_rfl) (by decide) (by kernel_rfl) (by simp) (by kernel_rfl) (fun r hr => ?_); unfold c115 st0
  refine xctl ?_
  refine xrg ?_
  refine xctl ?_
  refine xrg ?_
  refine xca1 ?_; refine xca (pcr_of hG 1 (by omega)) ?_
  refine xrg ?_
  refine xctl ?_
  have hva := vl_lt ha
  generalize hv : vl 4294967296 a = v at *
  have hplen : ∀ e, e ≤ 1000 → (wd 4294967296 (v ^ e)).length ≤ 200001 := fun e he => by
    have := pow_len (B := 4294967296) (n := 200) (e := e) (by omega) (Nat.lt_of_lt_of_le hva (Nat.pow_le_pow_right (by omega) (by omega))) (.inr (by omega))
    omega
  refine awp_loop (fun μ σ => ∃ (kk : Int) (e f : Nat) (A : List Int) (nA : Nat), nA = A.length ∧ μ = kk.toNat ∧ kk < 1000 ∧ f + e * kk.toNat = k.toNat ∧ ok 4294967296 A ∧ vl 4294967296 A = v ^ e ∧ A.length ≤ 200001 ∧
      σ = ⟨(putE (putE (putE (putE un0 (some 1) (.int .i64 kk)) (some 2) (.ptr 0 0 0)) (some 4) (.ptr 1 0 0)) (some 5) (.ptr 2 0 0)), [some (0, 25, 1, [.sl nA (W A)]), some (0, 25, 1, [.nils]), some (0, 25, 1, [.sl (wd 4294967296 (v ^ f)).length (W (wd 4294967296 (v ^ f)))])]⟩) k.toNat
    (Ent.env (less_put (less_put (less_put (less_put (less_un0 _) ?_) ?_) ?_) ?_)) ⟨k, 1, 0, a, n, hn, rfl, hk, by omega, ha, by rw [hv, Nat.pow_one], by omega, rfl⟩ ?_
  iterate 4 (· exact xlq)
  rintro μ σ1 ⟨kk, e, f, A, nA, rfl, rfl, hkk, hef, hoA, hvA, hlA, rfl⟩
  refine xctl ?_
  refine xrg ?_
  refine xctl ?_
  refine xcs (fun hb => ?_) (fun hb => ?_)
  · have hb' := of_decide_eq_true hb
    obtain ⟨j, rfl⟩ : ∃ j : Nat, kk = j := ⟨kk.toNat, by omega⟩
    rw [Int.toNat_natCast] at hef
    have hef2 : f + e ≤ k.toNat := by
      have : e * 1 ≤ e * j := Nat.mul_le_mul_left _ (by omega)
      omega
    refine xctl1 ?_
    refine awp_seq_i ?_
    refine xctl1 ?_
    refine awp_seq_mid (fun σ => ∃ f', f' + e * (2 * (j / 2)) = k.toNat ∧
      σ = ⟨(putE (putE (putE (putE un0 (some 1) (.int .i64 j)) (some 2) (.ptr 0 0 0)) (some 4) (.ptr 1 0 0)) (some 5) (.ptr 2 0 0)), [some (0, 25, 1, [.sl A.length (W A)]), some (0, 25, 1, [.nils]), some (0, 25, 1, [.sl (wd 4294967296 (v ^ f')).length (W (wd 4294967296 (v ^ f')))])]⟩) ?_ ?_
    · rintro σ ⟨f', hf', rfl⟩
      refine xctl ?_
      refine xrg ?_
      refine xctl ?_
      refine xcs (fun hb => ?_) (fun hb => ?_)
      · have hb2 := of_decide_eq_true hb
        have he2 : e + e ≤ k.toNat := by
          have : e * 2 ≤ e * (2 * (j / 2)) := Nat.mul_le_mul_left _ (by omega)
          omega
        have hmul := pcr_mul hG A A _ _ rfl rfl hoA hoA (by omega) (by omega)
        rw [hvA, ← Nat.pow_add] at hmul
        refine xctl ?_
        refine xrg ?_
        refine xca1 ?_; refine xca hmul ?_
        refine xrg ?_
        refine xctl ?_
        refine xrg ?_
        refine xctl ?_
        refine ⟨j / 2, _, by omega, Ent.env (less_put (less_put (less_put (less_put (less_un0 _) ?_) ?_) ?_) ?_), (j : Int) / 2, e + e, f', wd 4294967296 (v ^ (e + e)), _, rfl, by omega, by omega, ?_, ok_wd (by omega) _, vl_wd (by omega) _, hplen _ (by omega), rfl⟩
        iterate 4 (· exact xlq)
        rw [← hf', show ((j : Int) / 2).toNat = j / 2 by omega, ← Nat.mul_assoc, Nat.mul_two]
      · have hb2 := of_decide_eq_false hb
        have hj1 : j = 1 := by omega
        subst hj1
        refine xctl ?_
        refine xrg ?_
        refine xctl ?_
        refine ⟨0, _, by omega, Ent.env (less_put (less_put (less_put (less_put (less_un0 _) ?_) ?_) ?_) ?_), 0, e, f', A, _, rfl, by omega, by omega, by simpa using hf', hoA, hvA, hlA, rfl⟩
        · simp only [go_sem, Nat.reduceEqDiff, Nat.reduceAdd, Nat.reduceLT, Nat.reduceMul, Nat.reduceLeDiff, reduceCtorEq, Int.reduceNeg, Int.reduceToNat]
          rfl
        iterate 3 (· exact xlq)
    · refine xctl ?_
      refine xrg ?_
      refine xctl ?_
      refine xcs (fun hb => ?_) (fun hb => ?_)
      · have hb2 := of_decide_eq_true hb
        have hmul := pcr_mul hG (wd 4294967296 (v ^ f)) A _ _ rfl rfl (ok_wd (by omega) _) hoA (by have := hplen f (by omega); omega) (by omega)
        rw [hvA, vl_wd (by omega), ← Nat.pow_add] at hmul
        refine xctl ?_
        refine xrg ?_
        refine xca1 ?_; refine xca hmul ?_
        refine xrg ?_
        refine xctl ?_
        refine ⟨_, Nat.zero_le _, Ent.env (less_put (less_put (less_put (less_put (less_un0 _) ?_) ?_) ?_) ?_), f + e, ?_, rfl⟩
        iterate 4 (· exact xlq)
        rw [← hef, show j = 2 * (j / 2) + 1 by omega, Nat.mul_add, show (2 * (j / 2) + 1) / 2 = j / 2 by omega]
        omega
      · have hb2 := of_decide_eq_false hb
        refine xctl ?_
        refine ⟨_, Nat.zero_le _, Ent.env (less_put (less_put (less_put (less_put (less_un0 _) ?_) ?_) ?_) ?_), f, ?_, rfl⟩
        iterate 4 (· exact xlq)
        rw [← hef, show 2 * (j / 2) = j by omega]
  · have hb' := of_decide_eq_false hb
    have hf : f = k.toNat := by
      rw [show kk.toNat = 0 by omega] at hef
      omega
    subst hf
    refine xctl ?_
    refine xrg ?_
    refine xctl ?_
    refine xrt ?_
    rw [hr]; rfl
end Go.Proofs.YtnildflhdkdbiaaGreatDoorK.NatT
