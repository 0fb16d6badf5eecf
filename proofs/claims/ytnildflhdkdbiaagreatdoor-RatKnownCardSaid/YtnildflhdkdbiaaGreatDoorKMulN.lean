/-
  nat.Mul: what it computes.
-/
import Derived.Test.YtnildflhdkdbiaaGreatDoorKIrNat
import Derived.Test.YtnildflhdkdbiaaGreatDoorKSubN
set_option linter.all false
set_option linter.unusedVariables false
set_option linter.unusedSimpArgs false
set_option maxHeartbeats 4000000
namespace Go.Proofs.YtnildflhdkdbiaaGreatDoorK.NatT
open Go.Proofs.YtnildflhdkdbiaaGreatDoorK.AI Go.Proofs.YtnildflhdkdbiaaGreatDoorK.NatIr Go.Proofs.YtnildflhdkdbiaaGreatDoorK.Dig
set_option linter.unusedSimpArgs false
attribute [local irreducible] awp awpOps
attribute [local go_sem] getO putE_same putE_ne putE_none un0_at ini_zero ini_one ini_two ini_three ne_eq not_false_eq_true Nat.zero_ne_one Nat.one_ne_zero zero_ne_succ succ_ne_zero sym_nil sym_cons symG_call symG_op symG_skip IOp.isCall gd st_mv st_pick st_new st_box st_build st_lit st_load st_store st_faddr st_fld st_iaddrS st_iaddrA st_idxs st_bin st_beq st_neg st_not st_conv st_slcS st_slcL st_make st_app st_lenS st_lenL st_mx st_mn st_ext st_nilck pureC loadC setH hv boundO D.cells D.one D.boxable fillD putD rowD binC intBinC decT decF dec_true dec_false bne_self_eq_false beq_self_eq_true beq_true_false beq_false_true bne_iff_ne List.length_nil List.length_cons List.getD_cons_zero List.getD_cons_succ List.set_cons_zero List.set_cons_succ List.all_cons List.all_nil Bool.and_true Bool.true_and Nat.lt_irrefl Nat.sub_self Nat.zero_add Nat.add_zero Nat.mul_one Nat.lt_add_one if_true if_false List.replicate_zero List.nil_append List.cons_append List.append_nil List.map_cons List.map_nil Bool.false_eq_true or_self or_true true_or or_false false_or true_and and_true and_self Int.ofNat_zero wrap_i64 wrap_u32 wrap_u64 wrap_u8 wrap_u32_mod wrap_u64_mod Nat.zero_lt_one Int.toNat_natCast Int.sub_zero toNat_pred List.take_succ_cons List.take_zero List.drop_succ_cons List.drop_zero List.take_nil List.drop_nil Nat.le_refl List.length_singleton rvDs rvD ldD one? Option.bind_some Option.map_some resD_int resD_bool resD_str resD_sl resD_rp resD_nils resD_null resD_agg resD_tup resD_own rdOwn resD_ptr rdPtr rd_ite resL_eq go_nil go_cons D.imm resArgs shr32 shl32 Nat.zero_mul Bool.and_self Bool.and_false Bool.false_and strBin_eql strBin_neq Bool.not_true Bool.not_false i64max List.length_reverse List.length_set SS_length SS_getD SS_set SS_take SS_drop SS_imm SS_one SS_app1 W_get1 W_len1 W_getD W_set W_take W_drop W_app W_length W_imm W_one W_repl N mx_nat toNat_succ toNat_add toNat_pred2 tdiv_nn tmod_nn List.take_of_length_le cast_succ and_one or_shl32 min64 shr32b shl32b IntKind.bits
variable {G : World → Prop}
theorem pcr_mul (hG : Stable G) (a b : List Int) (n m : Nat) (hn : n = a.length) (hm : m = b.length) (ha : ok 4294967296 a) (hb : ok 4294967296 b) (hla : a.length < 400000) (hlb : b.length < 400000) :
    PCr Tryz.prog G 24 [.agg [.sl n (W a)], .agg [.sl m (W b)]] (N (vl 4294967296 a * vl 4294967296 b)) := by
  refine pcr_by hG (fn := Tryz.f24) (n := 72) (rv := [.cell 4 true 1]) (by kernel_rfl) ok24 (by kernel_rfl) (by decide) (by kernel_rfl) (by simp) (by kernel_rfl) (fun r hr => ?_); unfold c24 st0
  subst hn hm
  refine xctl ?_
  refine xrg ?_
  refine xctl ?_
  refine xrg ?_
  refine xctl ?_
  refine xrg ?_
  refine xctl ?_
  refine awp_loop (fun k σ => ∃ (i : Nat) (out : List Int), i ≤ a.length ∧ k = a.length - i ∧ out.length = a.length + b.length ∧ ok 4294967296 out ∧ zt out (i + b.length) ∧ vl 4294967296 out = vl 4294967296 (a.take i) * vl 4294967296 b ∧
      σ = ⟨(putE (putE (putE (putE (putE (putE (putE un0 (some 2) (.ptr 0 0 0)) (some 3) (.ptr 1 0 0)) (some 4) (.ptr 2 0 0)) (some 5) (.own 3 0 0 (a.length + b.length))) (some 20) (.sl a.length (W a))) (some 21) (.int .i64 a.length)) (some 22) (.int .i64 i)),
        [some (0, 25, 1, [.sl a.length (W a)]), some (0, 25, 1, [.sl b.length (W b)]), some (0, 25, 1, [.nils]), some (0, 108, 1, W out)]⟩) a.length
    (Ent.env (less_put (less_put (less_put (less_put (less_put (less_put (less_put (less_un0 _) ?_) ?_) ?_) ?_) ?_) ?_) ?_)) ⟨0, List.replicate (a.length + b.length) 0, by omega, rfl, by simp, ok_replicate (by omega) _, zt_replicate _ _, by simp [vl, vl_replicate], rfl⟩ ?_
  iterate 7 (· exact xlq)
  rintro k σ1 ⟨i, out, hi, rfl, hlo, hoo, hz, heq, rfl⟩
  refine xctl ?_
  refine xrg ?_
  refine xctl ?_
  refine xcs (fun hb => ?_) (fun hb => ?_)
  · have hb' := of_decide_eq_true hb
    have ga := ok_get ha (by omega) i
    refine xctl ?_
    refine xrg ?_
    refine xctl ?_
    refine xrg ?_
    refine xctl ?_
    refine xrg ?_
    refine xctl ?_
    generalize hx : a.getD i 0 = x at *
    refine awp_loop (fun k σ => ∃ (j : Nat) (out' : List Int) (c : Int), j ≤ b.length ∧ k = b.length - j ∧ out'.length = a.length + b.length ∧ ok 4294967296 out' ∧ zt out' (i + b.length) ∧ 0 ≤ c ∧ c < 4294967296 ∧
          vl 4294967296 out' + 4294967296 ^ (i + j) * c.toNat = vl 4294967296 out + 4294967296 ^ i * (x.toNat * vl 4294967296 (b.take j)) ∧
        σ = ⟨(putE (putE (putE (putE (putE (putE (putE (putE (putE (putE (putE (putE (putE un0 (some 2) (.ptr 0 0 0)) (some 3) (.ptr 1 0 0)) (some 4) (.ptr 2 0 0)) (some 5) (.own 3 0 0 (a.length + b.length))) (some 20) (.sl a.length (W a))) (some 21) (.int .i64 a.length)) (some 22) (.int .i64 i)) (some 6) (.int .i64 i)) (some 7) (.int .u32 x)) (some 8) (.int .u64 c)) (some 28) (.sl b.length (W b))) (some 29) (.int .i64 b.length)) (some 30) (.int .i64 j)),
          [some (0, 25, 1, [.sl a.length (W a)]), some (0, 25, 1, [.sl b.length (W b)]), some (0, 25, 1, [.nils]), some (0, 108, 1, W out')]⟩) b.length
      (Ent.env (less_put (less_put (less_put (less_put (less_put (less_put (less_put (less_put (less_put (less_put (less_put (less_put (less_put (less_un0 _) ?_) ?_) ?_) ?_) ?_) ?_) ?_) ?_) ?_) ?_) ?_) ?_) ?_)) ⟨0, out, 0, by omega, rfl, hlo, hoo, hz, by omega, by omega, by simp [vl], rfl⟩ ?_
    iterate 13 (· exact xlq)
    rintro k σ1 ⟨j, out', c, hj, rfl, hlo', hoo', hz', hc0, hc1, heq', rfl⟩
    refine xctl ?_
    refine xrg ?_
    refine xctl ?_
    refine xcs (fun hb => ?_) (fun hb => ?_)
    · have hb2 := of_decide_eq_true hb
      have gb := ok_get (by assumption : ok 4294967296 b) (by omega) j
      have go := ok_get hoo' (by omega) (i + j)
      refine xctl ?_
      refine xrg ?_
      refine xctl ?_
      have hxy := mul_bound (x := x) (y := b.getD j 0) (n := 4294967295) (by omega) (by omega)
      have hset := vl_setw 4294967296 out' (i + j) ((c + (x * b.getD j 0 + out'.getD (i + j) 0)) % 4294967296) (by omega)
      have en : (c + (x * b.getD j 0 + out'.getD (i + j) 0)).toNat = c.toNat + (x.toNat * (b.getD j 0).toNat + (out'.getD (i + j) 0).toNat) := by
        rw [Int.toNat_add (by omega) (by omega), Int.toNat_add (by omega) (by omega), Int.toNat_mul (by omega) (by omega)]
      have hst := mul_step (B := 4294967296) (O' := vl 4294967296 (out'.set (i + j) ((c + (x * b.getD j 0 + out'.getD (i + j) 0)) % 4294967296))) (y := (b.getD j 0).toNat) (o := (out'.getD (i + j) 0).toNat) heq' (by rw [hset]; congr 2; omega)
      have hmod : 0 ≤ (c + (x * b.getD j 0 + out'.getD (i + j) 0)) % 4294967296 ∧ (c + (x * b.getD j 0 + out'.getD (i + j) 0)) % 4294967296 < 4294967296 := by omega
      have hdiv : 0 ≤ (c + (x * b.getD j 0 + out'.getD (i + j) 0)) / 4294967296 ∧ (c + (x * b.getD j 0 + out'.getD (i + j) 0)) / 4294967296 < 4294967296 := by omega
      have ediv : ((c + (x * b.getD j 0 + out'.getD (i + j) 0)) / 4294967296).toNat = (c.toNat + (x.toNat * (b.getD j 0).toNat + (out'.getD (i + j) 0).toNat)) / 4294967296 := by omega
      refine xrg ?_
      refine xctl ?_
      refine xrg ?_
      refine xctl ?_
      refine xrg ?_
      refine xctl ?_
      refine xrg ?_
      refine xctl ?_
      refine ⟨b.length - (j + 1), _, by omega, Ent.env (less_put (less_put (less_put (less_put (less_put (less_put (less_put (less_put (less_put (less_put (less_put (less_put (less_put (less_un0 _) ?_) ?_) ?_) ?_) ?_) ?_) ?_) ?_) ?_) ?_) ?_) ?_) ?_), j + 1, out'.set (i + j) ((c + (x * b.getD j 0 + out'.getD (i + j) 0)) % 4294967296), (c + (x * b.getD j 0 + out'.getD (i + j) 0)) / 4294967296, by omega, rfl, by simp [hlo'], ok_set hoo' _ hmod, zt_set hz' (by omega) _, hdiv.1, hdiv.2, ?_, rfl⟩
      iterate 13 (· exact xlq)
      rw [ediv, vl_take_next _ b]
      exact hst
    · have hb2 := of_decide_eq_false hb
      have hjN : j = b.length := by omega
      subst hjN
      have hset := vl_setw 4294967296 out' (i + b.length) c (by omega)
      rw [hz' (i + b.length) (Nat.le_refl _)] at hset
      rw [List.take_length] at heq'
      refine xctl ?_
      refine xrg ?_
      refine xctl ?_
      refine xrg ?_
      refine xctl ?_
      refine ⟨a.length - (i + 1), _, by omega, Ent.env (less_put (less_put (less_put (less_put (less_put (less_put (less_put (less_un0 _) ?_) ?_) ?_) ?_) ?_) ?_) ?_), i + 1, out'.set (i + b.length) c, by omega, rfl, by simp [hlo'], ok_set hoo' _ ⟨hc0, by omega⟩, ?_, ?_, rfl⟩
      iterate 7 (· exact xlq)
      · rw [show i + 1 + b.length = i + b.length + 1 by omega]; exact zt_next hz' c
      · rw [vl_take_next, hx, Nat.add_mul, ← heq]
        simp at hset
        rw [hset, heq', Nat.mul_assoc]
  · have hb' := of_decide_eq_false hb
    have hiN : i = a.length := by omega
    subst hiN
    rw [List.take_length] at heq
    refine xctl ?_
    refine xrg ?_
    refine xca1 ?_; refine xca (pcr_trim hG out (a.length + b.length) hlo.symm hoo (by omega)) ?_
    refine xrg ?_
    refine xctl ?_
    refine xrt ?_
    rw [hr, heq]; rfl
end Go.Proofs.YtnildflhdkdbiaaGreatDoorK.NatT
