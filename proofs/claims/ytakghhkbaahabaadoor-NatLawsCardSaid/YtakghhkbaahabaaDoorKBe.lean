/-
  Joined: Closed, Awake, RowK.
-/
import Derived.Test.YtakghhkbaahabaaDoorKAc
import Derived.Test.YtakghhkbaahabaaDoorKAd
import Derived.Test.YtakghhkbaahabaaDoorKBd
import Derived.Test.YtakghhkbaahabaaDoorKAb
import Derived.Test.YtakghhkbaahabaaDoorCards
import Derived.Test.YtakghhkbaahabaaDoorTie
import Derived.WalkKit
import Derived.WalkSmall
import Derived.ProofKit
import Derived.OpenShut
import Derived.Deep.DeepHandedRow
import Derived.Lib.LaidTab
import Derived.Lib.ItoaNum
import Derived.Stop.LaidErr
import Derived.LaidMore
import Derived.Lay
import Derived.Carry
set_option linter.all false
set_option linter.unusedVariables false
set_option linter.unusedSimpArgs false
set_option maxHeartbeats 4000000
/-
  Closed calls, run.
-/
namespace Go.Proofs.YtakghhkbaahabaaDoorK.LawT
open Go.Proofs.YtakghhkbaahabaaDoorK.AI Go.Proofs.YtakghhkbaahabaaDoorK.NatIr Go.Proofs.YtakghhkbaahabaaDoorK.Dig
variable {G : World → Prop}
def tbl : FuncId → FnE := fun | 14 => .ir c14 21 [.tmp 4] | 26 => .ir c26 18 [.tmp 2] | 16 => .ir c16 25 [.tmp 2] | 33 => .ir c33 41 [.tmp 4] | 28 => .ir c28 15 [.tmp 2] | 41 => .ir c41 61 [.tmp 4] | 40 => .ir c40 43 [.tmp 4] | 32 => .ir c32 21 [.tmp 2] | 65 => .ir c65 13 [.tmp 4] | _ => .no
theorem tbl_ok (f : FuncId) : (tbl f).ok Tryd.prog G f := by
  unfold tbl
  split
  · exact ⟨Tryd.f14, by kernel_rfl, ok14, by kernel_rfl, by decide, by kernel_rfl, by kernel_rfl⟩
  · exact ⟨Tryd.f26, by kernel_rfl, ok26, by kernel_rfl, by decide, by kernel_rfl, by kernel_rfl⟩
  · exact ⟨Tryd.f16, by kernel_rfl, ok16, by kernel_rfl, by decide, by kernel_rfl, by kernel_rfl⟩
  · exact ⟨Tryd.f33, by kernel_rfl, ok33, by kernel_rfl, by decide, by kernel_rfl, by kernel_rfl⟩
  · exact ⟨Tryd.f28, by kernel_rfl, ok28, by kernel_rfl, by decide, by kernel_rfl, by kernel_rfl⟩
  · exact ⟨Tryd.f41, by kernel_rfl, ok41, by kernel_rfl, by decide, by kernel_rfl, by kernel_rfl⟩
  · exact ⟨Tryd.f40, by kernel_rfl, ok40, by kernel_rfl, by decide, by kernel_rfl, by kernel_rfl⟩
  · exact ⟨Tryd.f32, by kernel_rfl, ok32, by kernel_rfl, by decide, by kernel_rfl, by kernel_rfl⟩
  · exact ⟨Tryd.f65, by kernel_rfl, ok65, by kernel_rfl, by decide, by kernel_rfl, by kernel_rfl⟩
  · exact trivial
def runs (f : FuncId) (xs : List D) : Option D := evF tbl 1000 20 f xs
theorem runs_ok (hG : Stable G) {f : FuncId} {xs : List D} {r : D} (h : runs f xs = some r) : PCr Tryd.prog G f xs r := evF_ok hG tbl_ok 20 f xs r h
theorem small_run (hG : Stable G) : PCr Tryd.prog G 28 [.int .u64 4294967296] (.sl 3 [.int .i64 7296, .int .i64 9496, .int .i64 42]) := runs_ok hG (by kernel_rfl)
theorem is_run (hG : Stable G) : PCr Tryd.prog G 14 [.agg [.sl 2 [.int .u32 0, .int .u32 1]], .sl 3 [.int .i64 7296, .int .i64 9496, .int .i64 42]] (.bool true) := runs_ok hG (by kernel_rfl)
end Go.Proofs.YtakghhkbaahabaaDoorK.LawT
/-
  The law's helper awake: it answers true.
-/
namespace Go.Proofs.YtakghhkbaahabaaDoorK.LawT
open Go.Proofs.YtakghhkbaahabaaDoorK.AI Go.Proofs.YtakghhkbaahabaaDoorK.NatIr Go.Proofs.YtakghhkbaahabaaDoorK.Dig Go.Proofs.YtakghhkbaahabaaDoorK.LibT Go.Proofs.YtakghhkbaahabaaDoorK.NatT
set_option linter.unusedSimpArgs false
attribute [local irreducible] awp awpOps
attribute [local go_sem] getO putE_same putE_ne putE_none un0_at ini_zero ini_one ini_two ini_three ne_eq not_false_eq_true Nat.zero_ne_one Nat.one_ne_zero zero_ne_succ succ_ne_zero sym_nil sym_cons symG_call symG_op symG_skip IOp.isCall gd st_mv st_pick st_new st_box st_build st_lit st_load st_store st_faddr st_fld st_iaddrS st_iaddrA st_idxs st_bin st_beq st_neg st_not st_conv st_slcS st_slcL st_make st_app st_lenS st_lenL st_mx st_mn st_ext st_nilck pureC loadC setH hv boundO D.cells D.one D.boxable fillD putD rowD binC intBinC decT decF dec_true dec_false bne_self_eq_false beq_self_eq_true beq_true_false beq_false_true bne_iff_ne List.length_nil List.length_cons List.getD_cons_zero List.getD_cons_succ List.set_cons_zero List.set_cons_succ List.all_cons List.all_nil Bool.and_true Bool.true_and Nat.lt_irrefl Nat.sub_self Nat.zero_add Nat.add_zero Nat.mul_one Nat.lt_add_one if_true if_false List.replicate_zero List.nil_append List.cons_append List.append_nil List.map_cons List.map_nil Bool.false_eq_true or_self or_true true_or or_false false_or true_and and_true and_self Int.ofNat_zero wrap_i64 wrap_u32 wrap_u64 wrap_u8 wrap_u32_mod wrap_u64_mod Nat.zero_lt_one Int.toNat_natCast Int.sub_zero toNat_pred List.take_succ_cons List.take_zero List.drop_succ_cons List.drop_zero List.take_nil List.drop_nil Nat.le_refl List.length_singleton rvDs rvD ldD one? Option.bind_some Option.map_some resD_int resD_bool resD_str resD_sl resD_rp resD_nils resD_null resD_agg resD_tup resD_own rdOwn resD_ptr rdPtr rd_ite resL_eq go_nil go_cons D.imm resArgs shr32 shl32 Nat.zero_mul Bool.and_self Bool.and_false Bool.false_and strBin_eql strBin_neq Bool.not_true Bool.not_false i64max List.length_reverse List.length_set SS_length SS_getD SS_set SS_take SS_drop SS_imm SS_one SS_app1 W_get1 W_len1 W_getD W_set W_take W_drop W_app W_length W_imm W_one W_repl N mx_nat toNat_succ toNat_add toNat_pred2 tdiv_nn tmod_nn List.take_of_length_le cast_succ and_one or_shl32 min64 shr32b shl32b IntKind.bits
variable {G : World → Prop}
theorem wd32 : wd 4294967296 4294967296 = [0, 1] := by
  rw [wd_pos (by omega) (by omega), show 4294967296 / 4294967296 = 1 from rfl, wd_pos (by omega) (by omega), show 1 / 4294967296 = 0 from rfl, wd_zero]; rfl
theorem wd65536 : wd 4294967296 65536 = [65536] := by
  rw [wd_pos (by omega) (by omega), show 65536 / 4294967296 = 0 from rfl, wd_zero]; rfl
theorem N32 : N 4294967296 = .agg [.sl 2 [.int .u32 0, .int .u32 1]] := by rw [N, wd32]; rfl
theorem N65536 : N 65536 = .agg [.sl 1 (W [65536])] := by rw [N, wd65536]; rfl
theorem dec32 : Lib.decDigits 4294967296 = [52, 50, 57, 52, 57, 54, 55, 50, 57, 54] := by simp [Lib.decDigits]
set_option maxHeartbeats 4000000 in
theorem pcr_awake (hG : Stable G) (hT : ∀ w, G w → Lib.TabIs Tryd.prog w "internal/strconv.uint64pow10" .u64 Lib.pow10Tab) :
    PCr Tryd.prog G 11 [] (.bool true) := by
  have hpar := pcr_parse hG ⟨#[52, 50, 57, 52, 57, 54, 55, 50, 57, 54]⟩ (by decide) (by decide) (by decide)
  rw [show decV (⟨#[52, 50, 57, 52, 57, 54, 55, 50, 57, 54]⟩ : ByteArray).data.toList = 4294967296 from rfl, N32] at hpar
  have htx := pcr_text hG hT [0, 1] 2 rfl (fun x hx => by simp at hx; omega) (by decide)
  rw [show vl 4294967296 [0, 1] = 4294967296 from rfl, dec32] at htx
  have hgd := pcr_good hG [0, 1] 2 rfl (by decide)
  have ho1 := pcr_of hG 65536 (by omega)
  rw [N65536, show ((65536 : Nat) : Int) = 65536 from rfl] at ho1
  have hmul := pcr_mul hG [65536] [65536] 1 1 rfl rfl (fun x hx => by simp at hx; omega) (fun x hx => by simp at hx; omega) (by decide) (by decide)
  rw [show vl 4294967296 [65536] * vl 4294967296 [65536] = 4294967296 from rfl, N32] at hmul
  refine pcr_by hG (fn := Tryd.f11) (n := 44) (rv := [.tmp 0]) (by kernel_rfl) ok11 (by kernel_rfl) (by decide) (by kernel_rfl) (by simp) (by kernel_rfl) (fun r hr => ?_)
  unfold c11 st0
  repeat with_reducible first | refine awp_seq_i ?_ | refine awp_reg_i ?_ | refine ops_nil_i ?_ | refine then_normal_i ?_ | refine awp_draw_i ?_ | refine awp_block_i ?_ | refine in_normal_i ?_ | refine awp_exit_i ?_ | refine then_exit_i ?_ | refine in_exit_i ?_ | refine in_exit_ne (by decide) ?_ | refine awp_ret_i ?_ | refine then_ret_i ?_ | refine in_ret_i ?_ | refine awp_skip_i ?_
  refine ops_sym (by simp (disch := omega) only [go_sem, Nat.reduceEqDiff, Nat.reduceAdd, Nat.reduceLT, Nat.reduceMul, Nat.reduceLeDiff, reduceCtorEq, Int.reduceNeg, Int.reduceToNat]; rfl) (by first | with_reducible exact True.intro | omega) ?_
  repeat with_reducible first | refine awp_seq_i ?_ | refine awp_reg_i ?_ | refine ops_nil_i ?_ | refine then_normal_i ?_ | refine awp_draw_i ?_ | refine awp_block_i ?_ | refine in_normal_i ?_ | refine awp_exit_i ?_ | refine then_exit_i ?_ | refine in_exit_i ?_ | refine in_exit_ne (by decide) ?_ | refine awp_ret_i ?_ | refine then_ret_i ?_ | refine in_ret_i ?_ | refine awp_skip_i ?_
  refine ops_sym (by simp (disch := omega) only [go_sem, Nat.reduceEqDiff, Nat.reduceAdd, Nat.reduceLT, Nat.reduceMul, Nat.reduceLeDiff, reduceCtorEq, Int.reduceNeg, Int.reduceToNat]; rfl) (by first | with_reducible exact True.intro | omega) ?_
  refine ops_call (by simp (disch := omega) only [go_sem, Nat.reduceEqDiff, Nat.reduceAdd, Nat.reduceLT, Nat.reduceMul, Nat.reduceLeDiff, reduceCtorEq, Int.reduceNeg, Int.reduceToNat]; rfl) hpar ?_
  refine ops_sym (by simp (disch := omega) only [go_sem, Nat.reduceEqDiff, Nat.reduceAdd, Nat.reduceLT, Nat.reduceMul, Nat.reduceLeDiff, reduceCtorEq, Int.reduceNeg, Int.reduceToNat]; rfl) (by first | with_reducible exact True.intro | omega) ?_
  repeat with_reducible first | refine awp_seq_i ?_ | refine awp_reg_i ?_ | refine ops_nil_i ?_ | refine then_normal_i ?_ | refine awp_draw_i ?_ | refine awp_block_i ?_ | refine in_normal_i ?_ | refine awp_exit_i ?_ | refine then_exit_i ?_ | refine in_exit_i ?_ | refine in_exit_ne (by decide) ?_ | refine awp_ret_i ?_ | refine then_ret_i ?_ | refine in_ret_i ?_ | refine awp_skip_i ?_
  refine ops_sym (by simp (disch := omega) only [go_sem, Nat.reduceEqDiff, Nat.reduceAdd, Nat.reduceLT, Nat.reduceMul, Nat.reduceLeDiff, reduceCtorEq, Int.reduceNeg, Int.reduceToNat]; rfl) (by first | with_reducible exact True.intro | omega) ?_
  refine ops_callgf (by simp only [go_sem, Nat.reduceEqDiff, Nat.reduceAdd, Nat.reduceLT, Nat.reduceMul, Nat.reduceLeDiff, reduceCtorEq, Int.reduceNeg, Int.reduceToNat] <;> rfl) rfl (by simp (disch := omega) only [go_sem, Nat.reduceEqDiff, Nat.reduceAdd, Nat.reduceLT, Nat.reduceMul, Nat.reduceLeDiff, reduceCtorEq, Int.reduceNeg, Int.reduceToNat]; rfl) htx rfl ?_
  refine ops_sym (by simp (disch := omega) only [go_sem, Nat.reduceEqDiff, Nat.reduceAdd, Nat.reduceLT, Nat.reduceMul, Nat.reduceLeDiff, reduceCtorEq, Int.reduceNeg, Int.reduceToNat, eq_self]; rfl) (by first | with_reducible exact True.intro | omega) ?_
  refine ops_callgf (by simp only [go_sem, Nat.reduceEqDiff, Nat.reduceAdd, Nat.reduceLT, Nat.reduceMul, Nat.reduceLeDiff, reduceCtorEq, Int.reduceNeg, Int.reduceToNat] <;> rfl) rfl (by simp (disch := omega) only [go_sem, Nat.reduceEqDiff, Nat.reduceAdd, Nat.reduceLT, Nat.reduceMul, Nat.reduceLeDiff, reduceCtorEq, Int.reduceNeg, Int.reduceToNat]; rfl) hgd rfl ?_
  rw [show (decide (([0, 1] : List Int) = []) || decide (([0, 1] : List Int).getD (([0, 1] : List Int).length - 1) 0 ≠ 0)) = true from rfl]
  refine ops_sym (by simp (disch := omega) only [go_sem, Nat.reduceEqDiff, Nat.reduceAdd, Nat.reduceLT, Nat.reduceMul, Nat.reduceLeDiff, reduceCtorEq, Int.reduceNeg, Int.reduceToNat]; rfl) (by first | with_reducible exact True.intro | omega) ?_
  refine ops_callg (by simp only [go_sem, Nat.reduceEqDiff, Nat.reduceAdd, Nat.reduceLT, Nat.reduceMul, Nat.reduceLeDiff, reduceCtorEq, Int.reduceNeg, Int.reduceToNat] <;> rfl) rfl (by simp (disch := omega) only [go_sem, Nat.reduceEqDiff, Nat.reduceAdd, Nat.reduceLT, Nat.reduceMul, Nat.reduceLeDiff, reduceCtorEq, Int.reduceNeg, Int.reduceToNat]; rfl) ho1 ?_
  refine ops_sym (by simp (disch := omega) only [go_sem, Nat.reduceEqDiff, Nat.reduceAdd, Nat.reduceLT, Nat.reduceMul, Nat.reduceLeDiff, reduceCtorEq, Int.reduceNeg, Int.reduceToNat]; rfl) (by first | with_reducible exact True.intro | omega) ?_
  refine ops_callg (by simp only [go_sem, Nat.reduceEqDiff, Nat.reduceAdd, Nat.reduceLT, Nat.reduceMul, Nat.reduceLeDiff, reduceCtorEq, Int.reduceNeg, Int.reduceToNat] <;> rfl) rfl (by simp (disch := omega) only [go_sem, Nat.reduceEqDiff, Nat.reduceAdd, Nat.reduceLT, Nat.reduceMul, Nat.reduceLeDiff, reduceCtorEq, Int.reduceNeg, Int.reduceToNat]; rfl) ho1 ?_
  refine ops_sym (by simp (disch := omega) only [go_sem, Nat.reduceEqDiff, Nat.reduceAdd, Nat.reduceLT, Nat.reduceMul, Nat.reduceLeDiff, reduceCtorEq, Int.reduceNeg, Int.reduceToNat]; rfl) (by first | with_reducible exact True.intro | omega) ?_
  refine ops_callg (by simp only [go_sem, Nat.reduceEqDiff, Nat.reduceAdd, Nat.reduceLT, Nat.reduceMul, Nat.reduceLeDiff, reduceCtorEq, Int.reduceNeg, Int.reduceToNat] <;> rfl) rfl (by simp (disch := omega) only [go_sem, Nat.reduceEqDiff, Nat.reduceAdd, Nat.reduceLT, Nat.reduceMul, Nat.reduceLeDiff, reduceCtorEq, Int.reduceNeg, Int.reduceToNat]; rfl) hmul ?_
  refine ops_sym (by simp (disch := omega) only [go_sem, Nat.reduceEqDiff, Nat.reduceAdd, Nat.reduceLT, Nat.reduceMul, Nat.reduceLeDiff, reduceCtorEq, Int.reduceNeg, Int.reduceToNat]; rfl) (by first | with_reducible exact True.intro | omega) ?_
  refine ops_callg (by simp only [go_sem, Nat.reduceEqDiff, Nat.reduceAdd, Nat.reduceLT, Nat.reduceMul, Nat.reduceLeDiff, reduceCtorEq, Int.reduceNeg, Int.reduceToNat] <;> rfl) rfl (by simp (disch := omega) only [go_sem, Nat.reduceEqDiff, Nat.reduceAdd, Nat.reduceLT, Nat.reduceMul, Nat.reduceLeDiff, reduceCtorEq, Int.reduceNeg, Int.reduceToNat]; rfl) (small_run hG) ?_
  refine ops_sym (by simp (disch := omega) only [go_sem, Nat.reduceEqDiff, Nat.reduceAdd, Nat.reduceLT, Nat.reduceMul, Nat.reduceLeDiff, reduceCtorEq, Int.reduceNeg, Int.reduceToNat]; rfl) (by first | with_reducible exact True.intro | omega) ?_
  refine ops_callgf (by simp only [go_sem, Nat.reduceEqDiff, Nat.reduceAdd, Nat.reduceLT, Nat.reduceMul, Nat.reduceLeDiff, reduceCtorEq, Int.reduceNeg, Int.reduceToNat] <;> rfl) rfl (by simp (disch := omega) only [go_sem, Nat.reduceEqDiff, Nat.reduceAdd, Nat.reduceLT, Nat.reduceMul, Nat.reduceLeDiff, reduceCtorEq, Int.reduceNeg, Int.reduceToNat]; rfl) (is_run hG) rfl ?_
  refine ops_sym (by simp (disch := omega) only [go_sem, Nat.reduceEqDiff, Nat.reduceAdd, Nat.reduceLT, Nat.reduceMul, Nat.reduceLeDiff, reduceCtorEq, Int.reduceNeg, Int.reduceToNat]; rfl) (by first | with_reducible exact True.intro | omega) ?_
  repeat with_reducible first | refine awp_seq_i ?_ | refine awp_reg_i ?_ | refine ops_nil_i ?_ | refine then_normal_i ?_ | refine awp_draw_i ?_ | refine awp_block_i ?_ | refine in_normal_i ?_ | refine awp_exit_i ?_ | refine then_exit_i ?_ | refine in_exit_i ?_ | refine in_exit_ne (by decide) ?_ | refine awp_ret_i ?_ | refine then_ret_i ?_ | refine in_ret_i ?_ | refine awp_skip_i ?_
  refine res_ret (by simp (disch := omega) only [go_sem, Nat.reduceEqDiff, Nat.reduceAdd, Nat.reduceLT, Nat.reduceMul, Nat.reduceLeDiff, reduceCtorEq, Int.reduceNeg, Int.reduceToNat]; rfl) ?_
  exact hr.symm
end Go.Proofs.YtakghhkbaahabaaDoorK.LawT
/-
  From a contract to a row: arguments opened, the call's post shut.
-/
namespace Go.Proofs.YtakghhkbaahabaaDoorK.RowT
open Go.ChangeShapes Go.WideShapes Go.ChangeAt Go.RowKit Go.Proofs.YtakghhkbaahabaaDoorK.AI
variable {H : Type} {enc : TypeId × Value → H} {P : Program} {W W' : World}
theorem rep_slice {base : Nat} {t e : TypeId} {k : IntKind} {v : Value} {d : DataW H} {p : List MemPlace} (ht : P.underlying t = some (.slice e)) (he : P.underlying e = some (.int k)) (hc : P.cellsOf e = 1)
    (hval : Value.okWide P W .any base t v) (h : DataW.Trod enc P W 0 (fun _ => true) true t v d p) :
    ∃ zs : List Int, RepI (fun _ => False) W v (.sl zs.length (zs.map (.int k ·))) ∧ (∀ z ∈ zs, (Lit.int k z).wf = true) ∧ zs.length ≤ 9223372036854775807 := by
  obtain ⟨fuel, h⟩ := h
  have hcell : Cell.ok P W .any base t v := by
    simp only [Value.okWide, ht, Cell.okWide] at hval
    exact hval
  rcases open_ints ht he hc h with ⟨h1, _⟩ | ⟨a, len, cap, zs, h1, _, hle, hm, hz, _, hcs, hwf⟩
  · have hv : v = .slice none 0 0 := by
      cases v <;> first | (simpa [Value.cells] using h1) | (exfalso; simp [Cell.ok, ht] at hcell)
    subst hv
    exact ⟨[], .sl none 0 0 [] 0 0 (fun _ => undef) (Nat.le_refl _) (Nat.zero_le _) (fun h => absurd rfl h) (fun h => absurd rfl h) (fun j d h => by simp at h) (fun j d h => by simp at h), fun z h => by simp at h, Nat.zero_le _⟩
  · have hv : v = .slice (some a) len cap := by
      cases v <;> first | (simpa [Value.cells] using h1) | (exfalso; simp [Cell.ok, ht] at hcell)
    subst hv
    simp only [Cell.ok, ht] at hcell
    obtain ⟨_, _, _, hsp, _⟩ := hcell
    obtain ⟨g, o, sp⟩ := a
    obtain rfl : sp = none := hsp
    simp only [if_true] at hz
    have hl : (zs.take len).length = len := by simp; omega
    have hmx : maxLen = 9223372036854775807 := rfl
    refine ⟨zs.take len, ?_, fun z hz' => hwf z (List.mem_of_mem_take hz'), by omega⟩
    rw [hl]
    have key : ∀ (j : Nat) (d : D), ((zs.take len).map (D.int k ·))[j]? = some d → j < zs.length ∧ d = .int k (zs.getD j 0) := by
      intro j d hj
      simp only [List.getElem?_map, Option.map_eq_some_iff] at hj
      obtain ⟨x, hx, rfl⟩ := hj
      have hlt : j < (zs.take len).length := (List.getElem?_eq_some_iff.1 hx).1
      have hlt' : j < zs.length := by simp at hlt; omega
      refine ⟨hlt', ?_⟩
      rw [List.getElem?_take, if_pos (by omega)] at hx
      simp [List.getD_eq_getElem?_getD, hx]
    refine .sl _ len cap _ g o (fun j => .int k (zs.getD j 0)) hle hm (fun _ => rfl) (fun _ h => h) (fun j d hj => ?_) (fun j d hj => ?_)
    · obtain ⟨hlt, _⟩ := key j d hj
      have := hcs j hlt
      rw [cellv, ← this]
      unfold Addr.add
      by_cases h0 : j = 0
      · subst h0; rfl
      · rw [if_neg h0]
    · obtain ⟨_, rfl⟩ := key j d hj
      exact .int k _
theorem rep_int {base : Nat} {t : TypeId} {k : IntKind} {v : Value} {d : DataW H} {p : List MemPlace} (ht : P.underlying t = some (.int k)) (hval : Value.okWide P W .any base t v) (h : DataW.Trod enc P W 0 (fun _ => true) true t v d p) :
    ∃ n : Int, RepI (fun _ => False) W v (.int k n) ∧ (Lit.int k n).wf = true := by
  obtain ⟨n, rfl, _, _, hw⟩ := open_int ht hval h
  exact ⟨n, .int k n, hw⟩
theorem rep_bool {base : Nat} {t : TypeId} {v : Value} {d : DataW H} {p : List MemPlace} (ht : P.underlying t = some .bool) (hval : Value.okWide P W .any base t v) (h : DataW.Trod enc P W 0 (fun _ => true) true t v d p) :
    ∃ b : Bool, RepI (fun _ => False) W v (.bool b) := by
  obtain ⟨b, rfl, _, _⟩ := open_bool ht hval h
  exact ⟨b, .bool b⟩
theorem rep_str {base : Nat} {t : TypeId} {v : Value} {d : DataW H} {p : List MemPlace} (ht : P.underlying t = some .string) (hval : Value.okWide P W .any base t v) (h : DataW.Trod enc P W 0 (fun _ => true) true t v d p) :
    ∃ s : ByteArray, RepI (fun _ => False) W v (.str s) ∧ s.size ≤ 9223372036854775807 := by
  obtain ⟨fuel, h⟩ := h
  have hcell : Cell.ok P W .any base t v := by
    simp only [Value.okWide, ht, Cell.okWide] at hval
    exact hval
  cases v <;> first | (exfalso; simp [Cell.ok, ht] at hcell; done) | skip
  rename_i s
  simp only [Cell.ok, ht, IntKind.max, IntKind.signed, IntKind.bits] at hcell
  refine ⟨s, .str s, ?_⟩
  simp at hcell
  omega
theorem wf_ok {k : IntKind} {zs : List Int} {B : Nat} (h : ∀ z ∈ zs, (Lit.int k z).wf = true) (hk : k.min = 0 ∧ k.max = (B : Int) - 1) : Dig.ok B zs := by
  intro z hz
  have := h z hz
  simp only [Lit.wf, Bool.and_eq_true, decide_eq_true_eq, hk.1, hk.2] at this
  omega
/-- Memory as it was: the arguments read as they did. -/
theorem trodAll_below (hl : laidOutB P = true) (hB : Below W.heap.size W W') : ∀ (ts : List TypeId) (vs : List Value) (ds : List (DataW H)) (ps : List MemPlace),
    (ts.all fun t => P.readableRec t && decide (t < P.types.size)) = true → DataW.TrodAll enc P W 0 (fun _ => true) true ts vs ds ps → (∀ x ∈ ps, x.block < W.heap.size) →
    DataW.TrodAll enc P W' 0 (fun b => decide (b < W.heap.size)) true ts vs ds ps
  | [], vs, ds, ps, _, h, _ => by
    obtain ⟨rfl, rfl, rfl⟩ := trodAll_nil h
    exact trodAll_mk0
  | t :: ts, vs, ds, ps, hr, h, hlt => by
    obtain ⟨v, vs1, d, ds1, a, b, rfl, rfl, rfl, h1, h2⟩ := trodAll_cons h
    simp only [List.all_cons, Bool.and_eq_true, decide_eq_true_eq] at hr
    exact ⟨a, b, Below.trod hl hr.1.1 hr.1.2 h1 hB (fun x hx => hlt x (List.mem_append.2 (.inl hx))), trodAll_below hl hB ts vs1 ds1 b (by simpa using hr.2) h2 (fun x hx => hlt x (List.mem_append.2 (.inr hx))), rfl⟩
/-- The call's post, where it answers true and turns nothing that was there. -/
theorem post_true {f : Func} {s : ChangeSpec} {apart : Bool} {args : Array Value} {ds gs : List (DataW H)} {before : List MemPlace} {tb : TypeId} (hl : laidOutB P = true)
    (hr : (f.params.toList.all fun t => P.readableRec t && decide (t < P.types.size)) = true) (hrt : f.resultTypes = #[tb]) (htb : P.underlying tb = some .bool) (hv : s.vars = [])
    (hs : (s.fn H (ds ++ gs)).results = [.lit (.bool true)] ∧ (s.fn H (ds ++ gs)).args = ds ∧ (s.fn H (ds ++ gs)).vars = [])
    (hW : DataW.Whole enc P f.params.toList s.vars apart W args.toList ds gs before) (hB : Below W.heap.size W W') :
    s.post enc P f apart true false false W args (.bool true) W' := by
  have hlt := hW.lt
  have hW' := hW
  rw [hv] at hW'
  obtain ⟨p, q, hA, hV, rfl, _, _⟩ := hW'
  obtain ⟨rfl, rfl⟩ := trodVars_none hV
  refine ⟨ds, [], p ++ [], [], p, [], hW, ?_, ?_, ?_, hB.frame _, fun h => by cases h⟩
  · rw [hs.1, hrt]
    exact trodAll_cons_mk (shut_bool htb _) trodAll_mk0
  · rw [hs.2.1]
    exact trodAll_below hl hB _ _ _ _ hr hA (fun x hx => hlt x (by simpa using hx))
  · rw [hs.2.2, hv]
    rfl
/-- A contract as a call's answer. -/
theorem calls_true {G : World → Prop} {f : FuncId} {ds : List D} {args : Array Value} (h : PCr P G f ds (.bool true)) (hg : G W) (hsz : args.size = ds.length) (hr : ∀ i d, ds[i]? = some d → RepI (fun _ => False) W (args.toList.getD i undef) d) :
    Calls P f args W fun e W' => e = .returned (.bool true) ∧ Below W.heap.size W W' :=
  (h W (fun _ => False) args hg (fun _ h => h.elim) hsz (fun i d hi => by simpa using hr i d hi)).mono fun e W' ⟨v, he, hv, hB⟩ => by
    cases hv
    exact ⟨he, hB⟩
def gPow (P : Program) (w : World) : Prop := Lib.TabIs P w "internal/strconv.uint64pow10" .u64 Lib.pow10Tab
/-- The row's list: its third is the table of powers. -/
theorem gPow_of {x y : String × DataW Unit} {rest : List (String × DataW Unit)} {g : Nat} {t e : TypeId} {n : Nat} (hg : P.globalNamed "internal/strconv.uint64pow10" = some g) (hty : (P.globals[g]?).map (·.type) = some t) (ht : P.underlying t = some (.array n e)) (he : P.underlying e = some (.int .u64)) (hce : P.cellsOf e = 1) (hct : P.cellsOf t = n)
    (hplain : ((x :: y :: ("internal/strconv.uint64pow10", Lib.tabData .u64 Lib.pow10Tab) :: rest).all fun x => x.2.handleName?.isNone) = true)
    (h : laidMetH P (x :: y :: ("internal/strconv.uint64pow10", Lib.tabData .u64 Lib.pow10Tab) :: rest) W) : gPow P W := by
  rw [MakeChecks.laidMetH_plain _ _ _ hplain] at h
  exact Lib.tabIs_of_head hg hty ht he hce hct h.tail.tail
theorem gPow_stable {g : Nat} (hg : P.globalNamed "internal/strconv.uint64pow10" = some g) : Stable (gPow P) := by
  intro w w' h hB
  have h' : w.var? P "internal/strconv.uint64pow10" = _ := h
  refine var?_below hB hg ?_ h'
  unfold World.var? at h'
  simp only [hg, Option.bind_some] at h'
  split at h'
  · rename_i hk
    exact (Array.getElem?_eq_some_iff.1 hk).1
  · cases h'
theorem no_arg : (∀ i d, ([] : List D)[i]? = some d → RepI (fun _ => False) W (([] : List Value).getD i undef) d) := fun i d h => by simp at h
theorem cons_arg {v : Value} {vs : List Value} {d : D} {ds : List D} (h : RepI (fun _ => False) W v d) (hs : ∀ i d, ds[i]? = some d → RepI (fun _ => False) W (vs.getD i undef) d) :
    ∀ i e, (d :: ds)[i]? = some e → RepI (fun _ => False) W ((v :: vs).getD i undef) e := by
  intro i e hi
  cases i with
  | zero => simp at hi; subst hi; simpa using h
  | succ i => exact hs i e (by simpa using hi)
end Go.Proofs.YtakghhkbaahabaaDoorK.RowT
