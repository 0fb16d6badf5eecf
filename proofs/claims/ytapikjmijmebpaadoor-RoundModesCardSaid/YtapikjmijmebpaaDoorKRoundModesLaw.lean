/-
  cubitlaw5.RoundModes answers true.
-/
import Derived.Test.YtapikjmijmebpaaDoorKIrLRoundModes
import Derived.Test.YtapikjmijmebpaaDoorKAwakeE5
import Derived.Test.YtapikjmijmebpaaDoorKOverL5
set_option linter.all false
set_option linter.unusedVariables false
set_option linter.unusedSimpArgs false
set_option maxHeartbeats 4000000
namespace Go.Proofs.YtapikjmijmebpaaDoorK.LawT5
open Go.Proofs.YtapikjmijmebpaaDoorK.AI Go.Proofs.YtapikjmijmebpaaDoorK.NatIr Go.Proofs.YtapikjmijmebpaaDoorK.Dig Go.Proofs.YtapikjmijmebpaaDoorK.NatT Go.Proofs.YtapikjmijmebpaaDoorK.NumT Go.Proofs.YtapikjmijmebpaaDoorK.RatT Go.Proofs.YtapikjmijmebpaaDoorK.DecT Go.Proofs.YtapikjmijmebpaaDoorK.RoundT
set_option linter.unusedSimpArgs false
attribute [local irreducible] awp awpOps
attribute [local go_sem] getO putE_same putE_ne putE_none un0_at ini_zero ini_one ini_two ini_three ne_eq not_false_eq_true Nat.zero_ne_one Nat.one_ne_zero zero_ne_succ succ_ne_zero sym_nil sym_cons symG_call symG_op symG_skip IOp.isCall gd st_mv st_pick st_new st_box st_build st_lit st_load st_store st_faddr st_fld st_iaddrS st_iaddrA st_idxs st_bin st_beq st_neg st_not st_conv st_slcS st_slcL st_make st_app st_lenS st_lenL st_mx st_mn st_ext st_nilck st_bstr byD pureC loadC setH hv boundO D.cells D.one D.boxable fillD putD rowD binC intBinC decT decF dec_true dec_false bne_self_eq_false beq_self_eq_true beq_true_false beq_false_true bne_iff_ne List.length_nil List.length_cons List.getD_cons_zero List.getD_cons_succ List.set_cons_zero List.set_cons_succ List.all_cons List.all_nil Bool.and_true Bool.true_and Nat.lt_irrefl Nat.sub_self Nat.zero_add Nat.add_zero Nat.mul_one Nat.lt_add_one if_true if_false List.replicate_zero List.nil_append List.cons_append List.append_nil List.map_cons List.map_nil Bool.false_eq_true or_self or_true true_or or_false false_or true_and and_true and_self Int.ofNat_zero wrap_i64 wrap_u32 wrap_u64 wrap_u8 wrap_u32_mod wrap_u64_mod Nat.zero_lt_one Int.toNat_natCast Int.sub_zero toNat_pred List.take_succ_cons List.take_zero List.drop_succ_cons List.drop_zero List.take_nil List.drop_nil Nat.le_refl List.length_singleton rvDs rvD ldD one? Option.bind_some Option.map_some resD_int resD_bool resD_str resD_sl resD_rp resD_nils resD_null resD_agg resD_tup resD_own rdOwn resD_ptr rdPtr rd_ite resL_eq go_nil go_cons D.imm resArgs shr32 shl32 Nat.zero_mul Bool.and_self Bool.and_false Bool.false_and strBin_eql strBin_neq Bool.not_true Bool.not_false i64max List.length_reverse List.length_set SS_length SS_getD SS_set SS_take SS_drop SS_imm SS_one SS_app1 W_get1 W_len1 W_getD W_set W_take W_drop W_app W_length W_imm W_one W_repl N mx_nat toNat_succ toNat_add toNat_pred2 tdiv_nn tmod_nn List.take_of_length_le cast_succ and_one or_shl32 min64 shr32b shl32b IntKind.bits
attribute [local go_sem] nl ZD
attribute [local go_sem] QD
attribute [local go_sem] DD not_true_eq_false not_false_eq_true Int.reduceLE Int.reduceLT Int.reduceAdd
variable {G : World → Prop}
/-- The row of eight, of which those from 1 to i - 1 are told. -/
def mrow (x : Rat) (i : Nat) : List D := (List.range 8).flatMap fun j => if 1 ≤ j ∧ j < i then [.bool (ng (rnd x (j : Int))), nl (rnd x (j : Int)).natAbs] else [.bool false, .nils]
theorem mrow_1 (x : Rat) : mrow x 1 = [.bool false, .nils, .bool false, .nils, .bool false, .nils, .bool false, .nils, .bool false, .nils, .bool false, .nils, .bool false, .nils, .bool false, .nils] := rfl
theorem mrow_2 (x : Rat) : mrow x 2 = [.bool false, .nils, .bool (ng (rnd x 1)), nl (rnd x 1).natAbs, .bool false, .nils, .bool false, .nils, .bool false, .nils, .bool false, .nils, .bool false, .nils, .bool false, .nils] := rfl
theorem mrow_3 (x : Rat) : mrow x 3 = [.bool false, .nils, .bool (ng (rnd x 1)), nl (rnd x 1).natAbs, .bool (ng (rnd x 2)), nl (rnd x 2).natAbs, .bool false, .nils, .bool false, .nils, .bool false, .nils, .bool false, .nils, .bool false, .nils] := rfl
theorem mrow_4 (x : Rat) : mrow x 4 = [.bool false, .nils, .bool (ng (rnd x 1)), nl (rnd x 1).natAbs, .bool (ng (rnd x 2)), nl (rnd x 2).natAbs, .bool (ng (rnd x 3)), nl (rnd x 3).natAbs, .bool false, .nils, .bool false, .nils, .bool false, .nils, .bool false, .nils] := rfl
theorem mrow_5 (x : Rat) : mrow x 5 = [.bool false, .nils, .bool (ng (rnd x 1)), nl (rnd x 1).natAbs, .bool (ng (rnd x 2)), nl (rnd x 2).natAbs, .bool (ng (rnd x 3)), nl (rnd x 3).natAbs, .bool (ng (rnd x 4)), nl (rnd x 4).natAbs, .bool false, .nils, .bool false, .nils, .bool false, .nils] := rfl
theorem mrow_6 (x : Rat) : mrow x 6 = [.bool false, .nils, .bool (ng (rnd x 1)), nl (rnd x 1).natAbs, .bool (ng (rnd x 2)), nl (rnd x 2).natAbs, .bool (ng (rnd x 3)), nl (rnd x 3).natAbs, .bool (ng (rnd x 4)), nl (rnd x 4).natAbs, .bool (ng (rnd x 5)), nl (rnd x 5).natAbs, .bool false, .nils, .bool false, .nils] := rfl
theorem mrow_7 (x : Rat) : mrow x 7 = [.bool false, .nils, .bool (ng (rnd x 1)), nl (rnd x 1).natAbs, .bool (ng (rnd x 2)), nl (rnd x 2).natAbs, .bool (ng (rnd x 3)), nl (rnd x 3).natAbs, .bool (ng (rnd x 4)), nl (rnd x 4).natAbs, .bool (ng (rnd x 5)), nl (rnd x 5).natAbs, .bool (ng (rnd x 6)), nl (rnd x 6).natAbs, .bool false, .nils] := rfl
theorem mrow_8 (x : Rat) : mrow x 8 = [.bool false, .nils, .bool (ng (rnd x 1)), nl (rnd x 1).natAbs, .bool (ng (rnd x 2)), nl (rnd x 2).natAbs, .bool (ng (rnd x 3)), nl (rnd x 3).natAbs, .bool (ng (rnd x 4)), nl (rnd x 4).natAbs, .bool (ng (rnd x 5)), nl (rnd x 5).natAbs, .bool (ng (rnd x 6)), nl (rnd x 6).natAbs, .bool (ng (rnd x 7)), nl (rnd x 7).natAbs] := rfl
attribute [local go_sem] mrow_1 mrow_2 mrow_3 mrow_4 mrow_5 mrow_6 mrow_7 mrow_8
theorem kb_nl5 (k X : Nat) : kb k (nl X) := by simp [nl, kb, kbs_W]
attribute [local simp] kb_nl5 mrow_1 mrow_2 mrow_3 mrow_4 mrow_5 mrow_6 mrow_7 mrow_8
/-- One of two is it. -/
theorem one_of (x : Rat) (m : Int) : ((rnd x m - rnd x 3).sign = 0) ∨ (¬ (rnd x m - rnd x 3).sign = 0 ∧ (rnd x m - rnd x 4).sign = 0) := by
  rcases rnd_one x m with h | h
  · left; rw [h, sign_self]
  · by_cases h3 : (rnd x m - rnd x 3).sign = 0
    · exact .inl h3
    · exact .inr ⟨h3, by rw [h, sign_self]⟩
set_option maxHeartbeats 32000000 in
theorem pcr_modes_law (hG : Stable G) (hT : ∀ w, G w → Lib.TabIs Tryd.prog w "internal/strconv.uint64pow10" .u64 Lib.pow10Tab) (hM : ∀ w, G w → LibT.gMax w)
    (b : Bool) (a : List Int) (n : Nat) (hn : n = a.length) (ha : ok 4294967296 a) (hla : a.length ≤ 9223372036854775807) (c : List Int) (m : Nat) (hm : m = c.length) (hc : ok 4294967296 c) (hlc : c.length ≤ 9223372036854775807) :
    PCr Tryd.prog G 4 [.agg [.bool b, .sl n (W a), .sl m (W c)]] (.bool true) := by
  have haw := pcr_awake hG hT hM
  obtain ⟨l, hl, hb⟩ := pcr_longq hG b n m (W a) (W c)
  cases l
  case true =>
    refine pcr_by hG (fn := Tryd.f4) (n := 136) (rv := [.tmp 2]) (by kernel_rfl) ok4 (by kernel_rfl) (by decide) (by kernel_rfl) (by simp) (by kernel_rfl) (fun r hr => ?_); unfold c4 st0
    (exact xwalkd)
  obtain ⟨hb1, hb2⟩ := hb rfl
  obtain ⟨g, hg⟩ := RatT.pcr_goodX hG b a n hn ha (by omega) c m hm hc (by omega)
  cases g
  · refine pcr_by hG (fn := Tryd.f4) (n := 136) (rv := [.tmp 2]) (by kernel_rfl) ok4 (by kernel_rfl) (by decide) (by kernel_rfl) (by simp) (by kernel_rfl) (fun r hr => ?_); unfold c4 st0
    (exact xwalkd)
  have hx := qm_in (b := b) (L := 12) hn ha hm hc (by omega) hb1 hb2
  generalize vq b a c = x at *
  have hri := fun (k : Nat) (h1 : 1 ≤ k) (h7 : k ≤ 7) => pcr_rint hG hx (by omega) (m := (k : Int)) (by omega) (by omega)
  have hrb := fun (k : Int) => rnd_nat hx k
  have hsg := RatT.pcr_sign hG hx (by omega)
  have hfl := RatT.pcr_floor hG hx (by omega)
  have h1 := NatT.pcr_of hG 1 (by omega)
  have ho := fun (k : Int) => RatT.pcr_of hG (b := ng (rnd x k)) (nm_N (hrb k)) nm1 (by omega) (by omega) (by omega)
  have ho3 := ho 3
  have ho4 := ho 4
  rw [sg_self, mk_one] at ho3 ho4
  have hq := fun (k : Int) => qm_z (L := 13) (by omega) (hrb k)
  have hc1 := RatT.pcr_cmp hG (hq 3) hx (by omega) (by omega)
  have hc2 := RatT.pcr_cmp hG hx (hq 4) (by omega) (by omega)
  have hl1 := cmp_le (x := ((rnd x 3 : Int) : Rat)) (y := x) (by rw [rnd_floor]; exact fl_le)
  have hl2 := cmp_le (rnd_ceil x)
  have hcz := fun (i j : Int) => NumT.pcr_cmp hG (zm_ZD (hrb i)) (zm_ZD (hrb j)) (by omega) (by omega)
  have hcf : PCr Tryd.prog G 19 [ZD (rnd x 3), ZD x.floor] (.int .i64 0) := by
    have := NumT.pcr_cmp hG (zm_ZD (hrb 3)) (zm_ZD (hrb 3)) (by omega) (by omega)
    rw [sign_self] at this
    rwa [rnd_floor] at this ⊢
  have hd := rnd_down x
  have hu := rnd_up x
  have hs3 := sgn3 x
  have c53 := hcz 5 3
  have c54 := hcz 5 4
  have c63 := hcz 6 3
  have c64 := hcz 6 4
  have c73 := hcz 7 3
  have c74 := hcz 7 4
  have o5 := one_of x 5
  have o6 := one_of x 6
  have o7 := one_of x 7
  generalize (rnd x 5 - rnd x 3).sign = s53 at *
  generalize (rnd x 5 - rnd x 4).sign = s54 at *
  generalize (rnd x 6 - rnd x 3).sign = s63 at *
  generalize (rnd x 6 - rnd x 4).sign = s64 at *
  generalize (rnd x 7 - rnd x 3).sign = s73 at *
  generalize (rnd x 7 - rnd x 4).sign = s74 at *
  generalize (((rnd x 3 : Int) : Rat) - x).num.sign = sl at *
  generalize (x - ((rnd x 4 : Int) : Rat)).num.sign = sh at *
  refine pcr_by hG (fn := Tryd.f4) (n := 136) (rv := [.tmp 2]) (by kernel_rfl) ok4 (by kernel_rfl) (by decide) (by kernel_rfl) (by simp) (by kernel_rfl) (fun r hr => ?_); unfold c4 st0
  (refine xwalk ?_)
  refine awp_loop (fun k σ => ∃ i : Nat, 1 ≤ i ∧ i ≤ 8 ∧ k = 8 - i ∧
      σ = ⟨(putE (putE (putE (putE un0 (some 1) (.ptr 0 0 0)) (some 2) (.bool false)) (some 3) (.ptr 1 0 0)) (some 4) (.int .i64 (i : Int))), [some (0, 28, 3, [.bool b, .sl n (W a), .sl m (W c)]), some (0, 39, 16, mrow x i)]⟩) 7
      (Ent.env (less_put (less_put (less_put (less_put (less_un0 _) ?_) ?_) ?_) ?_)) ⟨1, by omega, by omega, rfl, rfl⟩ ?_
  iterate 3 (· exact xlq)
  · show _ = D.int .i64 1
    exact xlq
  rintro k σ1 ⟨i, hi1, hi8, rfl, rfl⟩
  have hi : i = 1 ∨ i = 2 ∨ i = 3 ∨ i = 4 ∨ i = 5 ∨ i = 6 ∨ i = 7 ∨ i = 8 := by omega
  rcases hi with rfl | rfl | rfl | rfl | rfl | rfl | rfl | rfl
  · have hr1 := hri 1 (by omega) (by omega)
    (refine xwalk ?_)
    refine ⟨8 - 2, _, by omega, (Ent.cutk 2 (less_put (less_put (less_put (less_put (less_un0 _) ?_) ?_) ?_) ?_) (by exact ⟨.inr rfl, .inr rfl, trivial⟩) (kb_put (kb_put (kb_put (kb_put (kb_un0 _) (by simp [kb])) (by simp [kb])) (by simp [kb])) (by simp [kb])) (by simp [kbH, kb.kbs, kb, kbs_W, kbs_SS])), 2, by omega, by omega, rfl, rfl⟩
    iterate 3 (· exact xlq)
    · show _ = D.int .i64 2
      exact xlq
  · have hr2 := hri 2 (by omega) (by omega)
    (refine xwalk ?_)
    refine ⟨8 - 3, _, by omega, (Ent.cutk 2 (less_put (less_put (less_put (less_put (less_un0 _) ?_) ?_) ?_) ?_) (by exact ⟨.inr rfl, .inr rfl, trivial⟩) (kb_put (kb_put (kb_put (kb_put (kb_un0 _) (by simp [kb])) (by simp [kb])) (by simp [kb])) (by simp [kb])) (by simp [kbH, kb.kbs, kb, kbs_W, kbs_SS])), 3, by omega, by omega, rfl, rfl⟩
    iterate 3 (· exact xlq)
    · show _ = D.int .i64 3
      exact xlq
  · have hr3 := hri 3 (by omega) (by omega)
    (refine xwalk ?_)
    refine ⟨8 - 4, _, by omega, (Ent.cutk 2 (less_put (less_put (less_put (less_put (less_un0 _) ?_) ?_) ?_) ?_) (by exact ⟨.inr rfl, .inr rfl, trivial⟩) (kb_put (kb_put (kb_put (kb_put (kb_un0 _) (by simp [kb])) (by simp [kb])) (by simp [kb])) (by simp [kb])) (by simp [kbH, kb.kbs, kb, kbs_W, kbs_SS])), 4, by omega, by omega, rfl, rfl⟩
    iterate 3 (· exact xlq)
    · show _ = D.int .i64 4
      exact xlq
  · have hr4 := hri 4 (by omega) (by omega)
    (refine xwalk ?_)
    refine ⟨8 - 5, _, by omega, (Ent.cutk 2 (less_put (less_put (less_put (less_put (less_un0 _) ?_) ?_) ?_) ?_) (by exact ⟨.inr rfl, .inr rfl, trivial⟩) (kb_put (kb_put (kb_put (kb_put (kb_un0 _) (by simp [kb])) (by simp [kb])) (by simp [kb])) (by simp [kb])) (by simp [kbH, kb.kbs, kb, kbs_W, kbs_SS])), 5, by omega, by omega, rfl, rfl⟩
    iterate 3 (· exact xlq)
    · show _ = D.int .i64 5
      exact xlq
  · have hr5 := hri 5 (by omega) (by omega)
    (refine xwalk ?_)
    refine ⟨8 - 6, _, by omega, (Ent.cutk 2 (less_put (less_put (less_put (less_put (less_un0 _) ?_) ?_) ?_) ?_) (by exact ⟨.inr rfl, .inr rfl, trivial⟩) (kb_put (kb_put (kb_put (kb_put (kb_un0 _) (by simp [kb])) (by simp [kb])) (by simp [kb])) (by simp [kb])) (by simp [kbH, kb.kbs, kb, kbs_W, kbs_SS])), 6, by omega, by omega, rfl, rfl⟩
    iterate 3 (· exact xlq)
    · show _ = D.int .i64 6
      exact xlq
  · have hr6 := hri 6 (by omega) (by omega)
    (refine xwalk ?_)
    refine ⟨8 - 7, _, by omega, (Ent.cutk 2 (less_put (less_put (less_put (less_put (less_un0 _) ?_) ?_) ?_) ?_) (by exact ⟨.inr rfl, .inr rfl, trivial⟩) (kb_put (kb_put (kb_put (kb_put (kb_un0 _) (by simp [kb])) (by simp [kb])) (by simp [kb])) (by simp [kb])) (by simp [kbH, kb.kbs, kb, kbs_W, kbs_SS])), 7, by omega, by omega, rfl, rfl⟩
    iterate 3 (· exact xlq)
    · show _ = D.int .i64 7
      exact xlq
  · have hr7 := hri 7 (by omega) (by omega)
    (refine xwalk ?_)
    refine ⟨8 - 8, _, by omega, (Ent.cutk 2 (less_put (less_put (less_put (less_put (less_un0 _) ?_) ?_) ?_) ?_) (by exact ⟨.inr rfl, .inr rfl, trivial⟩) (kb_put (kb_put (kb_put (kb_put (kb_un0 _) (by simp [kb])) (by simp [kb])) (by simp [kb])) (by simp [kb])) (by simp [kbH, kb.kbs, kb, kbs_W, kbs_SS])), 8, by omega, by omega, rfl, rfl⟩
    iterate 3 (· exact xlq)
    · show _ = D.int .i64 8
      exact xlq
  rcases hs3 with ⟨hs, hs2⟩ | ⟨hs, hs2⟩ | ⟨hs, hs2⟩
  · rw [hs2] at hsg
    rw [if_pos (hs)] at hd hu
    have c1 := hcz 1 4
    have c2 := hcz 2 3
    rw [show (rnd x 1 - rnd x 4).sign = 0 by rw [hd, sign_self]] at c1
    rw [show (rnd x 2 - rnd x 3).sign = 0 by rw [hu, sign_self]] at c2
    (refine xwalk ?_)
    refine awp_loop (fun k σ => ∃ i : Nat, 5 ≤ i ∧ i ≤ 8 ∧ k = 8 - i ∧
        σ = ⟨(putE (putE (putE (putE un0 (some 1) (.ptr 0 0 0)) (some 2) (.bool false)) (some 3) (.ptr 1 0 0)) (some 11) (.int .i64 (i : Int))), [some (0, 28, 3, [.bool b, .sl n (W a), .sl m (W c)]), some (0, 39, 16, mrow x 8)]⟩) 3
        ((Ent.cutk 2 (less_put (less_put (less_put (less_put (less_un0 _) ?_) ?_) ?_) ?_) (by exact ⟨.inr rfl, .inr rfl, trivial⟩) (kb_put (kb_put (kb_put (kb_put (kb_un0 _) (by simp [kb])) (by simp [kb])) (by simp [kb])) (by simp [kb])) (by simp [kbH, kb.kbs, kb, kbs_W, kbs_SS]))) ⟨5, by omega, by omega, rfl, rfl⟩ ?_
    iterate 3 (· exact xlq)
    · show _ = D.int .i64 5
      exact xlq
    rintro k σ1 ⟨i, hi5, hi8, rfl, rfl⟩
    have hi : i = 5 ∨ i = 6 ∨ i = 7 ∨ i = 8 := by omega
    rcases hi with rfl | rfl | rfl | rfl
    · rcases o5 with h | ⟨h, h'⟩
      · (refine xwalk ?_)
        refine ⟨8 - 6, _, by omega, Ent.env (less_put (less_put (less_put (less_put (less_un0 _) ?_) ?_) ?_) ?_), 6, by omega, by omega, rfl, rfl⟩
        iterate 3 (· exact xlq)
        · show _ = D.int .i64 6
          exact xlq
      · (refine xwalk ?_)
        refine ⟨8 - 6, _, by omega, Ent.env (less_put (less_put (less_put (less_put (less_un0 _) ?_) ?_) ?_) ?_), 6, by omega, by omega, rfl, rfl⟩
        iterate 3 (· exact xlq)
        · show _ = D.int .i64 6
          exact xlq
    · rcases o6 with h | ⟨h, h'⟩
      · (refine xwalk ?_)
        refine ⟨8 - 7, _, by omega, Ent.env (less_put (less_put (less_put (less_put (less_un0 _) ?_) ?_) ?_) ?_), 7, by omega, by omega, rfl, rfl⟩
        iterate 3 (· exact xlq)
        · show _ = D.int .i64 7
          exact xlq
      · (refine xwalk ?_)
        refine ⟨8 - 7, _, by omega, Ent.env (less_put (less_put (less_put (less_put (less_un0 _) ?_) ?_) ?_) ?_), 7, by omega, by omega, rfl, rfl⟩
        iterate 3 (· exact xlq)
        · show _ = D.int .i64 7
          exact xlq
    · rcases o7 with h | ⟨h, h'⟩
      · (refine xwalk ?_)
        refine ⟨8 - 8, _, by omega, Ent.env (less_put (less_put (less_put (less_put (less_un0 _) ?_) ?_) ?_) ?_), 8, by omega, by omega, rfl, rfl⟩
        iterate 3 (· exact xlq)
        · show _ = D.int .i64 8
          exact xlq
      · (refine xwalk ?_)
        refine ⟨8 - 8, _, by omega, Ent.env (less_put (less_put (less_put (less_put (less_un0 _) ?_) ?_) ?_) ?_), 8, by omega, by omega, rfl, rfl⟩
        iterate 3 (· exact xlq)
        · show _ = D.int .i64 8
          exact xlq
    · (exact xwalkd)
  · rw [hs2] at hsg
    rw [if_neg (by rw [hs]; decide)] at hd hu
    have c1 := hcz 1 3
    have c2 := hcz 2 4
    rw [show (rnd x 1 - rnd x 3).sign = 0 by rw [hd, sign_self]] at c1
    rw [show (rnd x 2 - rnd x 4).sign = 0 by rw [hu, sign_self]] at c2
    (refine xwalk ?_)
    refine awp_loop (fun k σ => ∃ i : Nat, 5 ≤ i ∧ i ≤ 8 ∧ k = 8 - i ∧
        σ = ⟨(putE (putE (putE (putE un0 (some 1) (.ptr 0 0 0)) (some 2) (.bool false)) (some 3) (.ptr 1 0 0)) (some 11) (.int .i64 (i : Int))), [some (0, 28, 3, [.bool b, .sl n (W a), .sl m (W c)]), some (0, 39, 16, mrow x 8)]⟩) 3
        ((Ent.cutk 2 (less_put (less_put (less_put (less_put (less_un0 _) ?_) ?_) ?_) ?_) (by exact ⟨.inr rfl, .inr rfl, trivial⟩) (kb_put (kb_put (kb_put (kb_put (kb_un0 _) (by simp [kb])) (by simp [kb])) (by simp [kb])) (by simp [kb])) (by simp [kbH, kb.kbs, kb, kbs_W, kbs_SS]))) ⟨5, by omega, by omega, rfl, rfl⟩ ?_
    iterate 3 (· exact xlq)
    · show _ = D.int .i64 5
      exact xlq
    rintro k σ1 ⟨i, hi5, hi8, rfl, rfl⟩
    have hi : i = 5 ∨ i = 6 ∨ i = 7 ∨ i = 8 := by omega
    rcases hi with rfl | rfl | rfl | rfl
    · rcases o5 with h | ⟨h, h'⟩
      · (refine xwalk ?_)
        refine ⟨8 - 6, _, by omega, Ent.env (less_put (less_put (less_put (less_put (less_un0 _) ?_) ?_) ?_) ?_), 6, by omega, by omega, rfl, rfl⟩
        iterate 3 (· exact xlq)
        · show _ = D.int .i64 6
          exact xlq
      · (refine xwalk ?_)
        refine ⟨8 - 6, _, by omega, Ent.env (less_put (less_put (less_put (less_put (less_un0 _) ?_) ?_) ?_) ?_), 6, by omega, by omega, rfl, rfl⟩
        iterate 3 (· exact xlq)
        · show _ = D.int .i64 6
          exact xlq
    · rcases o6 with h | ⟨h, h'⟩
      · (refine xwalk ?_)
        refine ⟨8 - 7, _, by omega, Ent.env (less_put (less_put (less_put (less_put (less_un0 _) ?_) ?_) ?_) ?_), 7, by omega, by omega, rfl, rfl⟩
        iterate 3 (· exact xlq)
        · show _ = D.int .i64 7
          exact xlq
      · (refine xwalk ?_)
        refine ⟨8 - 7, _, by omega, Ent.env (less_put (less_put (less_put (less_put (less_un0 _) ?_) ?_) ?_) ?_), 7, by omega, by omega, rfl, rfl⟩
        iterate 3 (· exact xlq)
        · show _ = D.int .i64 7
          exact xlq
    · rcases o7 with h | ⟨h, h'⟩
      · (refine xwalk ?_)
        refine ⟨8 - 8, _, by omega, Ent.env (less_put (less_put (less_put (less_put (less_un0 _) ?_) ?_) ?_) ?_), 8, by omega, by omega, rfl, rfl⟩
        iterate 3 (· exact xlq)
        · show _ = D.int .i64 8
          exact xlq
      · (refine xwalk ?_)
        refine ⟨8 - 8, _, by omega, Ent.env (less_put (less_put (less_put (less_put (less_un0 _) ?_) ?_) ?_) ?_), 8, by omega, by omega, rfl, rfl⟩
        iterate 3 (· exact xlq)
        · show _ = D.int .i64 8
          exact xlq
    · (exact xwalkd)
  · rw [hs2] at hsg
    rw [if_neg (by grind)] at hd hu
    have c1 := hcz 1 3
    have c2 := hcz 2 4
    rw [show (rnd x 1 - rnd x 3).sign = 0 by rw [hd, sign_self]] at c1
    rw [show (rnd x 2 - rnd x 4).sign = 0 by rw [hu, sign_self]] at c2
    (refine xwalk ?_)
    refine awp_loop (fun k σ => ∃ i : Nat, 5 ≤ i ∧ i ≤ 8 ∧ k = 8 - i ∧
        σ = ⟨(putE (putE (putE (putE un0 (some 1) (.ptr 0 0 0)) (some 2) (.bool false)) (some 3) (.ptr 1 0 0)) (some 11) (.int .i64 (i : Int))), [some (0, 28, 3, [.bool b, .sl n (W a), .sl m (W c)]), some (0, 39, 16, mrow x 8)]⟩) 3
        ((Ent.cutk 2 (less_put (less_put (less_put (less_put (less_un0 _) ?_) ?_) ?_) ?_) (by exact ⟨.inr rfl, .inr rfl, trivial⟩) (kb_put (kb_put (kb_put (kb_put (kb_un0 _) (by simp [kb])) (by simp [kb])) (by simp [kb])) (by simp [kb])) (by simp [kbH, kb.kbs, kb, kbs_W, kbs_SS]))) ⟨5, by omega, by omega, rfl, rfl⟩ ?_
    iterate 3 (· exact xlq)
    · show _ = D.int .i64 5
      exact xlq
    rintro k σ1 ⟨i, hi5, hi8, rfl, rfl⟩
    have hi : i = 5 ∨ i = 6 ∨ i = 7 ∨ i = 8 := by omega
    rcases hi with rfl | rfl | rfl | rfl
    · rcases o5 with h | ⟨h, h'⟩
      · (refine xwalk ?_)
        refine ⟨8 - 6, _, by omega, Ent.env (less_put (less_put (less_put (less_put (less_un0 _) ?_) ?_) ?_) ?_), 6, by omega, by omega, rfl, rfl⟩
        iterate 3 (· exact xlq)
        · show _ = D.int .i64 6
          exact xlq
      · (refine xwalk ?_)
        refine ⟨8 - 6, _, by omega, Ent.env (less_put (less_put (less_put (less_put (less_un0 _) ?_) ?_) ?_) ?_), 6, by omega, by omega, rfl, rfl⟩
        iterate 3 (· exact xlq)
        · show _ = D.int .i64 6
          exact xlq
    · rcases o6 with h | ⟨h, h'⟩
      · (refine xwalk ?_)
        refine ⟨8 - 7, _, by omega, Ent.env (less_put (less_put (less_put (less_put (less_un0 _) ?_) ?_) ?_) ?_), 7, by omega, by omega, rfl, rfl⟩
        iterate 3 (· exact xlq)
        · show _ = D.int .i64 7
          exact xlq
      · (refine xwalk ?_)
        refine ⟨8 - 7, _, by omega, Ent.env (less_put (less_put (less_put (less_put (less_un0 _) ?_) ?_) ?_) ?_), 7, by omega, by omega, rfl, rfl⟩
        iterate 3 (· exact xlq)
        · show _ = D.int .i64 7
          exact xlq
    · rcases o7 with h | ⟨h, h'⟩
      · (refine xwalk ?_)
        refine ⟨8 - 8, _, by omega, Ent.env (less_put (less_put (less_put (less_put (less_un0 _) ?_) ?_) ?_) ?_), 8, by omega, by omega, rfl, rfl⟩
        iterate 3 (· exact xlq)
        · show _ = D.int .i64 8
          exact xlq
      · (refine xwalk ?_)
        refine ⟨8 - 8, _, by omega, Ent.env (less_put (less_put (less_put (less_put (less_un0 _) ?_) ?_) ?_) ?_), 8, by omega, by omega, rfl, rfl⟩
        iterate 3 (· exact xlq)
        · show _ = D.int .i64 8
          exact xlq
    · (exact xwalkd)
end Go.Proofs.YtapikjmijmebpaaDoorK.LawT5
