/-
  Joined: RefDec, RefDec2.
-/
import Derived.Test.YtapikjmijmebpaaGreatDoorKIrRef
import Derived.Test.YtapikjmijmebpaaGreatDoorKIrRefD
import Derived.Test.YtapikjmijmebpaaGreatDoorKRefQ
import Derived.Test.YtapikjmijmebpaaGreatDoorKDecC
import Derived.Test.YtapikjmijmebpaaGreatDoorKDecB
set_option linter.all false
set_option linter.unusedVariables false
set_option linter.unusedSimpArgs false
set_option maxHeartbeats 4000000
/-
  The document's numerals: Ten, plain, DText, DPart, DWhole, DRat, DShort, DOf: what they compute.
-/
namespace Go.Proofs.YtapikjmijmebpaaGreatDoorK.RefT
open Go.Proofs.YtapikjmijmebpaaGreatDoorK.AI Go.Proofs.YtapikjmijmebpaaGreatDoorK.NatIr Go.Proofs.YtapikjmijmebpaaGreatDoorK.Dig Go.Proofs.YtapikjmijmebpaaGreatDoorK.NatT Go.Proofs.YtapikjmijmebpaaGreatDoorK.NumT Go.Proofs.YtapikjmijmebpaaGreatDoorK.RatT Go.Proofs.YtapikjmijmebpaaGreatDoorK.DecT
set_option linter.unusedSimpArgs false
def MD (b : Bool) (X s : Nat) : D := .agg [.bool b, M X, .int .i64 (s : Int)]
attribute [local irreducible] awp awpOps
attribute [local go_sem] getO putE_same putE_ne putE_none un0_at ini_zero ini_one ini_two ini_three ne_eq not_false_eq_true Nat.zero_ne_one Nat.one_ne_zero zero_ne_succ succ_ne_zero sym_nil sym_cons symG_call symG_op symG_skip IOp.isCall gd st_mv st_pick st_new st_box st_build st_lit st_load st_store st_faddr st_fld st_iaddrS st_iaddrA st_idxs st_bin st_beq st_neg st_not st_conv st_slcS st_slcL st_make st_app st_lenS st_lenL st_mx st_mn st_ext st_nilck st_bstr byD pureC loadC setH hv boundO D.cells D.one D.boxable fillD putD rowD binC intBinC decT decF dec_true dec_false bne_self_eq_false beq_self_eq_true beq_true_false beq_false_true bne_iff_ne List.length_nil List.length_cons List.getD_cons_zero List.getD_cons_succ List.set_cons_zero List.set_cons_succ List.all_cons List.all_nil Bool.and_true Bool.true_and Nat.lt_irrefl Nat.sub_self Nat.zero_add Nat.add_zero Nat.mul_one Nat.lt_add_one if_true if_false List.replicate_zero List.nil_append List.cons_append List.append_nil List.map_cons List.map_nil Bool.false_eq_true or_self or_true true_or or_false false_or true_and and_true and_self Int.ofNat_zero wrap_i64 wrap_u32 wrap_u64 wrap_u8 wrap_u32_mod wrap_u64_mod Nat.zero_lt_one Int.toNat_natCast Int.sub_zero toNat_pred List.take_succ_cons List.take_zero List.drop_succ_cons List.drop_zero List.take_nil List.drop_nil Nat.le_refl List.length_singleton rvDs rvD ldD one? Option.bind_some Option.map_some resD_int resD_bool resD_str resD_sl resD_rp resD_nils resD_null resD_agg resD_tup resD_own rdOwn resD_ptr rdPtr rd_ite resL_eq go_nil go_cons D.imm resArgs shr32 shl32 Nat.zero_mul Bool.and_self Bool.and_false Bool.false_and strBin_eql strBin_neq Bool.not_true Bool.not_false i64max List.length_reverse List.length_set SS_length SS_getD SS_set SS_take SS_drop SS_imm SS_one SS_app1 W_get1 W_len1 W_getD W_set W_take W_drop W_app W_length W_imm W_one W_repl N mx_nat toNat_succ toNat_add toNat_pred2 tdiv_nn tmod_nn List.take_of_length_le cast_succ and_one or_shl32 min64 shr32b shl32b IntKind.bits
attribute [local go_sem] V_getD V_set V_take V_drop V_imm V_one V_app V_app1 V_repl V_get1 V_length M List.length_append
attribute [local go_sem] nl ZD MZ
attribute [local go_sem] QD MQ
attribute [local go_sem] Int.add_sub_cancel MD List.size_toArray ba_size RatT.ba_app List.length_append List.length_replicate
variable {G : World → Prop} {L M' X Y s : Nat} {x r : Rat} {b : Bool} {d e : D}
theorem MD_zero : MD false 0 0 = .agg [.bool false, .sl 0 [], .int .i64 0] := by rw [MD, M_zero]; rfl
theorem pcr_rten (hG : Stable G) (k : Nat) (hk : k ≤ 1000) : PCr Tryz.prog G 99 [.int .i64 (k : Int)] (M (10 ^ k)) := by
  have h1 := pcr_rsmall hG 10 (by omega)
  have h2 := pcr_rpow hG 10 (k : Int) (by rw [wd_pos (by omega) (by omega)]; simp [wd_zero]) (by omega)
  rw [Int.toNat_natCast] at h2
  refine pcr_byq ok99 hG (n := 6) (rv := [.tmp 2]) fun r hr => ?_; unfold c99 st0
  (exact xwalkd)
theorem wd4_ten (h : s ≤ 60) : (wd 10000 (10 ^ s)).length ≤ 21 := wd4_len (n := 7) (ten_lt h)
theorem wd4_lt {n : Nat} (h : X < 4294967296 ^ n) : (wd 10000 X).length ≤ 3 * n := wd4_len h
set_option maxHeartbeats 4000000 in
theorem pcr_rplain (hG : Stable G) (hx : X < 4294967296 ^ L) (hL : L < 3000) (hs : s ≤ 60) : PCr Tryz.prog G 122 [MD b X s] (.str ⟨(DecT.pd X s).toArray⟩) := by
  have l1 := wd4_lt hx
  have ht := pcr_rtext hG X (by omega)
  have hdl := nm_dlen (nm_N hx)
  have h0 := dec_pos X
  unfold DecT.pd
  generalize Lib.decDigits X = l at *
  refine pcr_byq ok122 hG (n := 15) (rv := [.tmp 2]) fun r hr => ?_; unfold c122 st0
  (refine xwalk ?_)
  refine awp_loop (fun k σ => ∃ j : Nat, j ≤ s + 1 - l.length ∧ k = s + 1 - l.length - j ∧
      σ = ⟨(putE (putE (putE un0 (some 1) (.ptr 0 0 0)) (some 2) (.str ⟨#[]⟩)) (some 3) (.str ⟨(List.replicate j 48 ++ l).toArray⟩)), [some (0, 50, 3, [.bool b, M X, .int .i64 (s : Int)])]⟩) (s + 1 - l.length)
      (Ent.env (less_put (less_put (less_put (less_un0 _) ?_) ?_) ?_)) ⟨0, Nat.zero_le _, rfl, rfl⟩ ?_
  iterate 3 (· exact xlq)
  rintro k σ1 ⟨j, hj, rfl, rfl⟩
  by_cases hc : j < s + 1 - l.length
  · (refine xwalk ?_)
    refine ⟨s + 1 - l.length - (j + 1), _, by omega, Ent.env (less_put (less_put (less_put (less_un0 _) ?_) ?_) ?_), j + 1, by omega, rfl, rfl⟩
    iterate 2 (· exact xlq)
    show _ = D.str ⟨(48 :: (List.replicate j 48 ++ l)).toArray⟩
    exact xlq
  · obtain rfl : j = s + 1 - l.length := by omega
    (exact xwalkd)
theorem pd_lenM : (DecT.pd X s).length - s ≤ (DecT.pd X s).length := Nat.sub_le _ _
theorem pcr_dpartR (hG : Stable G) (hx : X < 4294967296 ^ L) (hL : L < 3000) (hs : s ≤ 60) : PCr Tryz.prog G 52 [MD b X s] (.str ⟨(pp X s).toArray⟩) := by
  have hp := pcr_rplain (b := b) hG hx hL hs
  have h3 := pd_len (X := X) (s := s)
  have hdl := nm_dlen (nm_N hx)
  unfold pp
  generalize DecT.pd X s = l at *
  have e1 : ((l.length : Int) - s).toNat = l.length - s := by omega
  refine pcr_byq ok52 hG (n := 13) (rv := [.tmp 2]) fun r hr => ?_; unfold c52 st0
  (refine xwalk ?_)
  refine xrt ?_
  rw [hr, ext_mk]
  refine congrArg (fun q : List UInt8 => D.str ⟨q.toArray⟩) ?_
  rw [e1]
  exact List.take_of_length_le (by rw [List.length_drop]; simp)
set_option maxHeartbeats 4000000 in
theorem pcr_dtextR (hG : Stable G) (hx : X < 4294967296 ^ L) (hL : L < 3000) (hs : s ≤ 60) : PCr Tryz.prog G 46 [MD b X s] (.str ⟨(dT b X s).toArray⟩) := by
  have hp := pcr_rplain (b := b) hG hx hL hs
  have h3 := pd_len (X := X) (s := s)
  have hdl := nm_dlen (nm_N hx)
  unfold dT pw pp
  generalize DecT.pd X s = l at *
  have e0 : (l.length : Int) - s = ((l.length - s : Nat) : Int) := by omega
  have e1 : (⟨l.toArray⟩ : ByteArray).extract 0 (l.length - s) = ⟨(l.take (l.length - s)).toArray⟩ := by rw [ext_mk]; rfl
  have e2 : (⟨l.toArray⟩ : ByteArray).extract (l.length - s) l.length = ⟨(l.drop (l.length - s)).toArray⟩ := by
    rw [ext_mk]
    refine congrArg (fun q : List UInt8 => (⟨q.toArray⟩ : ByteArray)) ?_
    exact List.take_of_length_le (by rw [List.length_drop]; simp)
  have l1 : (l.take (l.length - s)).length = l.length - s := by rw [List.length_take]; omega
  have l2 : (l.drop (l.length - s)).length = s := by rw [List.length_drop]; omega
  by_cases h0 : s = 0
  · rw [if_pos h0, List.append_nil]
    cases b
    · refine pcr_byq ok46 hG (n := 30) (rv := [.tmp 2]) fun r hr => ?_; unfold c46 st0
      (have we1 := e0; have we2 := @Int.toNat_natCast; have we3 := @Int.toNat_zero; have we4 := e1; have we5 := e2; have we6 := l1; have we7 := l2; refine xwalk7 ?_)
      refine xrt ?_
      rw [hr, List.take_of_length_le (show l.length ≤ l.length - s by omega)]; rfl
    · refine pcr_byq ok46 hG (n := 30) (rv := [.tmp 2]) fun r hr => ?_; unfold c46 st0
      (have we1 := e0; have we2 := @Int.toNat_natCast; have we3 := @Int.toNat_zero; have we4 := e1; have we5 := e2; have we6 := l1; have we7 := l2; refine xwalk7 ?_)
      refine xrt ?_
      rw [hr, List.take_of_length_le (show l.length ≤ l.length - s by omega)]; rfl
  · rw [if_neg h0]
    cases b
    · refine pcr_byq ok46 hG (n := 30) (rv := [.tmp 2]) fun r hr => ?_; unfold c46 st0
      (have we1 := e0; have we2 := @Int.toNat_natCast; have we3 := @Int.toNat_zero; have we4 := e1; have we5 := e2; have we6 := l1; have we7 := l2; refine xwalk7 ?_)
      refine xrt ?_
      rw [hr]; simp
    · refine pcr_byq ok46 hG (n := 30) (rv := [.tmp 2]) fun r hr => ?_; unfold c46 st0
      (have we1 := e0; have we2 := @Int.toNat_natCast; have we3 := @Int.toNat_zero; have we4 := e1; have we5 := e2; have we6 := l1; have we7 := l2; refine xwalk7 ?_)
      refine xrt ?_
      rw [hr]; simp
theorem pcr_dwholeR (hG : Stable G) (hx : X < 4294967296 ^ L) (hL : L < 3000) (hs : s ≤ 60) : PCr Tryz.prog G 51 [MD b X s] (M (X / 10 ^ s)) := by
  have l1 := wd4_lt hx
  have l2 := wd4_ten hs
  have ht := pcr_rten hG s (by omega)
  have hd := pcr_rdiv hG X (10 ^ s) (ten_ne s) (by omega) (by omega)
  refine pcr_byq ok51 hG (n := 15) (rv := [.tmp 2]) fun r hr => ?_; unfold c51 st0
  (exact xwalkd)
theorem pcr_dratR (hG : Stable G) (hx : X < 4294967296 ^ L) (hL : L < 3000) (hs : s ≤ 60) : PCr Tryz.prog G 48 [MD b X s] (MQ (dq b X s)) := by
  have h1 := pcr_zof hG b X
  have h2 := pcr_rten hG s (by omega)
  have h3 := pcr_qof hG (z := sg b X) (L := L) (by rw [sg_abs]; exact hx) (ten_lt hs) (ten_ne s) (by omega) (by omega)
  unfold dq
  refine pcr_byq ok48 hG (n := 12) (rv := [.cell 2 true 3]) fun r hr => ?_; unfold c48 st0
  (exact xwalkd)
set_option maxHeartbeats 4000000 in
theorem pcr_dshortR (hG : Stable G) (hk : Dok b X s) (hx : X < 4294967296 ^ L) (hL : L < 3000) : PCr Tryz.prog G 53 [MD b X s] (MD b (sh X s).1 (sh X s).2) := by
  have h10 := pcr_rsmall hG 10 (by omega)
  rw [show ((10 : Nat) : Int) = 10 from rfl] at h10
  refine pcr_byq ok53 hG (n := 32) (rv := [.cell 2 true 3]) fun r hr => ?_; unfold c53 st0
  (refine xwalk ?_)
  refine awp_loop (fun k σ => ∃ (X1 s1 : Nat), k = s1 ∧ s1 ≤ 60 ∧ X1 < 4294967296 ^ L ∧ (b = true → X1 ≠ 0) ∧ sh X s = sh X1 s1 ∧
      σ = ⟨(putE (putE un0 (some 1) (.ptr 0 0 0)) (some 2) (.ptr 1 0 0)), [some (0, 50, 3, [.bool b, M X1, .int .i64 (s1 : Int)]), some (0, 50, 3, [.bool false, .nils, .int .i64 0])]⟩) s
      (Ent.env (less_put (less_put (less_un0 _) ?_) ?_)) ⟨X, s, rfl, hk.2, hx, hk.1, rfl, rfl⟩ ?_
  iterate 2 (· exact xlq)
  rintro k σ1 ⟨X1, s1, rfl, hs1, hX1, hb1, hsh, rfl⟩
  have l1 := wd4_lt hX1
  have l2 : (wd 10000 10).length ≤ 3 := wd4_len (n := 1) (by decide)
  have hdv := pcr_rdiv hG X1 10 (by omega) (by omega) (by omega)
  cases k with
  | zero =>
    rw [hsh] at hr
    (exact xwalkd)
  | succ j =>
    have hX2 : X1 / 10 < 4294967296 ^ L := by omega
    by_cases h0 : X1 % 10 = 0
    · have hl0 : (wd 10000 (X1 % 10)).length = 0 := by rw [h0, wd_zero]; rfl
      cases b
      · (refine xwalk ?_)
        refine ⟨j, _, by omega, Ent.env (less_put (less_put (less_un0 _) ?_) ?_), X1 / 10, j, rfl, by omega, hX2, (fun h => by cases h), ?_, rfl⟩
        iterate 2 (· exact xlq)
        rw [hsh, sh, if_pos h0]
      · have hX0 : X1 / 10 ≠ 0 := by have := hb1 rfl; omega
        have hl1 := wd4_pos hX0
        (refine xwalk ?_)
        refine ⟨j, _, by omega, Ent.env (less_put (less_put (less_un0 _) ?_) ?_), X1 / 10, j, rfl, by omega, hX2, (fun _ => hX0), ?_, rfl⟩
        iterate 2 (· exact xlq)
        rw [hsh, sh, if_pos h0]
    · have hl0 := wd4_pos h0
      rw [hsh, sh, if_neg h0] at hr
      (exact xwalkd)
def mOf (b : Bool) : Option (Nat × Nat) → D
  | some (q, k) => .tup [MD b q k, .bool true]
  | none => .tup [MD false 0 0, .bool false]
theorem ten_one : Lib.decDigits 1 = [49] := by simp [Lib.decDigits]
theorem text_one {n : Nat} : ((⟨(Lib.decDigits n).toArray⟩ : ByteArray) = (⟨#[49]⟩ : ByteArray)) = (n = 1) := propext ⟨fun h => dec_one (congrArg (fun b : ByteArray => b.data.toList) h), fun h => by rw [h, ten_one]⟩
theorem gcd_one {n d : Nat} (hd : d ≠ 0) : d / Nat.gcd n d = 1 ↔ n % d = 0 := by
  have hg : 0 < Nat.gcd n d := Nat.gcd_pos_of_pos_right _ (by omega)
  constructor
  · intro h
    have h1 := Nat.div_mul_cancel (Nat.gcd_dvd_right n d)
    rw [h, Nat.one_mul] at h1
    exact Nat.mod_eq_zero_of_dvd (h1 ▸ Nat.gcd_dvd_left n d)
  · intro h
    rw [Nat.gcd_comm, Nat.gcd_eq_left (Nat.dvd_of_mod_eq_zero h)]
    exact Nat.div_self (by omega)
theorem mul_ten (x : Rat) (k : Nat) : x * ((10 ^ k : Nat) : Rat) = mkRat (sg (ng x.num) (x.num.natAbs * 10 ^ k)) x.den := by
  rw [Rat.mul_def', ← sg_mul, sg_self]
  simp
theorem of_den (x : Rat) (k : Nat) : (x * ((10 ^ k : Nat) : Rat)).den = 1 ↔ x.num.natAbs * 10 ^ k % x.den = 0 := by
  rw [mul_ten, mk_den x.den_nz, gcd_one x.den_nz]
theorem of_num (x : Rat) (k : Nat) (h : x.num.natAbs * 10 ^ k % x.den = 0) : (x * ((10 ^ k : Nat) : Rat)).num = sg (ng x.num) (x.num.natAbs * 10 ^ k / x.den) := by
  rw [mul_ten, mk_num x.den_nz, Nat.gcd_comm, Nat.gcd_eq_left (Nat.dvd_of_mod_eq_zero h)]
theorem of_ng (x : Rat) (k : Nat) (h : x.num.natAbs * 10 ^ k % x.den = 0) : ng (x * ((10 ^ k : Nat) : Rat)).num = ng x.num ∧ (x * ((10 ^ k : Nat) : Rat)).num.natAbs = x.num.natAbs * 10 ^ k / x.den := by
  rw [of_num x k h, sg_abs, sg_neg]
  refine ⟨?_, rfl⟩
  cases hn : ng x.num
  · rfl
  · have h1 : x.num < 0 := of_decide_eq_true hn
    have h2 : x.num.natAbs * 10 ^ k ≠ 0 := Nat.mul_ne_zero (by omega) (ten_ne k)
    rw [Bool.true_and]
    refine decide_eq_true fun h3 => h2 ?_
    have := Nat.div_mul_cancel (Nat.dvd_of_mod_eq_zero h)
    rw [h3, Nat.zero_mul] at this
    exact this.symm
theorem qm_tenN (hs : s ≤ 60) : Qm 7 ((10 ^ s : Nat) : Rat) (QD ((10 ^ s : Nat) : Rat)) := qm_QD (by omega) (by rw [show (((10 ^ s : Nat) : Rat)).num = ((10 ^ s : Nat) : Int) from rfl, Int.natAbs_natCast]; exact ten_lt hs) (by show 1 < _; decide)
theorem MQ_ten (s : Nat) : MQ ((10 ^ s : Nat) : Rat) = .agg [.bool false, M (10 ^ s), M 1] := by
  unfold MQ
  rw [show (((10 ^ s : Nat) : Rat)).num = ((10 ^ s : Nat) : Int) from rfl, Int.natAbs_natCast, show (((10 ^ s : Nat) : Rat)).den = 1 from rfl]
  rw [show ng ((10 ^ s : Nat) : Int) = false from decide_eq_false (Int.not_lt.2 (Int.natCast_nonneg _))]
end Go.Proofs.YtapikjmijmebpaaGreatDoorK.RefT
/-
  The document's numerals: DOf, DParse: what they compute.
-/
namespace Go.Proofs.YtapikjmijmebpaaGreatDoorK.RefT
open Go.Proofs.YtapikjmijmebpaaGreatDoorK.AI Go.Proofs.YtapikjmijmebpaaGreatDoorK.NatIr Go.Proofs.YtapikjmijmebpaaGreatDoorK.Dig Go.Proofs.YtapikjmijmebpaaGreatDoorK.NatT Go.Proofs.YtapikjmijmebpaaGreatDoorK.NumT Go.Proofs.YtapikjmijmebpaaGreatDoorK.RatT Go.Proofs.YtapikjmijmebpaaGreatDoorK.DecT
set_option linter.unusedSimpArgs false
attribute [local irreducible] awp awpOps
attribute [local go_sem] getO putE_same putE_ne putE_none un0_at ini_zero ini_one ini_two ini_three ne_eq not_false_eq_true Nat.zero_ne_one Nat.one_ne_zero zero_ne_succ succ_ne_zero sym_nil sym_cons symG_call symG_op symG_skip IOp.isCall gd st_mv st_pick st_new st_box st_build st_lit st_load st_store st_faddr st_fld st_iaddrS st_iaddrA st_idxs st_bin st_beq st_neg st_not st_conv st_slcS st_slcL st_make st_app st_lenS st_lenL st_mx st_mn st_ext st_nilck st_bstr byD pureC loadC setH hv boundO D.cells D.one D.boxable fillD putD rowD binC intBinC decT decF dec_true dec_false bne_self_eq_false beq_self_eq_true beq_true_false beq_false_true bne_iff_ne List.length_nil List.length_cons List.getD_cons_zero List.getD_cons_succ List.set_cons_zero List.set_cons_succ List.all_cons List.all_nil Bool.and_true Bool.true_and Nat.lt_irrefl Nat.sub_self Nat.zero_add Nat.add_zero Nat.mul_one Nat.lt_add_one if_true if_false List.replicate_zero List.nil_append List.cons_append List.append_nil List.map_cons List.map_nil Bool.false_eq_true or_self or_true true_or or_false false_or true_and and_true and_self Int.ofNat_zero wrap_i64 wrap_u32 wrap_u64 wrap_u8 wrap_u32_mod wrap_u64_mod Nat.zero_lt_one Int.toNat_natCast Int.sub_zero toNat_pred List.take_succ_cons List.take_zero List.drop_succ_cons List.drop_zero List.take_nil List.drop_nil Nat.le_refl List.length_singleton rvDs rvD ldD one? Option.bind_some Option.map_some resD_int resD_bool resD_str resD_sl resD_rp resD_nils resD_null resD_agg resD_tup resD_own rdOwn resD_ptr rdPtr rd_ite resL_eq go_nil go_cons D.imm resArgs shr32 shl32 Nat.zero_mul Bool.and_self Bool.and_false Bool.false_and strBin_eql strBin_neq Bool.not_true Bool.not_false i64max List.length_reverse List.length_set SS_length SS_getD SS_set SS_take SS_drop SS_imm SS_one SS_app1 W_get1 W_len1 W_getD W_set W_take W_drop W_app W_length W_imm W_one W_repl N mx_nat toNat_succ toNat_add toNat_pred2 tdiv_nn tmod_nn List.take_of_length_le cast_succ and_one or_shl32 min64 shr32b shl32b IntKind.bits
attribute [local go_sem] V_getD V_set V_take V_drop V_imm V_one V_app V_app1 V_repl V_get1 V_length M List.length_append
attribute [local go_sem] nl ZD MZ
attribute [local go_sem] QD MQ
attribute [local go_sem] MD List.size_toArray ba_size RatT.ba_app List.length_append List.length_replicate Int.add_sub_cancel not_true_eq_false not_false_eq_true
variable {G : World → Prop} {L M' X Y s : Nat} {x r : Rat} {b : Bool} {d e : D}
@[local simp] theorem kb_M2 (k X : Nat) : kb k (M X) := by simp [M, kb, kbs_V]
set_option maxHeartbeats 8000000 in
theorem pcr_dofR (hG : Stable G) (hx : Qm L x d) (hL : L < 300) (most : Int) : PCr Tryz.prog G 44 [MQ x, .int .i64 most] (mOf (ng x.num) (loM x.num.natAbs x.den (far most) 0)) := by
  have h1 := pcr_rsmall hG 1 (by omega)
  rw [show ((1 : Nat) : Int) = 1 from rfl] at h1
  have hM : far most ≤ 60 := by unfold far; omega
  have hfar : (max most 0 ≤ 60 ∧ max most 0 = (far most : Nat)) ∨ (60 < max most 0 ∧ far most = 60) := by unfold far; omega
  generalize far most = m at *
  have hxs := hx.self
  refine pcr_byq ok44 hG (n := 37) (rv := [.cell 4 true 3, .tmp 5]) fun r hr => ?_; unfold c44 st0
  refine xctl ?_
  refine xrg ?_
  refine xctl1 ?_
  refine awp_seq_mid (fun σ => σ = ⟨(putE (putE (putE (putE un0 (some 1) (.int .i64 (max most 0))) (some 2) (.ptr 0 0 0)) (some 4) (.ptr 1 0 0)) (some 5) (.bool false)), [some (0, 38, 3, [.bool (ng x.num), M x.num.natAbs, M x.den]), some (0, 50, 3, [.bool false, .nils, .int .i64 0])]⟩) ?_ ?_
  rotate_left
  · by_cases h0 : most < 0
    · (refine xwalk ?_)
      refine ⟨_, Nat.zero_le _, Ent.env (less_put (less_put (less_put (less_put (less_un0 _) ?_) ?_) ?_) ?_), rfl⟩
      · rw [show max most 0 = 0 by omega]; exact xlq
      iterate 3 (· exact xlq)
    · (refine xwalk ?_)
      refine ⟨_, Nat.zero_le _, Ent.env (less_put (less_put (less_put (less_put (less_un0 _) ?_) ?_) ?_) ?_), rfl⟩
      · rw [show max most 0 = most by omega]; exact xlq
      iterate 3 (· exact xlq)
  rintro σ rfl
  refine awp_seq_mid (fun σ => σ = ⟨(putE (putE (putE (putE un0 (some 1) (.int .i64 (m : Int))) (some 2) (.ptr 0 0 0)) (some 4) (.ptr 1 0 0)) (some 5) (.bool false)), [some (0, 38, 3, [.bool (ng x.num), M x.num.natAbs, M x.den]), some (0, 50, 3, [.bool false, .nils, .int .i64 0])]⟩) ?_ ?_
  rotate_left
  · generalize max most 0 = ms at *
    rcases hfar with ⟨h2, h3⟩ | ⟨h2, h3⟩
    · subst h3
      (refine xwalk ?_)
      refine ⟨_, Nat.zero_le _, Ent.env (less_put (less_put (less_put (less_put (less_un0 _) ?_) ?_) ?_) ?_), rfl⟩
      iterate 4 (· exact xlq)
    · subst h3
      (refine xwalk ?_)
      refine ⟨_, Nat.zero_le _, Ent.env (less_put (less_put (less_put (less_put (less_un0 _) ?_) ?_) ?_) ?_), rfl⟩
      · show _ = D.int .i64 60
        exact xlq
      iterate 3 (· exact xlq)
  rintro σ rfl
  (refine xwalk ?_)
  refine awp_loop (fun k σ => ∃ i : Nat, i ≤ m + 1 ∧ k = m + 1 - i ∧ loM x.num.natAbs x.den m 0 = loM x.num.natAbs x.den m i ∧
      σ = ⟨(putE (putE (putE (putE (putE un0 (some 1) (.int .i64 (m : Int))) (some 2) (.ptr 0 0 0)) (some 4) (.ptr 1 0 0)) (some 5) (.bool false)) (some 6) (.int .i64 (i : Int))), [some (0, 38, 3, [.bool (ng x.num), M x.num.natAbs, M x.den]), some (0, 50, 3, [.bool false, .nils, .int .i64 0])]⟩) (m + 1)
      (Ent.env (less_put (less_put (less_put (less_put (less_put (less_un0 _) ?_) ?_) ?_) ?_) ?_)) ⟨0, by omega, rfl, rfl, rfl⟩ ?_
  iterate 4 (· exact xlq)
  · show _ = D.int .i64 ((0 : Nat) : Int)
    exact xlq
  rintro k σ1 ⟨i, hi1, rfl, hlo, rfl⟩
  by_cases him : i ≤ m
  · have ht := pcr_rten hG i (by omega)
    have hmu := pcr_qmul hG hxs (qm_tenN (s := i) (by omega)) (by omega) (by omega)
    have hml := (qm_mul hxs (qm_tenN (s := i) (by omega))).lt
    rw [MQ_ten] at hmu
    have hdl := wd4_lt hml.2
    have htx := pcr_rtext hG (x * ((10 ^ i : Nat) : Rat)).den (by omega)
    have e1 := text_one (n := (x * ((10 ^ i : Nat) : Rat)).den)
    have hden := of_den x i
    by_cases h0 : x.num.natAbs * 10 ^ i % x.den = 0
    · rw [eq_true (hden.2 h0)] at e1
      rw [hlo, loM_hit him h0, mOf] at hr
      have hng := of_ng x i h0
      (have we1 := e1; refine xwalk1 ?_)
      refine xrt ?_
      rw [hr, hng.1, hng.2]; rfl
    · rw [eq_false (mt hden.1 h0)] at e1
      (have we1 := e1; refine xwalk1 ?_)
      refine ⟨m + 1 - (i + 1), _, by omega, (Ent.cutk 2 (less_put (less_put (less_put (less_put (less_put (less_un0 _) ?_) ?_) ?_) ?_) ?_) (by exact ⟨.inr rfl, .inr rfl, trivial⟩) (kb_put (kb_put (kb_put (kb_put (kb_put (kb_un0 _) (by simp [kb])) (by simp [kb])) (by simp [kb])) (by simp [kb])) (by simp [kb])) (by simp [kbH, kb.kbs, kb, kbs_W, kbs_SS])), i + 1, by omega, rfl, ?_, rfl⟩
      iterate 5 (· exact xlq)
      rw [hlo, loM_next him h0]
  · rw [hlo, loM, if_neg him, mOf, MD_zero] at hr
    (exact xwalkd)
theorem pcr_rnp (hG : Stable G) (l : List UInt8) (hs : l.length < 300000) : PCr Tryz.prog G 121 [.str ⟨l.toArray⟩] (.tup [M (if pgd l = true then decV l else 0), .bool (pgd l)]) := by
  by_cases h : pgd l = true
  · rw [if_pos h, h]
    exact pcr_rparse1 hG ⟨l.toArray⟩ (by rw [ba_size]; exact hs) (pgd_iff.1 h)
  · rw [if_neg h, Bool.eq_false_iff.2 h]
    exact pcr_rparse0 hG ⟨l.toArray⟩ (by rw [ba_size]; exact hs) (fun h2 => h (pgd_iff.2 h2))
theorem cut_at (c : UInt8) (l : List UInt8) : ∃ n, n ≤ l.length ∧ (∀ j, j < n → l.getD j 0 ≠ c) ∧ ((n = l.length ∧ cut1 c l = (l, [], false)) ∨ (n < l.length ∧ l.getD n 0 = c ∧ cut1 c l = (l.take n, l.drop (n + 1), true))) := by
  have hno : ∀ (a b : List UInt8), c ∉ a → ∀ j, j < a.length → (a ++ b).getD j 0 ≠ c := by
    intro a b ha j hj h
    rw [List.getD_eq_getElem?_getD, List.getElem?_append_left hj, List.getElem?_eq_getElem hj] at h
    exact ha (h ▸ List.getElem_mem hj)
  by_cases h : c ∈ l
  · obtain ⟨a, b, rfl, ha⟩ := List.eq_append_cons_of_mem h
    refine ⟨a.length, by simp, hno a _ ha, .inr ⟨by simp, ?_, ?_⟩⟩
    · simp [List.getD_eq_getElem?_getD]
    · rw [cut1_at c a b ha]; simp
  · refine ⟨l.length, Nat.le_refl _, ?_, .inl ⟨rfl, cut1_none c l h⟩⟩
    have := hno l [] h
    rwa [List.append_nil] at this
theorem minus (s : ByteArray) : (s.size = 0 ∧ Lib.hasPrefix s.data.toList [45] = false ∧ s = ⟨(Lib.trimPrefix s.data.toList [45]).toArray⟩) ∨
    (0 < s.size ∧ bt s 0 = 45 ∧ Lib.hasPrefix s.data.toList [45] = true ∧ s.extract 1 s.size = ⟨(Lib.trimPrefix s.data.toList [45]).toArray⟩) ∨
    (0 < s.size ∧ ¬ bt s 0 = 45 ∧ Lib.hasPrefix s.data.toList [45] = false ∧ s = ⟨(Lib.trimPrefix s.data.toList [45]).toArray⟩) := by
  have hlen := ba_len s
  have hbt := bt_get s 0
  have same : ∀ l, s.data.toList = l → s = ⟨l.toArray⟩ := fun l h => ba_ext h
  cases hl : s.data.toList with
  | nil => exact .inl ⟨by rw [← hlen, hl]; rfl, rfl, same _ hl⟩
  | cons c l =>
    have hs0 : 0 < s.size := by rw [← hlen, hl]; simp
    rw [hl, List.getD_cons_zero] at hbt
    by_cases hc : c = 45
    · subst hc
      refine .inr (.inl ⟨hs0, hbt, rfl, ?_⟩)
      refine ba_ext ?_
      have hsz : s.size = l.length + 1 := by rw [← hlen, hl]; rfl
      rw [ext_list, hl, hsz]
      show _ = l
      simp
    · have hp : Lib.hasPrefix (c :: l) [45] = false := by simp [Lib.hasPrefix, List.isPrefixOf, Ne.symm hc]
      refine .inr (.inr ⟨hs0, ?_, hp, ?_⟩)
      · intro h
        rw [hbt] at h
        exact hc (UInt8.toNat_inj.1 (by rw [show (45 : UInt8).toNat = 45 from rfl]; omega))
      · rw [Lib.trimPrefix, hp]
        exact same _ hl
def mRes : Option (Bool × Nat × Nat) → D
  | some (b, X, k) => .tup [MD b X k, .int .i64 0]
  | none => .tup [MD false 0 0, .int .i64 2]
def mPE (s : ByteArray) : D := if 256 < s.size then .tup [MD false 0 0, .int .i64 11] else mRes (dP s.data.toList)
set_option maxHeartbeats 16000000 in
theorem pcr_dparseR (hG : Stable G) (s : ByteArray) (hs : s.size ≤ 9223372036854775807) : PCr Tryz.prog G 41 [.str s] (mPE s) := by
  unfold mPE
  by_cases h0 : 256 < s.size
  · rw [if_pos h0, MD_zero]
    refine pcr_byq ok41 hG (n := 80) (rv := [.cell 2 true 3, .tmp 3]) fun r hr => ?_; unfold c41 st0
    (exact xwalkd)
  rw [if_neg h0]
  have hl : s.data.toList.length = s.size := ba_len s
  have hm := minus s
  rw [dP_eq]
  have htl := NumT.trim_le s.data.toList [45]
  generalize Lib.trimPrefix s.data.toList [45] = t at *
  generalize Lib.hasPrefix s.data.toList [45] = neg at *
  obtain ⟨n, hn, hbt, hcut⟩ := cut_at 46 t
  have hb2 : ∀ j, j < n → ¬ bt ⟨t.toArray⟩ j = 46 := fun j hj h => hbt j hj (UInt8.toNat_inj.1 (by rw [bt_get] at h; rw [show (46 : UInt8).toNat = 46 from rfl]; exact Int.ofNat.inj h))
  refine pcr_byq ok41 hG (n := 80) (rv := [.cell 2 true 3, .tmp 3]) fun r hr => ?_; unfold c41 st0
  refine xctl ?_
  refine xrg ?_
  refine xctl ?_
  refine xrg ?_
  refine xctl ?_
  refine xcF ?_
  refine xctl1 ?_
  refine awp_seq_mid (fun σ => σ = ⟨(putE (putE (putE (putE un0 (some 0) (.str s)) (some 2) (.ptr 0 0 0)) (some 3) (.int .i64 0)) (some 4) (.bool neg)), [some (0, 50, 3, [.bool false, .nils, .int .i64 0])]⟩) ?_ ?_
  rotate_left
  · rcases hm with ⟨h1, rfl, _⟩ | ⟨h1, h2, rfl, _⟩ | ⟨h1, h2, rfl, _⟩
    · (refine xwalk ?_)
      refine ⟨_, Nat.zero_le _, Ent.env (less_put (less_put (less_put (less_put (less_un0 _) ?_) ?_) ?_) ?_), rfl⟩
      iterate 4 (· exact xlq)
    · (refine xwalk ?_)
      refine ⟨_, Nat.zero_le _, Ent.env (less_put (less_put (less_put (less_put (less_un0 _) ?_) ?_) ?_) ?_), rfl⟩
      iterate 4 (· exact xlq)
    · (refine xwalk ?_)
      refine ⟨_, Nat.zero_le _, Ent.env (less_put (less_put (less_put (less_put (less_un0 _) ?_) ?_) ?_) ?_), rfl⟩
      iterate 4 (· exact xlq)
  rintro σ rfl
  refine awp_seq_mid (fun σ => σ = ⟨(putE (putE (putE (putE un0 (some 0) (.str ⟨t.toArray⟩)) (some 2) (.ptr 0 0 0)) (some 3) (.int .i64 0)) (some 4) (.bool neg)), [some (0, 50, 3, [.bool false, .nils, .int .i64 0])]⟩) ?_ ?_
  rotate_left
  · rcases hm with ⟨h1, rfl, h3⟩ | ⟨h1, h2, rfl, h3⟩ | ⟨h1, h2, rfl, h3⟩
    · (refine xwalk ?_)
      refine ⟨_, Nat.zero_le _, Ent.env (less_put (less_put (less_put (less_put (less_un0 _) ?_) ?_) ?_) ?_), rfl⟩
      · rw [← h3]; exact xlq
      iterate 3 (· exact xlq)
    · (have we1 := h3; refine xwalk1 ?_)
      refine ⟨_, Nat.zero_le _, Ent.env (less_put (less_put (less_put (less_put (less_un0 _) ?_) ?_) ?_) ?_), rfl⟩
      iterate 4 (· exact xlq)
    · (refine xwalk ?_)
      refine ⟨_, Nat.zero_le _, Ent.env (less_put (less_put (less_put (less_put (less_un0 _) ?_) ?_) ?_) ?_), rfl⟩
      · rw [← h3]; exact xlq
      iterate 3 (· exact xlq)
  rintro σ rfl
  refine xctl ?_
  refine xrg ?_
  refine xctl1 ?_
  refine awp_seq_mid (fun σ => σ = ⟨(putE (putE (putE (putE (putE un0 (some 0) (.str ⟨t.toArray⟩)) (some 2) (.ptr 0 0 0)) (some 3) (.int .i64 0)) (some 4) (.bool neg)) (some 5) (.int .i64 (n : Int))), [some (0, 50, 3, [.bool false, .nils, .int .i64 0])]⟩) ?_ ?_
  rotate_left
  · refine xctl ?_
    refine awp_loop (fun k σ => ∃ i : Nat, i ≤ n ∧ k = n - i ∧ σ = ⟨(putE (putE (putE (putE (putE un0 (some 0) (.str ⟨t.toArray⟩)) (some 2) (.ptr 0 0 0)) (some 3) (.int .i64 0)) (some 4) (.bool neg)) (some 5) (.int .i64 (i : Int))), [some (0, 50, 3, [.bool false, .nils, .int .i64 0])]⟩) n
      (Ent.env (less_put (less_put (less_put (less_put (less_put (less_un0 _) ?_) ?_) ?_) ?_) ?_)) ⟨0, Nat.zero_le _, rfl, rfl⟩ ?_
    iterate 4 (· exact xlq)
    · show _ = D.int .i64 ((0 : Nat) : Int)
      exact xlq
    rintro k σ1 ⟨i, hi, rfl, rfl⟩
    by_cases hlt : i < n
    · have hbi := hb2 i hlt
      (refine xwalk ?_)
      refine ⟨n - (i + 1), _, by omega, Ent.env (less_put (less_put (less_put (less_put (less_put (less_un0 _) ?_) ?_) ?_) ?_) ?_), i + 1, by omega, rfl, rfl⟩
      iterate 4 (· exact xlq)
      · simp only [go_sem, Nat.reduceEqDiff, Nat.reduceAdd, Nat.reduceLT, Nat.reduceMul, Nat.reduceLeDiff, reduceCtorEq, Int.reduceNeg, Int.reduceToNat]
    · obtain rfl : i = n := by omega
      rcases hcut with ⟨hc, _⟩ | ⟨hc, hc2, _⟩
      · (refine xwalk ?_)
        refine ⟨_, Nat.zero_le _, Ent.env (less_put (less_put (less_put (less_put (less_put (less_un0 _) ?_) ?_) ?_) ?_) ?_), rfl⟩
        iterate 5 (· exact xlq)
      · have hbi : bt ⟨t.toArray⟩ i = 46 := by rw [bt_get]; show ((t.getD i 0).toNat : Int) = 46; rw [hc2]; rfl
        (refine xwalk ?_)
        refine ⟨_, Nat.zero_le _, Ent.env (less_put (less_put (less_put (less_put (less_put (less_un0 _) ?_) ?_) ?_) ?_) ?_), rfl⟩
        iterate 5 (· exact xlq)
  rintro σ rfl
  rcases hcut with ⟨hc, hcu⟩ | ⟨hc, hc2, hcu⟩
  · subst hc
    rw [hcu] at hr
    dsimp only at hr
    have e1 : (⟨t.toArray⟩ : ByteArray).extract 0 t.length = ⟨t.toArray⟩ := by rw [ext_mk]; simp
    have e2 : (⟨t.toArray⟩ : ByteArray) ++ (⟨#[]⟩ : ByteArray) = ⟨t.toArray⟩ := by rw [show (⟨#[]⟩ : ByteArray) = ⟨([] : List UInt8).toArray⟩ from rfl, ba_app, List.append_nil]
    have n1 := pcr_rnp hG t (by omega)
    cases ha : pgd t
    · rw [ha] at n1
      rw [ha, if_neg (by simp), mRes, MD_zero] at hr
      rw [if_neg (by simp)] at n1
      (have we1 := e1; have we2 := e2; exact xwalkd2)
    · have h3 := pgd_iff.1 ha
      have e3 : ((⟨t.toArray⟩ : ByteArray) = (⟨#[]⟩ : ByteArray)) = False := by rw [ba_emp]; exact eq_false h3.1
      rw [ha, if_pos rfl] at n1
      rw [ha, if_pos (by simp), mRes, List.append_nil] at hr
      generalize decV t = X at *
      cases neg
      · (have we1 := e1; have we2 := e2; have we3 := e3; exact xwalkd3)
      · by_cases hX : X = 0
        · have hw : (wd 10000 X).length = 0 := by rw [hX, wd_zero]; rfl
          (have we1 := e1; have we2 := e2; have we3 := e3; refine xwalk3 ?_)
          refine xrt ?_
          rw [hr, Bool.true_and, decide_eq_false (fun h => h hX)]; rfl
        · have hw := wd4_pos hX
          (have we1 := e1; have we2 := e2; have we3 := e3; refine xwalk3 ?_)
          refine xrt ?_
          rw [hr, Bool.true_and, decide_eq_true hX]; rfl
  · rw [hcu] at hr
    dsimp only at hr
    have e1 : (⟨t.toArray⟩ : ByteArray).extract 0 n = ⟨(t.take n).toArray⟩ := by rw [ext_mk]; rfl
    have e2 : (⟨t.toArray⟩ : ByteArray).extract (n + 1) t.length = ⟨(t.drop (n + 1)).toArray⟩ := by
      rw [ext_mk, List.take_of_length_le (by rw [List.length_drop]; exact Nat.le_refl _)]
    have hw : (t.take n).length ≤ 256 := by rw [List.length_take]; omega
    have hp : (t.drop (n + 1)).length ≤ 256 := by rw [List.length_drop]; omega
    generalize t.take n = w at *
    generalize t.drop (n + 1) = p at *
    have n1 := pcr_rnp hG (w ++ p) (by rw [List.length_append]; omega)
    by_cases hp0 : p = []
    · subst hp0
      have e3 : ((⟨([] : List UInt8).toArray⟩ : ByteArray) = (⟨#[]⟩ : ByteArray)) = True := eq_true rfl
      have e4 : ((⟨#[]⟩ : ByteArray) = (⟨#[]⟩ : ByteArray)) = True := eq_true rfl
      rw [show pgd [] = false from rfl, if_neg (by simp), mRes, MD_zero] at hr
      (have we1 := e1; have we2 := e2; have we3 := e3; have we4 := e4; exact xwalkd4)
    have e3 : ((⟨p.toArray⟩ : ByteArray) = (⟨#[]⟩ : ByteArray)) = False := by rw [ba_emp]; exact eq_false hp0
    by_cases h6 : 60 < p.length
    · rw [decide_eq_false (show ¬ p.length ≤ 60 by omega), if_neg (by simp), mRes, MD_zero] at hr
      (have we1 := e1; have we2 := e2; have we3 := e3; exact xwalkd3)
    rw [decide_eq_true (show p.length ≤ 60 by omega)] at hr
    by_cases hw0 : w = []
    · subst hw0
      have e4 : ((⟨#[]⟩ : ByteArray) = (⟨#[]⟩ : ByteArray)) = True := eq_true rfl
      rw [show pgd [] = false from rfl, if_neg (by simp), mRes, MD_zero] at hr
      rw [List.nil_append] at n1
      cases ha : pgd p
      · rw [ha] at n1
        (have we1 := e1; have we2 := e2; have we3 := e3; have we4 := e4; exact xwalkd4)
      · rw [ha] at n1
        (have we1 := e1; have we2 := e2; have we3 := e3; have we4 := e4; exact xwalkd4)
    have e4 : ((⟨w.toArray⟩ : ByteArray) = (⟨#[]⟩ : ByteArray)) = False := by rw [ba_emp]; exact eq_false hw0
    cases ha : pgd (w ++ p)
    · rw [ha] at n1
      have hno : (pgd w && (!true || pgd p) && true) = false := by
        refine Bool.eq_false_iff.2 fun h => ?_
        simp at h
        have := pgd_app (pt := true) h.1 (fun _ => h.2) (fun h => by cases h)
        rw [ha] at this; cases this
      rw [hno, if_neg (by simp), mRes, MD_zero] at hr
      (have we1 := e1; have we2 := e2; have we3 := e3; have we4 := e4; exact xwalkd4)
    · have h3 := pgd_iff.1 ha
      have h4 : w.all isD = true ∧ p.all isD = true := by
        have := h3.2
        rwa [List.all_append, Bool.and_eq_true] at this
      rw [ha, if_pos rfl] at n1
      rw [pgd_iff.2 ⟨hw0, h4.1⟩, pgd_iff.2 ⟨hp0, h4.2⟩, if_pos (by simp), mRes] at hr
      generalize decV (w ++ p) = X at *
      cases neg
      · (have we1 := e1; have we2 := e2; have we3 := e3; have we4 := e4; exact xwalkd4)
      · by_cases hX : X = 0
        · have hw : (wd 10000 X).length = 0 := by rw [hX, wd_zero]; rfl
          (have we1 := e1; have we2 := e2; have we3 := e3; have we4 := e4; refine xwalk4 ?_)
          refine xrt ?_
          rw [hr, Bool.true_and, decide_eq_false (fun h => h hX)]; rfl
        · have hw := wd4_pos hX
          (have we1 := e1; have we2 := e2; have we3 := e3; have we4 := e4; refine xwalk4 ?_)
          refine xrt ?_
          rw [hr, Bool.true_and, decide_eq_true hX]; rfl
end Go.Proofs.YtapikjmijmebpaaGreatDoorK.RefT
