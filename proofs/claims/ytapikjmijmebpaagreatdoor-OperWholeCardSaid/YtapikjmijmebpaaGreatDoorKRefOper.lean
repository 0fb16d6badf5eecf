/-
  The document's letters: Abs, whole, Value: what they compute.
-/
import Derived.Test.YtapikjmijmebpaaGreatDoorKIrCubitref14
import Derived.Test.YtapikjmijmebpaaGreatDoorKIrCubitref18
import Derived.Test.YtapikjmijmebpaaGreatDoorKRefDec2
import Derived.Test.YtapikjmijmebpaaGreatDoorKOperA
set_option linter.all false
set_option linter.unusedVariables false
set_option linter.unusedSimpArgs false
set_option maxHeartbeats 4000000
namespace Go.Proofs.YtapikjmijmebpaaGreatDoorK.RefT
open Go.Proofs.YtapikjmijmebpaaGreatDoorK.AI Go.Proofs.YtapikjmijmebpaaGreatDoorK.NatIr Go.Proofs.YtapikjmijmebpaaGreatDoorK.Dig Go.Proofs.YtapikjmijmebpaaGreatDoorK.NatT Go.Proofs.YtapikjmijmebpaaGreatDoorK.NumT Go.Proofs.YtapikjmijmebpaaGreatDoorK.RatT Go.Proofs.YtapikjmijmebpaaGreatDoorK.DecT Go.Proofs.YtapikjmijmebpaaGreatDoorK.OperT
set_option linter.unusedSimpArgs false
attribute [local irreducible] awp awpOps
attribute [local go_sem] getO putE_same putE_ne putE_none un0_at ini_zero ini_one ini_two ini_three ne_eq not_false_eq_true Nat.zero_ne_one Nat.one_ne_zero zero_ne_succ succ_ne_zero sym_nil sym_cons symG_call symG_op symG_skip IOp.isCall gd st_mv st_pick st_new st_box st_build st_lit st_load st_store st_faddr st_fld st_iaddrS st_iaddrA st_idxs st_bin st_beq st_neg st_not st_conv st_slcS st_slcL st_make st_app st_lenS st_lenL st_mx st_mn st_ext st_nilck st_bstr byD pureC loadC setH hv boundO D.cells D.one D.boxable fillD putD rowD binC intBinC decT decF dec_true dec_false bne_self_eq_false beq_self_eq_true beq_true_false beq_false_true bne_iff_ne List.length_nil List.length_cons List.getD_cons_zero List.getD_cons_succ List.set_cons_zero List.set_cons_succ List.all_cons List.all_nil Bool.and_true Bool.true_and Nat.lt_irrefl Nat.sub_self Nat.zero_add Nat.add_zero Nat.mul_one Nat.lt_add_one if_true if_false List.replicate_zero List.nil_append List.cons_append List.append_nil List.map_cons List.map_nil Bool.false_eq_true or_self or_true true_or or_false false_or true_and and_true and_self Int.ofNat_zero wrap_i64 wrap_u32 wrap_u64 wrap_u8 wrap_u32_mod wrap_u64_mod Nat.zero_lt_one Int.toNat_natCast Int.sub_zero toNat_pred List.take_succ_cons List.take_zero List.drop_succ_cons List.drop_zero List.take_nil List.drop_nil Nat.le_refl List.length_singleton rvDs rvD ldD one? Option.bind_some Option.map_some resD_int resD_bool resD_str resD_sl resD_rp resD_nils resD_null resD_agg resD_tup resD_own rdOwn resD_ptr rdPtr rd_ite resL_eq go_nil go_cons D.imm resArgs shr32 shl32 Nat.zero_mul Bool.and_self Bool.and_false Bool.false_and strBin_eql strBin_neq Bool.not_true Bool.not_false i64max List.length_reverse List.length_set SS_length SS_getD SS_set SS_take SS_drop SS_imm SS_one SS_app1 W_get1 W_len1 W_getD W_set W_take W_drop W_app W_length W_imm W_one W_repl N mx_nat toNat_succ toNat_add toNat_pred2 tdiv_nn tmod_nn List.take_of_length_le cast_succ and_one or_shl32 min64 shr32b shl32b IntKind.bits
attribute [local go_sem] V_getD V_set V_take V_drop V_imm V_one V_app V_app1 V_repl V_get1 V_length M List.length_append
attribute [local go_sem] nl ZD MZ
attribute [local go_sem] QD MQ
attribute [local go_sem] MD List.size_toArray ba_size RatT.ba_app List.length_append not_true_eq_false not_false_eq_true
variable {G : World → Prop} {L M' X Y s : Nat} {x r : Rat} {b : Bool} {d e : D} {c : Int}
theorem pcr_abs (hG : Stable G) (x : Rat) : PCr Tryz.prog G 128 [MQ x] (.agg [.bool false, M x.num.natAbs, M x.den]) := by
  have h := pcr_zof hG false x.num.natAbs
  rw [MZ, sg_neg, sg_abs, Bool.false_and] at h
  refine pcr_by hG (fn := Tryz.f128) (n := 10) (rv := [.cell 2 true 3]) (by kernel_rfl) ok128 (by kernel_rfl) (by decide) (by kernel_rfl) (by simp) (by kernel_rfl) (fun r hr => ?_); unfold c128 st0
  (exact xwalkd)
theorem MQ_nat (n : Nat) : MQ (((n : Nat) : Int) : Rat) = .agg [.bool false, M n, M 1] := by
  unfold MQ
  rw [Rat.num_intCast, Rat.den_intCast, Int.natAbs_natCast, show ng ((n : Nat) : Int) = false from decide_eq_false (Int.not_lt.2 (Int.natCast_nonneg _))]
theorem pcr_rwhole (hG : Stable G) (X : Nat) : PCr Tryz.prog G 129 [M X] (MQ (((X : Nat) : Int) : Rat)) := by
  have h := pcr_rsmall hG 1 (by omega)
  rw [MQ_nat]
  refine pcr_by hG (fn := Tryz.f129) (n := 7) (rv := [.cell 2 true 3]) (by kernel_rfl) ok129 (by kernel_rfl) (by decide) (by kernel_rfl) (by simp) (by kernel_rfl) (fun r hr => ?_); unfold c129 st0
  (exact xwalkd)
theorem MQ_dq (b : Bool) (X s : Nat) : MQ (dq false X s) = .agg [.bool false, M (dq b X s).num.natAbs, M (dq b X s).den] := by
  unfold MQ
  rw [dq_ngf]
  unfold dq
  rw [mk_num (ten_ne s), mk_den (ten_ne s), mk_num (ten_ne s), mk_den (ten_ne s), sg_abs, sg_abs]
theorem decV48 (l : List UInt8) : decV (48 :: l) = decV l := by
  have := decV_app [48] l
  rw [show decV [48] = 0 from rfl, Nat.zero_mul, Nat.zero_add] at this
  exact this
theorem pcr_rpart0 (hG : Stable G) (X s : Nat) (hs : s ≤ 60) : PCr Tryz.prog G 121 [.str ⟨(48 :: pp X s).toArray⟩] (.tup [M (X % 10 ^ s), .bool true]) := by
  have h := pcr_rnp hG (48 :: pp X s) (by rw [List.length_cons, pp_len]; omega)
  have hp : pgd (48 :: pp X s) = true := pgd_iff.2 ⟨by simp, by rw [List.all_cons, List.all_eq_true.2 pp_isD]; rfl⟩
  rwa [hp, if_pos rfl, decV48, pp_val] at h
set_option maxHeartbeats 16000000 in
theorem pcr_valueR (hG : Stable G) (hok : Dok b X s) (hx : X < 4294967296 ^ L) (hL : L < 300) (c : Int) : PCr Tryz.prog G 61 [MD b X s, .int .u8 c] (.tup [MQ (oval X s c), .bool (ois c)]) := by
  have hs := hok.2
  have hokf : Dok false X s := ⟨fun h => Bool.noConfusion h, hs⟩
  have hsh := pcr_dshortR hG hokf hx (by omega)
  have hsx : (sh X s).1 < 4294967296 ^ L := Nat.lt_of_le_of_lt (sh_fst_le s X) hx
  have hra := pcr_dratR (b := b) hG hx (by omega) hs
  have hab := pcr_abs hG (dq b X s)
  rw [← MQ_dq] at hab
  have hwh := pcr_dwholeR (b := b) hG hx (by omega) hs
  have hw1 := pcr_rwhole hG (X / 10 ^ s)
  have hw2 := pcr_rwhole hG (X % 10 ^ s)
  have hw3 := pcr_rwhole hG ((sh X s).1 % 10 ^ (sh X s).2)
  have hs2 := sh_le s X
  have hi0 := pcr_qint hG 0 (by omega) (by omega)
  have hi1 := pcr_qint hG (s : Int) (by omega) (by omega)
  have hi2 := pcr_qint hG ((sh X s).2 : Int) (by omega) (by omega)
  have hp1 := pcr_dpartR (b := b) hG hx (by omega) hs
  have hp2 := pcr_dpartR (b := false) hG hsx (by omega) hokf.short.2
  have hn1 := pcr_rpart0 hG X s hs
  have hn2 := pcr_rpart0 hG (sh X s).1 (sh X s).2 hokf.short.2
  have hl1 := pp_len (X := X) (s := s)
  have hl2 := pp_len (X := (sh X s).1) (s := (sh X s).2)
  unfold oval ois
  rcases seven c with rfl | rfl | rfl | rfl | rfl | rfl | rfl | ⟨h1, h2, h3, h4, h5, h6, h7⟩
  · rw [if_pos rfl, decide_eq_true (by omega)]
    refine pcr_by hG (fn := Tryz.f61) (n := 64) (rv := [.cell 4 true 3, .tmp 5]) (by kernel_rfl) ok61 (by kernel_rfl) (by decide) (by kernel_rfl) (by simp) (by kernel_rfl) (fun r hr => ?_); unfold c61 st0
    (exact xwalkd)
  · rw [if_neg (by decide), if_pos rfl, decide_eq_true (by omega)]
    refine pcr_by hG (fn := Tryz.f61) (n := 64) (rv := [.cell 4 true 3, .tmp 5]) (by kernel_rfl) ok61 (by kernel_rfl) (by decide) (by kernel_rfl) (by simp) (by kernel_rfl) (fun r hr => ?_); unfold c61 st0
    (exact xwalkd)
  · rw [if_neg (by decide), if_neg (by decide), if_pos rfl, decide_eq_true (by omega)]
    refine pcr_by hG (fn := Tryz.f61) (n := 64) (rv := [.cell 4 true 3, .tmp 5]) (by kernel_rfl) ok61 (by kernel_rfl) (by decide) (by kernel_rfl) (by simp) (by kernel_rfl) (fun r hr => ?_); unfold c61 st0
    (exact xwalkd)
  · rw [if_neg (by decide), if_neg (by decide), if_neg (by decide), if_pos rfl, decide_eq_true (by omega)]
    refine pcr_by hG (fn := Tryz.f61) (n := 64) (rv := [.cell 4 true 3, .tmp 5]) (by kernel_rfl) ok61 (by kernel_rfl) (by decide) (by kernel_rfl) (by simp) (by kernel_rfl) (fun r hr => ?_); unfold c61 st0
    (exact xwalkd)
  · rw [if_neg (by decide), if_neg (by decide), if_neg (by decide), if_neg (by decide), if_pos rfl, decide_eq_true (by omega)]
    refine pcr_by hG (fn := Tryz.f61) (n := 64) (rv := [.cell 4 true 3, .tmp 5]) (by kernel_rfl) ok61 (by kernel_rfl) (by decide) (by kernel_rfl) (by simp) (by kernel_rfl) (fun r hr => ?_); unfold c61 st0
    (exact xwalkd)
  · rw [if_neg (by decide), if_neg (by decide), if_neg (by decide), if_neg (by decide), if_neg (by decide), if_pos rfl, decide_eq_true (by omega)]
    refine pcr_by hG (fn := Tryz.f61) (n := 64) (rv := [.cell 4 true 3, .tmp 5]) (by kernel_rfl) ok61 (by kernel_rfl) (by decide) (by kernel_rfl) (by simp) (by kernel_rfl) (fun r hr => ?_); unfold c61 st0
    (exact xwalkd)
  · rw [if_neg (by decide), if_neg (by decide), if_neg (by decide), if_neg (by decide), if_neg (by decide), if_neg (by decide), decide_eq_true (by omega)]
    refine pcr_by hG (fn := Tryz.f61) (n := 64) (rv := [.cell 4 true 3, .tmp 5]) (by kernel_rfl) ok61 (by kernel_rfl) (by decide) (by kernel_rfl) (by simp) (by kernel_rfl) (fun r hr => ?_); unfold c61 st0
    (exact xwalkd)
  · rw [if_neg h1, if_neg h2, if_neg h3, if_neg h4, if_neg h5, if_neg h6, decide_eq_false (by omega)]
    refine pcr_by hG (fn := Tryz.f61) (n := 64) (rv := [.cell 4 true 3, .tmp 5]) (by kernel_rfl) ok61 (by kernel_rfl) (by decide) (by kernel_rfl) (by simp) (by kernel_rfl) (fun r hr => ?_); unfold c61 st0
    (exact xwalkd)
end Go.Proofs.YtapikjmijmebpaaGreatDoorK.RefT
