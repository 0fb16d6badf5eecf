/-
  cubitlaw4.DecParts answers true.
-/
import Derived.Test.YtapikjmijmebpaaGreatDoorKIrLDecParts
import Derived.Test.YtapikjmijmebpaaGreatDoorKIrLaw4
import Derived.Test.YtapikjmijmebpaaGreatDoorKAwakeE4
import Derived.Test.YtapikjmijmebpaaGreatDoorKIsD4
import Derived.Test.YtapikjmijmebpaaGreatDoorKRefDec2
set_option linter.all false
set_option linter.unusedVariables false
set_option linter.unusedSimpArgs false
set_option maxHeartbeats 4000000
namespace Go.Proofs.YtapikjmijmebpaaGreatDoorK.LawT4
open Go.Proofs.YtapikjmijmebpaaGreatDoorK.AI Go.Proofs.YtapikjmijmebpaaGreatDoorK.NatIr Go.Proofs.YtapikjmijmebpaaGreatDoorK.Dig Go.Proofs.YtapikjmijmebpaaGreatDoorK.NatT Go.Proofs.YtapikjmijmebpaaGreatDoorK.NumT Go.Proofs.YtapikjmijmebpaaGreatDoorK.RatT Go.Proofs.YtapikjmijmebpaaGreatDoorK.RefT Go.Proofs.YtapikjmijmebpaaGreatDoorK.DecT
set_option linter.unusedSimpArgs false
attribute [local irreducible] awp awpOps
attribute [local go_sem] getO putE_same putE_ne putE_none un0_at ini_zero ini_one ini_two ini_three ne_eq not_false_eq_true Nat.zero_ne_one Nat.one_ne_zero zero_ne_succ succ_ne_zero sym_nil sym_cons symG_call symG_op symG_skip IOp.isCall gd st_mv st_pick st_new st_box st_build st_lit st_load st_store st_faddr st_fld st_iaddrS st_iaddrA st_idxs st_bin st_beq st_neg st_not st_conv st_slcS st_slcL st_make st_app st_lenS st_lenL st_mx st_mn st_ext st_nilck st_bstr byD pureC loadC setH hv boundO D.cells D.one D.boxable fillD putD rowD binC intBinC decT decF dec_true dec_false bne_self_eq_false beq_self_eq_true beq_true_false beq_false_true bne_iff_ne List.length_nil List.length_cons List.getD_cons_zero List.getD_cons_succ List.set_cons_zero List.set_cons_succ List.all_cons List.all_nil Bool.and_true Bool.true_and Nat.lt_irrefl Nat.sub_self Nat.zero_add Nat.add_zero Nat.mul_one Nat.lt_add_one if_true if_false List.replicate_zero List.nil_append List.cons_append List.append_nil List.map_cons List.map_nil Bool.false_eq_true or_self or_true true_or or_false false_or true_and and_true and_self Int.ofNat_zero wrap_i64 wrap_u32 wrap_u64 wrap_u8 wrap_u32_mod wrap_u64_mod Nat.zero_lt_one Int.toNat_natCast Int.sub_zero toNat_pred List.take_succ_cons List.take_zero List.drop_succ_cons List.drop_zero List.take_nil List.drop_nil Nat.le_refl List.length_singleton rvDs rvD ldD one? Option.bind_some Option.map_some resD_int resD_bool resD_str resD_sl resD_rp resD_nils resD_null resD_agg resD_tup resD_own rdOwn resD_ptr rdPtr rd_ite resL_eq go_nil go_cons D.imm resArgs shr32 shl32 Nat.zero_mul Bool.and_self Bool.and_false Bool.false_and strBin_eql strBin_neq Bool.not_true Bool.not_false i64max List.length_reverse List.length_set SS_length SS_getD SS_set SS_take SS_drop SS_imm SS_one SS_app1 W_get1 W_len1 W_getD W_set W_take W_drop W_app W_length W_imm W_one W_repl N mx_nat toNat_succ toNat_add toNat_pred2 tdiv_nn tmod_nn List.take_of_length_le cast_succ and_one or_shl32 min64 shr32b shl32b IntKind.bits
attribute [local go_sem] V_getD V_set V_take V_drop V_imm V_one V_app V_app1 V_repl V_get1 V_length M List.length_append
attribute [local go_sem] nl ZD MZ
attribute [local go_sem] QD MQ
attribute [local go_sem] MD DD List.size_toArray ba_size RatT.ba_app List.length_append not_true_eq_false not_false_eq_true eq_self decide_true
variable {G : World → Prop} {L X s : Nat} {b : Bool} {d : D}
theorem dT_len (hx : X < 4294967296 ^ L) : (dT b X s).length ≤ 10 * L + s + 4 := by
  have h1 := nm_dlen (nm_N hx)
  have h2 := pd_len (X := X) (s := s)
  have h3 := pw_len (X := X) (s := s)
  have h4 := pp_len (X := X) (s := s)
  unfold dT
  rw [List.length_append, List.length_append]
  by_cases h0 : s = 0
  · rw [if_pos h0]
    cases b <;> simp <;> omega
  · rw [if_neg h0, List.length_cons]
    cases b <;> simp <;> omega
set_option maxHeartbeats 16000000 in
theorem pcr_whole (hG : Stable G) (hT : ∀ w, G w → Lib.TabIs Tryz.prog w "internal/strconv.uint64pow10" .u64 Lib.pow10Tab) (hok : Dok b X s) (hx : X < 4294967296 ^ L) (hL : L < 100000) :
    PCr Tryz.prog G 31 [DD b X s] (.str ⟨(pw X s).toArray⟩) := by
  have htx := pcr_dtext hG hT (Dm.self hok hx) hL
  have hdl := dT_len (b := b) (s := s) hx
  have hs60 := hok.2
  have hm := minus ⟨(dT b X s).toArray⟩
  obtain ⟨ht1, ht2⟩ := dT_trim b X s
  rw [show (⟨(dT b X s).toArray⟩ : ByteArray).data.toList = dT b X s from rfl, ht1, ht2, ba_size] at hm
  have hcut := dT_cut X s
  have hul : (pw X s ++ if s = 0 then [] else 46 :: pp X s).length ≤ (dT b X s).length := by rw [dT]; simp
  generalize dT b X s = q at *
  generalize (pw X s ++ if s = 0 then [] else 46 :: pp X s) = u at *
  obtain ⟨n, hn, hbt, hc⟩ := cut_at 46 u
  rw [hcut] at hc
  have hb2 : ∀ j, j < n → ¬ bt ⟨u.toArray⟩ j = 46 := fun j hj h => hbt j hj (UInt8.toNat_inj.1 (by rw [bt_get] at h; rw [show (46 : UInt8).toNat = 46 from rfl]; exact Int.ofNat.inj h))
  refine pcr_by hG (fn := Tryz.f31) (n := 31) (rv := [.tmp 2]) (by kernel_rfl) ok31 (by kernel_rfl) (by decide) (by kernel_rfl) (by simp) (by kernel_rfl) (fun r hr => ?_); unfold c31 st0
  refine xctl ?_
  refine xrg ?_
  refine xctl ?_
  refine xrg ?_; (refine xcf1 ?_; refine xcf (htx) rfl ?_)
  refine xrg ?_
  refine xctl1 ?_
  refine awp_seq_mid (fun σ => σ = ⟨(putE (putE un0 (some 2) (.str ⟨#[]⟩)) (some 3) (.str ⟨u.toArray⟩)), []⟩) ?_ ?_
  rotate_left
  · rcases hm with ⟨h1, rfl, h3⟩ | ⟨h1, h2, rfl, h3⟩ | ⟨h1, h2, rfl, h3⟩
    · (refine xwalk ?_)
      refine ⟨_, Nat.zero_le _, (Ent.cutk 0 (less_put (less_put (less_un0 _) ?_) ?_) (by exact trivial) (kb_put (kb_put (kb_un0 _) (by simp [kb])) (by simp [kb])) (by simp [kbH, kb.kbs, kb, kbs_W, kbs_SS])), rfl⟩
      iterate 1 (· exact xlq)
      · rw [← h3]; exact xlq
    · (have we1 := h3; refine xwalk1 ?_)
      refine ⟨_, Nat.zero_le _, (Ent.cutk 0 (less_put (less_put (less_un0 _) ?_) ?_) (by exact trivial) (kb_put (kb_put (kb_un0 _) (by simp [kb])) (by simp [kb])) (by simp [kbH, kb.kbs, kb, kbs_W, kbs_SS])), rfl⟩
      iterate 2 (· exact xlq)
    · (refine xwalk ?_)
      refine ⟨_, Nat.zero_le _, (Ent.cutk 0 (less_put (less_put (less_un0 _) ?_) ?_) (by exact trivial) (kb_put (kb_put (kb_un0 _) (by simp [kb])) (by simp [kb])) (by simp [kbH, kb.kbs, kb, kbs_W, kbs_SS])), rfl⟩
      iterate 1 (· exact xlq)
      · rw [← h3]; exact xlq
  rintro σ rfl
  (refine xwalk ?_)
  refine awp_loop (fun k σ => ∃ i : Nat, i ≤ n ∧ k = n - i ∧ σ = ⟨(putE (putE (putE un0 (some 2) (.str ⟨#[]⟩)) (some 3) (.str ⟨u.toArray⟩)) (some 4) (.int .i64 (i : Int))), []⟩) n
    (Ent.env (less_put (less_put (less_put (less_un0 _) ?_) ?_) ?_)) ⟨0, Nat.zero_le _, rfl, rfl⟩ ?_
  iterate 2 (· exact xlq)
  · show _ = D.int .i64 ((0 : Nat) : Int)
    exact xlq
  rintro k σ1 ⟨i, hi, rfl, rfl⟩
  by_cases hlt : i < n
  · have hbi := hb2 i hlt
    (refine xwalk ?_)
    refine ⟨n - (i + 1), _, by omega, Ent.env (less_put (less_put (less_put (less_un0 _) ?_) ?_) ?_), i + 1, by omega, rfl, rfl⟩
    iterate 2 (· exact xlq)
    · simp only [go_sem, Nat.reduceEqDiff, Nat.reduceAdd, Nat.reduceLT, Nat.reduceMul, Nat.reduceLeDiff, reduceCtorEq, Int.reduceNeg, Int.reduceToNat]
  · obtain rfl : i = n := by omega
    rcases hc with ⟨hc, hce⟩ | ⟨hc, hc2, hce⟩
    · have e : pw X s = u := congrArg Prod.fst hce
      rw [e] at hr
      (exact xwalkd)
    · have hbi : bt ⟨u.toArray⟩ i = 46 := by rw [bt_get]; show ((u.getD i 0).toNat : Int) = 46; rw [hc2]; rfl
      have e : pw X s = u.take i := congrArg Prod.fst hce
      rw [e] at hr
      have e1 : (⟨u.toArray⟩ : ByteArray).extract 0 i = ⟨(u.take i).toArray⟩ := by rw [ext_mk]; rfl
      (have we1 := e1; exact xwalkd1)
set_option maxHeartbeats 16000000 in
theorem pcr_parts_law (hG : Stable G) (hT : ∀ w, G w → Lib.TabIs Tryz.prog w "internal/strconv.uint64pow10" .u64 Lib.pow10Tab) (hM : ∀ w, G w → LibT.gMax w)
    (s : ByteArray) (hs : s.size ≤ 9223372036854775807) : PCr Tryz.prog G 4 [.str s] (.bool true) := by
  have haw := pcr_awake hG hT hM
  by_cases hl : 256 < s.size
  · refine pcr_by hG (fn := Tryz.f4) (n := 72) (rv := [.tmp 2]) (by kernel_rfl) ok4 (by kernel_rfl) (by decide) (by kernel_rfl) (by simp) (by kernel_rfl) (fun r hr => ?_); unfold c4 st0
    (exact xwalkd)
  have hps := pcr_dparse hG hM s hs
  rw [dPE, if_neg hl] at hps
  cases hd : dP s.data.toList with
  | none =>
    rw [hd, dRes] at hps
    refine pcr_by hG (fn := Tryz.f4) (n := 72) (rv := [.tmp 2]) (by kernel_rfl) ok4 (by kernel_rfl) (by decide) (by kernel_rfl) (by simp) (by kernel_rfl) (fun r hr => ?_); unfold c4 st0
    (exact xwalkd)
  | some v =>
    obtain ⟨b, X, k⟩ := v
    rw [hd, dRes] at hps
    obtain ⟨hok, hx⟩ := dP_ok hd
    obtain ⟨L, hx, hL⟩ : ∃ L, X < 4294967296 ^ L ∧ L ≤ 512 := ⟨_, hx, by have := ba_len s; omega⟩
    have hk := hok.2
    have hdm := Dm.self hok hx
    have hpt := pcr_dpart hG hT hdm (by omega)
    have htx := pcr_dtext hG hT hdm (by omega)
    have hwh := pcr_whole hG hT hok hx (by omega)
    have hra := pcr_drat hG hdm (by omega)
    have hqm := dq_qm hok hx
    have hgd := RatT.pcr_good hG hqm (by omega)
    have hsg := RatT.pcr_sign hG hqm (by omega)
    have hng := (dq_num hok).1
    have hpl := pp_len (X := X) (s := k)
    have hwl := pw_len (X := X) (s := k)
    have hdl := pd_len (X := X) (s := k)
    have hdd := nm_dlen (nm_N hx)
    have hbd : ∀ i, i < k → 48 ≤ bt ⟨(pp X k).toArray⟩ i ∧ bt ⟨(pp X k).toArray⟩ i ≤ 57 := by
      intro i hi
      have h1 : isD ((pp X k).getD i 0) = true := pp_isD _ (by rw [List.getD_eq_getElem?_getD, List.getElem?_eq_getElem (by omega)]; exact List.getElem_mem (by omega))
      have h2 := of_decide_eq_true h1
      rw [bt_get]
      show 48 ≤ (((pp X k).getD i 0).toNat : Int) ∧ (((pp X k).getD i 0).toNat : Int) ≤ 57
      omega
    have e1 : ((⟨(pp X k).toArray⟩ : ByteArray) = (⟨#[]⟩ : ByteArray)) = (k = 0) := by
      rw [ba_emp]
      exact propext ⟨fun h => by rw [← hpl, h]; rfl, fun h => List.eq_nil_of_length_eq_zero (hpl.trans h)⟩
    cases b
    · have hsn : ¬ (dq false X k).num.sign < 0 := by
        have h1 : ¬ (dq false X k).num < 0 := of_decide_eq_false hng
        have := Int.sign_nonneg_iff.2 (Int.not_lt.1 h1)
        omega
      have hdt : dT false X k = if k = 0 then pw X k else pw X k ++ [46] ++ pp X k := by
        unfold dT; by_cases h0 : k = 0 <;> simp [h0]
      rw [hdt] at htx
      refine pcr_by hG (fn := Tryz.f4) (n := 72) (rv := [.tmp 2]) (by kernel_rfl) ok4 (by kernel_rfl) (by decide) (by kernel_rfl) (by simp) (by kernel_rfl) (fun r hr => ?_); unfold c4 st0
      (refine xwalk ?_)
      refine awp_loop (fun j σ => ∃ i : Nat, i ≤ k ∧ j = k - i ∧ σ = ⟨(putE (putE (putE (putE un0 (some 2) (.bool false)) (some 3) (.ptr 0 0 0)) (some 5) (.str ⟨#[]⟩)) (some 6) (.int .i64 (i : Int))), [some (0, 30, 3, [.bool false, nl X, .int .i64 (k : Int)])]⟩) k
        (Ent.env (less_put (less_put (less_put (less_put (less_un0 _) ?_) ?_) ?_) ?_)) ⟨0, Nat.zero_le _, rfl, rfl⟩ ?_
      iterate 3 (· exact xlq)
      · show _ = D.int .i64 ((0 : Nat) : Int)
        exact xlq
      rintro j σ1 ⟨i, hi, rfl, rfl⟩
      by_cases hlt : i < k
      · have hbi := hbd i hlt
        (refine xwalk ?_)
        refine ⟨k - (i + 1), _, by omega, Ent.env (less_put (less_put (less_put (less_put (less_un0 _) ?_) ?_) ?_) ?_), i + 1, by omega, rfl, rfl⟩
        iterate 3 (· exact xlq)
        · simp only [go_sem, Nat.reduceEqDiff, Nat.reduceAdd, Nat.reduceLT, Nat.reduceMul, Nat.reduceLeDiff, reduceCtorEq, Int.reduceNeg, Int.reduceToNat]
      · by_cases h0 : k = 0
        · rw [eq_true h0] at e1
          rw [if_pos h0] at htx
          (have we1 := e1; exact xwalkd1)
        · rw [eq_false h0] at e1
          rw [if_neg h0] at htx
          (have we1 := e1; exact xwalkd1)
    · have hsn : (dq true X k).num.sign < 0 := by
        have h1 : (dq true X k).num < 0 := of_decide_eq_true hng
        have := Int.sign_eq_neg_one_of_neg h1
        omega
      have hdt : dT true X k = if k = 0 then 45 :: pw X k else 45 :: (pw X k ++ [46] ++ pp X k) := by
        unfold dT; by_cases h0 : k = 0 <;> simp [h0]
      rw [hdt] at htx
      refine pcr_by hG (fn := Tryz.f4) (n := 72) (rv := [.tmp 2]) (by kernel_rfl) ok4 (by kernel_rfl) (by decide) (by kernel_rfl) (by simp) (by kernel_rfl) (fun r hr => ?_); unfold c4 st0
      (refine xwalk ?_)
      refine awp_loop (fun j σ => ∃ i : Nat, i ≤ k ∧ j = k - i ∧ σ = ⟨(putE (putE (putE (putE un0 (some 2) (.bool false)) (some 3) (.ptr 0 0 0)) (some 5) (.str ⟨#[45]⟩)) (some 6) (.int .i64 (i : Int))), [some (0, 30, 3, [.bool true, nl X, .int .i64 (k : Int)])]⟩) k
        (Ent.env (less_put (less_put (less_put (less_put (less_un0 _) ?_) ?_) ?_) ?_)) ⟨0, Nat.zero_le _, rfl, rfl⟩ ?_
      iterate 3 (· exact xlq)
      · show _ = D.int .i64 ((0 : Nat) : Int)
        exact xlq
      rintro j σ1 ⟨i, hi, rfl, rfl⟩
      by_cases hlt : i < k
      · have hbi := hbd i hlt
        (refine xwalk ?_)
        refine ⟨k - (i + 1), _, by omega, Ent.env (less_put (less_put (less_put (less_put (less_un0 _) ?_) ?_) ?_) ?_), i + 1, by omega, rfl, rfl⟩
        iterate 3 (· exact xlq)
        · simp only [go_sem, Nat.reduceEqDiff, Nat.reduceAdd, Nat.reduceLT, Nat.reduceMul, Nat.reduceLeDiff, reduceCtorEq, Int.reduceNeg, Int.reduceToNat]
      · by_cases h0 : k = 0
        · rw [eq_true h0] at e1
          rw [if_pos h0] at htx
          (have we1 := e1; exact xwalkd1)
        · rw [eq_false h0] at e1
          rw [if_neg h0] at htx
          (have we1 := e1; exact xwalkd1)
end Go.Proofs.YtapikjmijmebpaaGreatDoorK.LawT4
