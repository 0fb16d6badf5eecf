/-
  nat.Text: what it computes.
-/
import Derived.Test.YtnildflhdkdbiaaGreatDoorKIrNat
import Derived.Test.YtnildflhdkdbiaaGreatDoorKTextN
set_option linter.all false
set_option linter.unusedVariables false
set_option linter.unusedSimpArgs false
set_option maxHeartbeats 4000000
namespace Go.Proofs.YtnildflhdkdbiaaGreatDoorK.NatT
open Go.Proofs.YtnildflhdkdbiaaGreatDoorK.AI Go.Proofs.YtnildflhdkdbiaaGreatDoorK.NatIr Go.Proofs.YtnildflhdkdbiaaGreatDoorK.Dig Go.Proofs.YtnildflhdkdbiaaGreatDoorK.LibT
set_option linter.unusedSimpArgs false
attribute [local irreducible] awp awpOps
attribute [local go_sem] getO putE_same putE_ne putE_none un0_at ini_zero ini_one ini_two ini_three ne_eq not_false_eq_true Nat.zero_ne_one Nat.one_ne_zero zero_ne_succ succ_ne_zero sym_nil sym_cons symG_call symG_op symG_skip IOp.isCall gd st_mv st_pick st_new st_box st_build st_lit st_load st_store st_faddr st_fld st_iaddrS st_iaddrA st_idxs st_bin st_beq st_neg st_not st_conv st_slcS st_slcL st_make st_app st_lenS st_lenL st_mx st_mn st_ext st_nilck pureC loadC setH hv boundO D.cells D.one D.boxable fillD putD rowD binC intBinC decT decF dec_true dec_false bne_self_eq_false beq_self_eq_true beq_true_false beq_false_true bne_iff_ne List.length_nil List.length_cons List.getD_cons_zero List.getD_cons_succ List.set_cons_zero List.set_cons_succ List.all_cons List.all_nil Bool.and_true Bool.true_and Nat.lt_irrefl Nat.sub_self Nat.zero_add Nat.add_zero Nat.mul_one Nat.lt_add_one if_true if_false List.replicate_zero List.nil_append List.cons_append List.append_nil List.map_cons List.map_nil Bool.false_eq_true or_self or_true true_or or_false false_or true_and and_true and_self Int.ofNat_zero wrap_i64 wrap_u32 wrap_u64 wrap_u8 wrap_u32_mod wrap_u64_mod Nat.zero_lt_one Int.toNat_natCast Int.sub_zero toNat_pred List.take_succ_cons List.take_zero List.drop_succ_cons List.drop_zero List.take_nil List.drop_nil Nat.le_refl List.length_singleton rvDs rvD ldD one? Option.bind_some Option.map_some resD_int resD_bool resD_str resD_sl resD_rp resD_nils resD_null resD_agg resD_tup resD_own rdOwn resD_ptr rdPtr rd_ite resL_eq go_nil go_cons D.imm resArgs shr32 shl32 Nat.zero_mul Bool.and_self Bool.and_false Bool.false_and strBin_eql strBin_neq Bool.not_true Bool.not_false i64max List.length_reverse List.length_set SS_length SS_getD SS_set SS_take SS_drop SS_imm SS_one SS_app1 W_get1 W_len1 W_getD W_set W_take W_drop W_app W_length W_imm W_one W_repl N mx_nat toNat_succ toNat_add toNat_pred2 tdiv_nn tmod_nn List.take_of_length_le cast_succ and_one or_shl32 min64 shr32b shl32b IntKind.bits
variable {G : World → Prop}
/-- The pieces, the lowest first, as one text. -/
def flat (ss : List ByteArray) : List UInt8 := (ss.reverse.map (·.data.toList)).flatten
theorem flat_snoc (ss : List ByteArray) (s : ByteArray) : flat (ss ++ [s]) = s.data.toList ++ flat ss := by simp [flat]
theorem join_nosep : ∀ xs : List (List UInt8), Lib.join xs [] = xs.flatten
  | [] => rfl
  | x :: r => by
    rw [Lib.join_cons]
    simp [Lib.joinTail]
theorem ba_size (l : List UInt8) : (⟨l.toArray⟩ : ByteArray).size = l.length := by simp [ByteArray.size]
theorem flat_len {ss : List ByteArray} (h : ∀ s ∈ ss, s.size ≤ 9) : (flat ss).length ≤ 9 * ss.length := by
  induction ss with
  | nil => simp [flat]
  | cons x l ih =>
    have h1 := ih (fun s hs => h s (List.mem_cons_of_mem _ hs))
    have h2 := h x List.mem_cons_self
    have e : flat (x :: l) = flat l ++ x.data.toList := by simp [flat]
    rw [e, List.length_append, List.length_cons]
    have : x.data.toList.length = x.size := rfl
    omega
theorem pieces {k m V : Nat} (h : 1000000000 ^ k ≤ V) (hV : V < 4294967296 ^ m) : 29 * k < 32 * m := by
  have h1 : (2 ^ 29) ^ k ≤ 1000000000 ^ k := Nat.pow_le_pow_left (by omega) k
  have h2 : (4294967296 : Nat) ^ m = 2 ^ (32 * m) := by rw [Nat.pow_mul]
  rw [← Nat.pow_mul] at h1
  exact (Nat.pow_lt_pow_iff_right (a := 2) (by omega)).1 (by omega)
set_option maxHeartbeats 4000000 in
theorem pcr_text (hG : Stable G) (hT : ∀ w, G w → Lib.TabIs Tryz.prog w "internal/strconv.uint64pow10" .u64 Lib.pow10Tab) (a : List Int) (n : Nat) (hn : n = a.length) (ha : ok 4294967296 a) (hla : a.length < 100000) :
    PCr Tryz.prog G 26 [.agg [.sl n (W a)]] (.str ⟨(Lib.decDigits (vl 4294967296 a)).toArray⟩) := by
  refine pcr_by hG (fn := Tryz.f26) (n := 46) (rv := [.tmp 2]) (by kernel_rfl) ok26 (by kernel_rfl) (by decide) (by kernel_rfl) (by simp) (by kernel_rfl) (fun r hr => ?_); unfold c26 st0
  refine xctl ?_
  refine xrg ?_
  refine xctl ?_
  refine xrg ?_
  refine xca1 ?_; refine xca (pcr_trim hG a n hn ha (by omega)) ?_
  have hlw := wd_len_small ha
  generalize hV0 : vl 4294967296 a = V0 at *
  refine xrg ?_
  refine xctl ?_
  refine xrg ?_
  refine xctl ?_
  by_cases h0 : V0 = 0
  · subst h0
    have hl0 : (wd 4294967296 0).length = 0 := by rw [wd_zero]; rfl
    refine awp_cond_t (by simp only [go_sem, Nat.reduceEqDiff, Nat.reduceAdd, Nat.reduceLT, Nat.reduceMul, Nat.reduceLeDiff, reduceCtorEq, Int.reduceNeg, Int.reduceToNat]; exact congrArg D.bool (decide_eq_true (by omega))) ?_
    refine xctl ?_
    refine xrg ?_
    refine xctl ?_
    refine xrt ?_
    rw [hr, dec_small (by omega)]; rfl
  · have hlp : 0 < (wd 4294967296 V0).length := by
      rcases Nat.eq_zero_or_pos (wd 4294967296 V0).length with h | h
      · exact absurd ((wd_eq_nil (by omega)).1 (List.eq_nil_of_length_eq_zero h)) h0
      · exact h
    refine awp_cond_f (by simp only [go_sem, Nat.reduceEqDiff, Nat.reduceAdd, Nat.reduceLT, Nat.reduceMul, Nat.reduceLeDiff, reduceCtorEq, Int.reduceNeg, Int.reduceToNat]; exact congrArg D.bool (decide_eq_false (by omega))) ?_
    refine xctl ?_
    refine xrg ?_
    refine xctl ?_
    refine awp_loop (fun k σ => ∃ (V ver : Nat) (ss : List ByteArray), k = V ∧ (wd 4294967296 V).length < 100000 ∧ V * 1000000000 ^ ss.length ≤ V0 ∧ 1000000000 ^ (ss.length - 1) ≤ V0 ∧ (∀ s ∈ ss, s.size ≤ 9) ∧ Lib.decDigits V0 = (if V = 0 then [] else Lib.decDigits V) ++ flat ss ∧
        σ = ⟨(putE (putE (putE un0 (some 2) (.str ⟨#[]⟩)) (some 3) (.sl (wd 4294967296 V).length (W (wd 4294967296 V)))) (some 4) (.own 1 ver 0 ss.length)),
          [none, some (ver, 9, 1, SS ss)]⟩) V0
      ((Ent.nils (s := 4) 9 1 (by simp only [go_sem, Nat.reduceEqDiff, Nat.reduceAdd, Nat.reduceLT, Nat.reduceMul, Nat.reduceLeDiff, reduceCtorEq, Int.reduceNeg, Int.reduceToNat])).trans (by simp) (Ent.st (less_put (less_put (less_put (less_un0 _) ?_) ?_) ?_) (by exact ⟨.inl rfl, .inr rfl, trivial⟩))) ⟨V0, 0, [], rfl, by omega, by simp, by simp; omega, by simp, by rw [if_neg h0]; simp [flat], rfl⟩ ?_
    iterate 3 (· exact xlq)
    have hV0l : V0 < 4294967296 ^ a.length := by rw [← hV0]; exact vl_lt ha
    rintro V σ1 ⟨_, ver, ss, rfl, hlV, hVs, hVs1, hs9, hdec, rfl⟩
    have hpc := pieces hVs1 hV0l
    refine xctl ?_
    refine xrg ?_
    refine xctl ?_
    refine xcs (fun hb => ?_) (fun hb => ?_)
    · have hb' := of_decide_eq_true hb
      have hVn : V ≠ 0 := fun h => by subst h; rw [wd_zero] at hb'; simp at hb'
      have hsm := pcr_small hG (wd 4294967296 V) 1000000000 _ rfl (by omega) (by omega) (ok_wd (by omega) V) (by omega)
      rw [show (((1000000000 : Nat)) : Int) = 1000000000 from rfl] at hsm
      have hsl := sdiv_len 4294967296 1000000000 (wd 4294967296 V)
      have hso := sdiv_ok (B := 4294967296) (d := 1000000000) (by omega) (by omega) _ (ok_wd (by omega) V)
      have hsq := sdiv_q (B := 4294967296) (d := 1000000000) (by omega) (wd 4294967296 V)
      have hsr := sdiv_r (B := 4294967296) (d := 1000000000) (by omega) (wd 4294967296 V)
      rw [vl_wd (by omega)] at hsq hsr
      generalize sdiv 4294967296 1000000000 (wd 4294967296 V) = sd at *
      obtain ⟨sl, sr⟩ := sd
      simp only at hsl hso hsq hsr hsm
      have htr := pcr_trim hG sl (wd 4294967296 V).length hsl.symm hso (by omega)
      rw [hsq] at htr
      have hr9 : sr < 1000000000 := by rw [hsr]; exact Nat.mod_lt _ (by omega)
      have hdv := Nat.div_add_mod V 1000000000
      rw [← hsr] at hdv
      have hqm := wd_len_mono (B := 4294967296) (by omega) (Nat.div_le_self V 1000000000)
      have hql : V / 1000000000 < V := Nat.div_lt_self (by omega) (by omega)
      have hqV : V / 1000000000 * 1000000000 ^ (ss.length + 1) ≤ V0 ∧ 1000000000 ^ ss.length ≤ V0 := by
        rw [Nat.pow_succ, Nat.mul_comm (1000000000 ^ ss.length), ← Nat.mul_assoc]
        have h1 : V / 1000000000 * 1000000000 * 1000000000 ^ ss.length ≤ V * 1000000000 ^ ss.length := Nat.mul_le_mul_right _ (by omega)
        have h2 : 1 * 1000000000 ^ ss.length ≤ V * 1000000000 ^ ss.length := Nat.mul_le_mul_right _ (by omega)
        omega
      generalize V / 1000000000 = q at *
      obtain ⟨hd9, hdg⟩ := dg_dec 9 sr (by omega) (by omega)
      have hit : Lib.itoa (sr : Int) = Lib.decDigits sr := by rw [Lib.itoa, if_neg (by omega), Int.toNat_natCast]
      have hita := lib_itoa hT (sr : Int) (by omega) (by omega)
      rw [hit] at hita
      refine xctl ?_
      refine xrg ?_
      refine xca1 ?_; refine xca hsm ?_
      refine xrg ?_
      refine xctl ?_
      refine xrg ?_
      refine xca1 ?_; refine xca htr ?_
      refine xrg ?_
      refine xctl ?_
      refine xrg ?_
      refine xcf1 ?_; refine xcf hita rfl ?_
      refine xrg ?_
      refine xctl1 ?_
      refine awp_seq_mid (fun σ => ∃ s : ByteArray, s.size ≤ 9 ∧ Lib.decDigits V = (if q = 0 then [] else Lib.decDigits q) ++ s.data.toList ∧
        σ = ⟨(putE (putE (putE (putE un0 (some 2) (.str ⟨#[]⟩)) (some 3) (.sl (wd 4294967296 q).length (W (wd 4294967296 q)))) (some 4) (.own 1 ver 0 ss.length)) (some 7) (.str s)), [none, some (ver, 9, 1, SS ss)]⟩) ?_ ?_
      · rintro σ ⟨s, hs, hsd, rfl⟩
        refine xctl ?_
        refine xrg ?_
        refine xctl ?_
        refine ⟨q, _, hql, (Ent.cutk 2 (less_put (less_put (less_put (less_un0 _) ?_) ?_) ?_) (by exact ⟨.inr rfl, .inr rfl, trivial⟩) (kb_put (kb_put (kb_put (kb_un0 _) (by simp [kb])) (by simp [kb])) (by simp [kb])) (by simp [kbH, kb.kbs, kb, kbs_W, kbs_SS])), q, ver + 1, ss ++ [s], rfl, by omega, by simpa using hqV.1, by simpa using hqV.2, ?_, ?_, rfl⟩
        iterate 2 (· exact xlq)
        · simp only [go_sem, Nat.reduceEqDiff, Nat.reduceAdd, Nat.reduceLT, Nat.reduceMul, Nat.reduceLeDiff, reduceCtorEq, Int.reduceNeg, Int.reduceToNat]
          simp
        · intro x hx
          rcases List.mem_append.1 hx with hx | hx
          · exact hs9 x hx
          · rw [List.mem_singleton] at hx; rw [hx]; exact hs
        · rw [hdec, if_neg hVn, hsd, flat_snoc, List.append_assoc]
      · refine xctl ?_
        refine xrg ?_
        refine xctl ?_
        refine xcs (fun hb => ?_) (fun hb => ?_)
        · have hb2 := of_decide_eq_true hb
          have hq0 : q ≠ 0 := fun h => by subst h; rw [wd_zero] at hb2; simp at hb2
          have hsz := ba_size (Lib.decDigits sr)
          generalize hsx : (⟨(Lib.decDigits sr).toArray⟩ : ByteArray) = x at *
          have hxl : x.data.toList = Lib.decDigits sr := by rw [← hsx]
          obtain ⟨mz, hmz⟩ : ∃ mz, x.size + mz = 9 := ⟨9 - x.size, by omega⟩
          have hrp := lib_repeat (G := G) ⟨#[48]⟩ mz (by omega) (by show 1 * mz ≤ _; omega)
          rw [repeat1] at hrp
          have hzs := ba_size (List.replicate mz 48)
          rw [List.length_replicate] at hzs
          generalize hzx : (⟨(List.replicate mz 48).toArray⟩ : ByteArray) = z at *
          have hzl : z.data.toList = List.replicate mz 48 := by rw [← hzx]
          have happ : (z ++ x).size = 9 := by rw [ByteArray.size_append]; omega
          refine xctl ?_
          refine xrg ?_
          rw [show (9 : Int) - x.size = mz by omega]
          refine xcf1 ?_; refine xcf hrp rfl ?_
          refine xrg ?_
          refine xctl ?_
          refine ⟨_, Nat.zero_le _, Ent.env (less_put (less_put (less_put (less_put (less_un0 _) ?_) ?_) ?_) ?_), z ++ x, by omega, ?_, rfl⟩
          iterate 4 (· exact xlq)
          rw [if_neg hq0, ← hdv, Nat.mul_comm, show (1000000000 : Nat) = 10 ^ 9 from rfl, dec_add 9 q sr (by omega) (by omega), hdg, ByteArray.data_append, Array.toList_append, hzl, hxl, show 9 - (Lib.decDigits sr).length = mz by omega]
        · have hb2 := of_decide_eq_false hb
          have hq0 : q = 0 := by
            rw [← vl_wd (B := 4294967296) (by omega) q, List.eq_nil_of_length_eq_zero (by omega : (wd 4294967296 q).length = 0)]; rfl
          subst hq0
          have hsz := ba_size (Lib.decDigits sr)
          refine xctl ?_
          refine ⟨_, Nat.zero_le _, Ent.env (less_put (less_put (less_put (less_put (less_un0 _) ?_) ?_) ?_) ?_), ⟨(Lib.decDigits sr).toArray⟩, by omega, ?_, rfl⟩
          iterate 4 (· exact xlq)
          rw [if_pos rfl, ← hdv]; simp
    · have hb' := of_decide_eq_false hb
      have hV : V = 0 := by
        rw [← vl_wd (B := 4294967296) (by omega) V, List.eq_nil_of_length_eq_zero (by omega : (wd 4294967296 V).length = 0)]; rfl
      subst hV
      rw [if_pos rfl, List.nil_append] at hdec
      have hfl := flat_len hs9
      have hrl : ss.reverse.length = ss.length := by simp
      have hjn : Lib.join (ss.reverse.map (·.data.toList)) [] = flat ss := join_nosep _
      have hjo := lib_join (G := G) ss.reverse ⟨#[]⟩ ss.length (by simp) (by simp; omega) (by rw [show (⟨#[]⟩ : ByteArray).data.toList = [] from rfl, hjn]; omega)
      rw [show (⟨#[]⟩ : ByteArray).data.toList = [] from rfl, hjn] at hjo
      refine xctl ?_
      refine xrg ?_
      refine ops_callw [1] (pcg_reverse ss ss.length ver 9 rfl (by omega)) (by simp (disch := omega) only [go_sem, Nat.reduceEqDiff, Nat.reduceAdd, Nat.reduceLT, Nat.reduceMul, Nat.reduceLeDiff, reduceCtorEq, Int.reduceNeg, Int.reduceToNat]; rfl) (by simp [kb]) (by decide) rfl (by simp) rfl rfl (by simp) (by simp [immH, W_imm, SS_imm]) (by simp [immH, W_imm, SS_imm]) (by simp only [D.ren, List.getD_cons_zero, List.getD_cons_succ]; rfl) (by simp only [List.zip_cons_cons, List.zip_nil_left, List.zip_nil_right]; rfl) ?_
      refine xrg ?_
      refine xctl ?_
      refine xrg ?_
      refine xca1 ?_; refine xca hjo ?_
      refine xrg ?_
      refine xctl ?_
      refine xrt ?_
      rw [hr, hdec]
end Go.Proofs.YtnildflhdkdbiaaGreatDoorK.NatT
