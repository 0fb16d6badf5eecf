/-
  The document's own words: GoodWord, figures, Number, has, Split: what they compute.
-/
import Derived.Test.YtgimaioeifnajaaGreatDoorKIrCubitref6
import Derived.Test.YtgimaioeifnajaaGreatDoorKUi
set_option linter.all false
set_option maxHeartbeats 0
namespace Go.Proofs.YtgimaioeifnajaaGreatDoorK.TabT
open AI NatIr Dig NatT LibT Go.Lib
attribute [local irreducible] awp awpOps
attribute [local go_sem] not_true_eq_false not_false_eq_true eq_self decide_true decide_false beq_self_eq_true Int.reduceAdd nl
variable {G : World → Prop}
theorem btl {s : Wd} {i : Nat} (h : i < s.data.toList.length) : bt s i = (s.data.toList[i].toNat : Int) := by
  obtain ⟨⟨l⟩⟩ := s
  unfold bt
  have h : i < l.length := h
  show ((l.toArray.getD i 0).toNat : Int) = _
  simp [h]
theorem pcr_rgoodword (hG : Stable G) (s : Wd) (hs : s.size < 1000000) : PCr Tryz.prog G 57 [.str s] (.bool (goodW s)) := by
  have hlen : s.data.toList.length = s.size := rfl
  refine pcr_byq ok57 hG (n := 40) (rv := [.tmp 2]) fun r hr => ?_; unfold c57 st0
  (refine xwalk ?_)
  refine awp_loop (fun k σ => ∃ i, i ≤ s.size ∧ k = s.size - i ∧ (∀ j (h : j < s.data.toList.length), j < i → wc s.data.toList[j] = true) ∧ σ = ⟨(putE (putE un0 (some 0) (.str s)) (some 3) (.int .i64 (i : Int))), []⟩) s.size ?_ ⟨0, Nat.zero_le _, rfl, fun _ _ h => absurd h (Nat.not_lt_zero _), rfl⟩ ?_
  · refine Ent.env (less_put (less_put (less_un0 _) ?_) ?_)
    iterate 2 (· exact xlqi)
  rintro k σ1 ⟨i, hi, rfl, hg, rfl⟩
  by_cases hlt : i < s.size
  · have hb := btl (s := s) (i := i) hlt
    have hwc : wc (s.data.toList[i]'hlt) = decide (97 ≤ bt s i ∧ bt s i ≤ 122 ∨ 48 ≤ bt s i ∧ bt s i ≤ 57) := by
      rw [hb]
      unfold wc isD
      rw [Bool.eq_iff_iff]
      simp only [Bool.or_eq_true, decide_eq_true_eq]
      omega
    have hbad : wc (s.data.toList[i]'hlt) = false → goodW s = false := fun h => by
      unfold goodW
      have h3 : s.data.toList.all wc = false := Bool.eq_false_iff.2 fun h2 => by
        have := List.all_eq_true.1 h2 _ (List.getElem_mem hlt)
        rw [h] at this
        cases this
      rw [h3, Bool.and_false]
    have hgo : wc (s.data.toList[i]'hlt) = true → ∀ j (h : j < s.data.toList.length), j < i + 1 → wc s.data.toList[j] = true := fun h j hj hji => by
      rcases Nat.lt_or_ge j i with h1 | h1
      · exact hg j hj h1
      · obtain rfl : j = i := by omega
        exact h
    rw [hwc] at hbad hgo
    clear hwc hb hg
    generalize hcc : bt s i = c at *
    by_cases c1 : c < 97
    · have d1 : decide (c < 97) = true := decide_eq_true c1
      by_cases c2 : c < 48
      · have d2 : decide (c < 48) = true := decide_eq_true c2
        rw [hbad (decide_eq_false (by omega))] at hr
        clear hbad hgo
        (have we1 := hcc; have we2 := d1; have we3 := d2; exact xwalkd3)
      · have d2 : decide (c < 48) = false := decide_eq_false c2
        by_cases c3 : c > 57
        · have d3 : decide (c > 57) = true := decide_eq_true c3
          rw [hbad (decide_eq_false (by omega))] at hr
          clear hbad hgo
          (have we1 := hcc; have we2 := d1; have we3 := d2; have we4 := d3; exact xwalkd4)
        · have d3 : decide (c > 57) = false := decide_eq_false c3
          have hgo := hgo (decide_eq_true (by omega))
          clear hbad
          (have we1 := hcc; have we2 := d1; have we3 := d2; have we4 := d3; refine xwalk4 ?_)
          refine ⟨s.size - (i + 1), _, by omega, ?_, i + 1, by omega, rfl, hgo, rfl⟩
          refine Ent.env (less_put (less_put (less_un0 _) ?_) ?_)
          iterate 2 (· exact xlqi)
    · have d1 : decide (c < 97) = false := decide_eq_false c1
      by_cases c2 : c > 122
      · have d2 : decide (c > 122) = true := decide_eq_true c2
        have d3 : decide (c < 48) = false := decide_eq_false (by omega)
        have d4 : decide (c > 57) = true := decide_eq_true (by omega)
        rw [hbad (decide_eq_false (by omega))] at hr
        clear hbad hgo
        (have we1 := hcc; have we2 := d1; have we3 := d2; have we4 := d3; have we5 := d4; exact xwalkd5)
      · have d2 : decide (c > 122) = false := decide_eq_false c2
        have hgo := hgo (decide_eq_true (by omega))
        clear hbad
        (have we1 := hcc; have we2 := d1; have we3 := d2; refine xwalk3 ?_)
        refine ⟨s.size - (i + 1), _, by omega, ?_, i + 1, by omega, rfl, hgo, rfl⟩
        refine Ent.env (less_put (less_put (less_un0 _) ?_) ?_)
        iterate 2 (· exact xlqi)
  · have hall : s.data.toList.all wc = true := by
      refine List.all_eq_true.2 fun x hx => ?_
      obtain ⟨j, hj, rfl⟩ := List.mem_iff_getElem.1 hx
      exact hg j hj (by omega)
    unfold goodW at hr
    rw [hall, Bool.and_true] at hr
    clear hg hall
    by_cases h0 : s.size = 0
    · rw [show decide (s.size ≠ 0) = false from decide_eq_false (fun h => h h0), Bool.false_and] at hr
      have e1 : decide ((s.size : Int) ≥ 1) = false := decide_eq_false (by omega)
      (have we1 := e1; exact xwalkd1)
    · rw [show decide (s.size ≠ 0) = true from decide_eq_true h0, Bool.true_and] at hr
      have e1 : decide ((s.size : Int) ≥ 1) = true := decide_eq_true (by omega)
      by_cases h20 : s.size ≤ 20
      · rw [decide_eq_true h20] at hr
        have e2 : decide ((s.size : Int) ≤ 20) = true := decide_eq_true (by omega)
        (have we1 := e1; have we2 := e2; exact xwalkd2)
      · rw [decide_eq_false h20] at hr
        have e2 : decide ((s.size : Int) ≤ 20) = false := decide_eq_false (by omega)
        (have we1 := e1; have we2 := e2; exact xwalkd2)
def figW (s : Wd) : Bool := allD s && !decide (s.size = 0)
theorem pcr_rfigures (hG : Stable G) (s : Wd) (hs : s.size < 1000000) : PCr Tryz.prog G 83 [.str s] (.bool (figW s)) := by
  have hlen : s.data.toList.length = s.size := rfl
  have hem := wempty (s := s)
  unfold figW
  rw [← hem]
  refine pcr_byq ok83 hG (n := 22) (rv := [.tmp 2]) fun r hr => ?_; unfold c83 st0
  (refine xwalk ?_)
  refine awp_loop (fun k σ => ∃ i, i ≤ s.size ∧ k = s.size - i ∧ (∀ j (h : j < s.data.toList.length), j < i → isD s.data.toList[j] = true) ∧ σ = ⟨(putE (putE un0 (some 0) (.str s)) (some 3) (.int .i64 (i : Int))), []⟩) s.size ?_ ⟨0, Nat.zero_le _, rfl, fun _ _ h => absurd h (Nat.not_lt_zero _), rfl⟩ ?_
  · refine Ent.env (less_put (less_put (less_un0 _) ?_) ?_)
    iterate 2 (· exact xlqi)
  rintro k σ1 ⟨i, hi, rfl, hg, rfl⟩
  by_cases hlt : i < s.size
  · have hb := btl (s := s) (i := i) hlt
    have hwc : isD (s.data.toList[i]'hlt) = decide (48 ≤ bt s i ∧ bt s i ≤ 57) := by
      rw [hb]
      unfold isD
      exact decide_eq_decide.2 (by omega)
    have hbad : isD (s.data.toList[i]'hlt) = false → allD s = false := fun h => Bool.eq_false_iff.2 fun h2 => by
      have := allD_iff.1 h2 _ (List.getElem_mem hlt)
      rw [h] at this
      cases this
    have hgo : isD (s.data.toList[i]'hlt) = true → ∀ j (h : j < s.data.toList.length), j < i + 1 → isD s.data.toList[j] = true := fun h j hj hji => by
      rcases Nat.lt_or_ge j i with h1 | h1
      · exact hg j hj h1
      · obtain rfl : j = i := by omega
        exact h
    rw [hwc] at hbad hgo
    clear hwc hb hg
    generalize hcc : bt s i = c at *
    by_cases c2 : c < 48
    · have d2 : decide (c < 48) = true := decide_eq_true c2
      rw [hbad (decide_eq_false (by omega)), Bool.false_and] at hr
      clear hbad hgo
      (have we1 := hcc; have we2 := d2; exact xwalkd2)
    · have d2 : decide (c < 48) = false := decide_eq_false c2
      by_cases c3 : c > 57
      · have d3 : decide (c > 57) = true := decide_eq_true c3
        rw [hbad (decide_eq_false (by omega)), Bool.false_and] at hr
        clear hbad hgo
        (have we1 := hcc; have we2 := d2; have we3 := d3; exact xwalkd3)
      · have d3 : decide (c > 57) = false := decide_eq_false c3
        have hgo := hgo (decide_eq_true (by omega))
        clear hbad
        (have we1 := hcc; have we2 := d2; have we3 := d3; refine xwalk3 ?_)
        refine ⟨s.size - (i + 1), _, by omega, ?_, i + 1, by omega, rfl, hgo, rfl⟩
        refine Ent.env (less_put (less_put (less_un0 _) ?_) ?_)
        iterate 2 (· exact xlqi)
  · have hall : allD s = true := allD_iff.2 fun x hx => by
      obtain ⟨j, hj, rfl⟩ := List.mem_iff_getElem.1 hx
      exact hg j hj (by omega)
    rw [hall, Bool.true_and] at hr
    clear hg hall
    (exact xwalkd)
theorem pcr_rnumber (hG : Stable G) (s : Wd) (hs : s.size < 1000000) : PCr Tryz.prog G 59 [.str s] (.bool (numW s)) := by
  have h1 := pcr_rfigures (G := G) hG s hs
  unfold numW
  unfold figW at h1
  cases ha : allD s with
  | false =>
    rw [ha, Bool.false_and] at h1
    rw [Bool.and_false]
    refine pcr_byq ok59 hG (n := 15) (rv := [.tmp 2]) fun r hr => ?_; unfold c59 st0
    (exact xwalkd)
  | true =>
    rw [ha, Bool.true_and] at h1
    rw [Bool.and_true]
    by_cases h0 : s.size = 0
    · rw [decide_eq_true h0, Bool.not_true] at h1
      rw [show decide (s.size ≠ 0) = false from decide_eq_false (fun h => h h0), Bool.false_and, Bool.false_and]
      refine pcr_byq ok59 hG (n := 15) (rv := [.tmp 2]) fun r hr => ?_; unfold c59 st0
      (exact xwalkd)
    · rw [decide_eq_false h0, Bool.not_false] at h1
      rw [show decide (s.size ≠ 0) = true from decide_eq_true h0, Bool.true_and]
      by_cases h20 : s.size ≤ 20
      · rw [decide_eq_true h20, Bool.true_and]
        have e2 : decide ((s.size : Int) ≤ 20) = true := decide_eq_true (by omega)
        by_cases hz : bt s 0 = 48
        · rw [decide_eq_true hz]
          have hz2 : decide (¬ bt s 0 = 48) = false := decide_eq_false (fun h => h hz)
          refine pcr_byq ok59 hG (n := 15) (rv := [.tmp 2]) fun r hr => ?_; unfold c59 st0
          (have we1 := e2; have we2 := hz2; exact xwalkd2)
        · rw [decide_eq_false hz]
          have hz2 : decide (¬ bt s 0 = 48) = true := decide_eq_true hz
          refine pcr_byq ok59 hG (n := 15) (rv := [.tmp 2]) fun r hr => ?_; unfold c59 st0
          (have we1 := e2; have we2 := hz2; exact xwalkd2)
      · rw [decide_eq_false h20, Bool.false_and]
        have e2 : decide ((s.size : Int) ≤ 20) = false := decide_eq_false (by omega)
        refine pcr_byq ok59 hG (n := 15) (rv := [.tmp 2]) fun r hr => ?_; unfold c59 st0
        (have we1 := e2; exact xwalkd1)
theorem pcr_rhas (hG : Stable G) (l : List Wd) (s : Wd) (hl : l.length < 1000000) : PCr Tryz.prog G 111 [.sl l.length (l.map .str), .str s] (.bool (inW s l)) := by
  have hll : (l.map D.str).length = l.length := List.length_map ..
  refine pcr_byq ok111 hG (n := 18) (rv := [.tmp 4]) fun r hr => ?_; unfold c111 st0
  (refine xwalk ?_)
  refine awp_loop (fun k σ => ∃ i, i ≤ l.length ∧ k = l.length - i ∧ inW s (l.drop i) = inW s l ∧ σ = ⟨(putE (putE (putE un0 (some 0) (.sl l.length (l.map .str))) (some 1) (.str s)) (some 5) (.int .i64 (i : Int))), []⟩) l.length ?_ ⟨0, Nat.zero_le _, rfl, rfl, rfl⟩ ?_
  · refine Ent.env (less_put (less_put (less_put (less_un0 _) ?_) ?_) ?_)
    iterate 3 (· exact xlqi)
  rintro k σ1 ⟨i, hi, rfl, hf, rfl⟩
  by_cases hlt : i < l.length
  · have hget := strs_get1 hlt
    rw [List.drop_eq_getElem_cons hlt, inW, List.any_cons] at hf
    generalize l[i] = w at *
    cases hw : decide (w = s) with
    | true =>
      rw [hw, Bool.true_or] at hf
      rw [← hf] at hr
      (have we1 := hget; have we2 := hw; exact xwalkd2)
    | false =>
      rw [hw, Bool.false_or] at hf
      (have we1 := hget; have we2 := hw; refine xwalk2 ?_)
      refine ⟨l.length - (i + 1), _, by omega, ?_, i + 1, by omega, rfl, hf, rfl⟩
      refine Ent.env (less_put (less_put (less_put (less_un0 _) ?_) ?_) ?_)
      iterate 3 (· exact xlqi)
  · obtain rfl : i = l.length := by omega
    rw [List.drop_length, inW, List.any_nil] at hf
    rw [← hf] at hr
    (exact xwalkd)
def splA (c : UInt8) (done : List (List UInt8)) (cur : List UInt8) : List UInt8 → List (List UInt8)
  | [] => done ++ [cur]
  | x :: l => if x = c then splA c (done ++ [cur]) [] l else splA c done (cur ++ [x]) l
theorem splA_spl {c : UInt8} : ∀ {l : List UInt8} {done : List (List UInt8)} {cur : List UInt8}, splA c done cur l = done ++ (match spl c l with | [] => [cur] | a :: t => (cur ++ a) :: t)
  | [], done, cur => by simp [splA, spl]
  | x :: l, done, cur => by
    rw [splA, spl]
    by_cases h : x = c
    · subst h
      rw [if_pos rfl, Nat.beq_refl, splA_spl]
      cases hs : spl x l with
      | nil => exact absurd hs (spl_ne x l)
      | cons a t => simp
    · have hb : Nat.beq x.toNat c.toNat = false := by
        cases hb : Nat.beq x.toNat c.toNat with
        | false => rfl
        | true => exact absurd (UInt8.toNat_inj.1 (Nat.eq_of_beq_eq_true hb)) h
      rw [if_neg h, hb, splA_spl]
      cases hs : spl c l with
      | nil => exact absurd hs (spl_ne c l)
      | cons a t => simp
theorem splA_nil {c : UInt8} {l : List UInt8} : splA c [] [] l = spl c l := by
  rw [splA_spl]
  cases hs : spl c l with
  | nil => exact absurd hs (spl_ne c l)
  | cons a t => simp
def mkS (l : List (List UInt8)) : List D := l.map fun x => .str ⟨⟨x⟩⟩
theorem mkS_len (l : List (List UInt8)) : (mkS l).length = l.length := by simp [mkS]
theorem mkS_app (l m : List (List UInt8)) : mkS (l ++ m) = mkS l ++ mkS m := by simp [mkS]
theorem mkS_imm (l : List (List UInt8)) : (mkS l).all D.imm = true := by
  unfold mkS
  rw [List.all_map]
  exact List.all_eq_true.2 fun x _ => rfl
theorem pcr_rsplit (hG : Stable G) (s : Wd) (hs : s.size < 1000000) : PCr Tryz.prog G 32 [.str s] (rSpl (splW s)) := by
  have hlen : s.data.toList.length = s.size := rfl
  unfold splW
  by_cases h256 : 256 < s.size
  · rw [if_pos h256]
    unfold rSpl
    refine pcr_byq ok32 hG (n := 54) (rv := [.tmp 2, .tmp 3]) fun r hr => ?_; unfold c32 st0
    (exact xwalkd)
  rw [if_neg h256]
  refine pcr_byq ok32 hG (n := 54) (rv := [.tmp 2, .tmp 3]) fun r hr => ?_; unfold c32 st0
  (refine xwalk ?_)
  refine awp_loop (fun k σ => ∃ i done cur v, i ≤ s.size ∧ k = s.size - i ∧ done.length ≤ i ∧ cur.length ≤ i ∧ splA 45 done cur (s.data.toList.drop i) = spl 45 s.data.toList ∧ σ = ⟨(putE (putE (putE un0 (some 0) (.str s)) (some 4) (.own 0 v 0 (done.length + 1))) (some 5) (.int .i64 (i : Int))), [some (v, 9, 1, mkS (done ++ [cur]))]⟩) s.size ?_ ⟨0, [], [], 0, Nat.zero_le _, rfl, Nat.le_refl _, Nat.le_refl _, splA_nil, rfl⟩ ?_
  · refine Ent.env (less_put (less_put (less_put (less_un0 _) ?_) ?_) ?_)
    iterate 3 (· exact xlqi)
  rintro k σ1 ⟨i, done, cur, v, hi, rfl, hdl, hcl, hsp, rfl⟩
  by_cases hlt : i < s.size
  · have hb := btl (s := s) (i := i) hlt
    have hex : (s.extract i (i + 1)).data.toList = [s.data.toList[i]'hlt] := by
      rw [ext_list, List.drop_eq_getElem_cons hlt, Nat.add_sub_cancel_left, List.take_succ_cons, List.take_zero]
    have hexs : (s.extract i (i + 1)).size = 1 := by rw [← ba_len, hex]; rfl
    rw [List.drop_eq_getElem_cons hlt, splA] at hsp
    have hml := mkS_len (done ++ [cur])
    rw [List.length_append, List.length_singleton] at hml
    generalize s.data.toList[i]'hlt = x at *
    by_cases hx : x = 45
    · rw [if_pos hx] at hsp
      have hb2 : decide (bt s i = 45) = true := by rw [hb, hx]; rfl
      have hap : mkS (done ++ [cur]) ++ [D.str ⟨#[]⟩] = mkS (done ++ [cur] ++ [[]]) := by rw [mkS_app (done ++ [cur])]; rfl
      have hdl2 : (done ++ [cur]).length = done.length + 1 := by rw [List.length_append]; rfl
      (have we1 := hb2; have we2 := hml; have we3 := hap; refine xwalk3 ?_)
      refine ⟨s.size - (i + 1), _, by omega, ?_, i + 1, done ++ [cur], [], v + 1, by omega, rfl, by omega, by simp, hsp, rfl⟩
      rw [hdl2]
      refine Ent.cutk 1 (less_put (less_put (less_put (less_un0 _) ?_) ?_) ?_) ⟨.inr rfl, trivial⟩ (kb_put (kb_put (kb_put (kb_un0 _) (by simp [kb])) (by simp [kb])) (by simp [kb])) ⟨kbs_of_imm (mkS_imm _), trivial⟩
      iterate 3 (· exact xlqi)
    · rw [if_neg hx] at hsp
      have hb2 : decide (bt s i = 45) = false := by
        rw [hb]
        refine decide_eq_false fun h => hx (UInt8.toNat_inj.1 ?_)
        rw [show (45 : UInt8).toNat = 45 from rfl]
        omega
      have hn1 : ((done.length : Int) + 1) - 1 = (done.length : Int) := by omega
      have hget : (mkS (done ++ [cur])).getD done.length .un = D.str ⟨⟨cur⟩⟩ := by
        rw [mkS_app, List.getD_eq_getElem?_getD, ← mkS_len done]
        exact congrArg (·.getD D.un) List.getElem?_concat_length
      have hcs : (⟨⟨cur⟩⟩ : Wd).size = cur.length := by simp [ByteArray.size]
      have hcs2 : (⟨cur⟩ : Array UInt8).size = cur.length := by simp
      have hcx : (⟨⟨cur⟩⟩ : Wd) ++ s.extract i (i + 1) = ⟨⟨cur ++ [x]⟩⟩ := ba_ext (by rw [ByteArray.data_append, Array.toList_append, hex])
      have hset : (mkS (done ++ [cur])).set done.length (D.str ⟨⟨cur ++ [x]⟩⟩) = mkS (done ++ [cur ++ [x]]) := by
        rw [mkS_app, mkS_app, ← mkS_len done, List.set_append_right _ _ (Nat.le_refl _), Nat.sub_self]; rfl
      have hi1 : ((i : Int) + 1).toNat = i + 1 := by omega
      (have we1 := hb2; have we2 := hml; have we3 := hn1; have we4 := hget; have we5 := hi1; have we6 := hcx; have we7 := hset; refine xwalk7 ?_)
      refine ⟨s.size - (i + 1), _, by omega, ?_, i + 1, done, cur ++ [x], v, by omega, rfl, by omega, by simp; omega, hsp, rfl⟩
      refine Ent.cutk 1 (less_put (less_put (less_put (less_un0 _) ?_) ?_) ?_) ⟨.inr rfl, trivial⟩ (kb_put (kb_put (kb_put (kb_un0 _) (by simp [kb])) (by simp [kb])) (by simp [kb])) ⟨kbs_of_imm (mkS_imm _), trivial⟩
      iterate 3 (· exact xlqi)
  · obtain rfl : i = s.size := by omega
    rw [show s.data.toList.drop s.size = [] from List.drop_eq_nil_of_le (Nat.le_refl _), splA] at hsp
    have hwd : mkS (done ++ [cur]) = (words s).map .str := by rw [hsp, mkS, words, List.map_map]; rfl
    have hwn : (words s).length = done.length + 1 := by rw [← List.length_map (f := D.str), ← hwd, mkS_len, List.length_append]; rfl
    rw [hwd]
    have hgood : ∀ w ∈ words s, PCr Tryz.prog G 57 [.str w] (.bool (goodW w)) := fun w hw => pcr_rgoodword hG w (by have := (words_len (s := s)).1 w hw; omega)
    generalize words s = l at *
    rw [← hwn]
    have hll : (l.map D.str).length = l.length := List.length_map ..
    have himm := strs_imm l
    have htk : (l.map D.str).take l.length = l.map .str := List.take_of_length_le (by omega)
    have hlb : l.length ≤ 1000000 := by omega
    clear hsp hwd
    (refine xwalk ?_)
    refine awp_loop (fun k σ => ∃ i, i ≤ l.length ∧ k = l.length - i ∧ (∀ j (h : j < l.length), j < i → goodW l[j] = true) ∧ σ = ⟨(putE (putE un0 (some 4) (.own 0 v 0 l.length)) (some 6) (.int .i64 (i : Int))), [some (v, 9, 1, l.map .str)]⟩) l.length ?_ ⟨0, Nat.zero_le _, rfl, fun _ _ h => absurd h (Nat.not_lt_zero _), rfl⟩ ?_
    · refine Ent.cutk 1 (less_put (less_put (less_un0 _) ?_) ?_) ⟨.inr rfl, trivial⟩ (kb_put (kb_put (kb_un0 _) (by simp [kb])) (by simp [kb])) ⟨kbs_of_imm himm, trivial⟩
      iterate 2 (· exact xlqi)
    rintro k σ1 ⟨i, hi, rfl, hg, rfl⟩
    by_cases hlt : i < l.length
    · have hgi := hgood l[i] (List.getElem_mem hlt)
      have hget : (l.map D.str).getD i .un = .str l[i] := by simp [List.getD_eq_getElem?_getD, hlt]
      cases hgw : goodW l[i] with
      | false =>
        rw [hgw] at hgi
        have hall : l.all goodW = false := by
          refine Bool.eq_false_iff.2 fun h => ?_
          have := List.all_eq_true.1 h l[i] (List.getElem_mem hlt)
          rw [hgw] at this; cases this
        rw [hall] at hr
        simp only [Bool.false_eq_true, if_false] at hr
        unfold rSpl at hr
        clear hgood
        generalize l[i] = w at *
        (have we1 := hget; exact xwalkd1)
      | true =>
        rw [hgw] at hgi
        have hg' : ∀ j (h : j < l.length), j < i + 1 → goodW l[j] = true := fun j h hj => by
          rcases Nat.lt_or_ge j i with h1 | h1
          · exact hg j h h1
          · obtain rfl : j = i := by omega
            exact hgw
        clear hgood hg hgw
        generalize l[i] = w at *
        (have we1 := hget; refine xwalk1 ?_)
        refine ⟨l.length - (i + 1), _, by omega, ?_, i + 1, by omega, rfl, hg', rfl⟩
        refine Ent.cutk 1 (less_put (less_put (less_un0 _) ?_) ?_) ⟨.inr rfl, trivial⟩ (kb_put (kb_put (kb_un0 _) (by simp [kb])) (by simp [kb])) ⟨kbs_of_imm himm, trivial⟩
        iterate 2 (· exact xlqi)
    · have hall : l.all goodW = true := by
        refine List.all_eq_true.2 fun x hx => ?_
        obtain ⟨j, hj, rfl⟩ := List.mem_iff_getElem.1 hx
        exact hg j hj (by omega)
      rw [hall] at hr
      simp only [if_true] at hr
      unfold rSpl at hr
      clear hgood hg
      (have we1 := himm; have we2 := htk; have we3 := hll; exact xwalkd3)
end Go.Proofs.YtgimaioeifnajaaGreatDoorK.TabT
