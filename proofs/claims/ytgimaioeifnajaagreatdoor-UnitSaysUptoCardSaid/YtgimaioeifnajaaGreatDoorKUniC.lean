/-
  Package atom: power, name, Parse, Show: what they compute.
-/
import Derived.Test.YtgimaioeifnajaaGreatDoorKIrLib
import Derived.Test.YtgimaioeifnajaaGreatDoorKIrX
import Derived.Test.YtgimaioeifnajaaGreatDoorKUniB
set_option linter.all false
set_option maxHeartbeats 0
namespace Go.Proofs.YtgimaioeifnajaaGreatDoorK.TabT
open AI NatIr Dig NatT LibT Go.Lib
attribute [local irreducible] awp awpOps
attribute [local go_sem] not_true_eq_false not_false_eq_true eq_self decide_true decide_false beq_self_eq_true Int.reduceAdd
variable {G : World → Prop}
def idxF (s : Wd) : Nat → List Wd → Int
  | _, [] => -1
  | i, x :: l => if x = s then (i : Int) else idxF s (i + 1) l
theorem idxF_in {s : Wd} : ∀ {l : List Wd} {i : Nat}, decide (idxF s i l ≥ 0) = inW s l
  | [], _ => rfl
  | x :: l, i => by
    rw [idxF, inW, List.any_cons]
    split
    · rename_i h
      rw [decide_eq_true h, Bool.true_or]
      exact decide_eq_true (by omega)
    · rename_i h
      rw [decide_eq_false h, Bool.false_or]
      exact idxF_in
theorem pcr_index (hG : Stable G) (l : List Wd) (s : Wd) (hl : l.length < 1000000) : PCr Tryz.prog G 162 [.sl l.length (l.map .str), .str s] (.int .i64 (idxF s 0 l)) := by
  have hll : (l.map D.str).length = l.length := List.length_map ..
  refine pcr_byq ok162 hG (n := 19) (rv := [.tmp 4]) fun r hr => ?_; unfold c162 st0
  (refine xwalk ?_)
  refine awp_loop (fun k σ => ∃ i, i ≤ l.length ∧ k = l.length - i ∧ idxF s i (l.drop i) = idxF s 0 l ∧ σ = ⟨(putE (putE (putE (putE un0 (some 0) (.sl l.length (l.map .str))) (some 1) (.str s)) (some 7) (.int .i64 (l.length : Int))) (some 8) (.int .i64 (i : Int))), []⟩) l.length ?_ ⟨0, Nat.zero_le _, rfl, rfl, rfl⟩ ?_
  · refine Ent.env (less_put (less_put (less_put (less_put (less_un0 _) ?_) ?_) ?_) ?_)
    iterate 4 (· first | exact xlq | rfl | (simp only [go_sem, Nat.reduceEqDiff, Nat.reduceAdd, Nat.reduceLT, Nat.reduceMul, Nat.reduceLeDiff, reduceCtorEq, Int.reduceNeg, Int.reduceToNat]; exact congrArg (D.int .i64) (by omega)))
  rintro k σ1 ⟨i, hi, rfl, hf, rfl⟩
  by_cases hlt : i < l.length
  · have hget := strs_get1 hlt
    rw [List.drop_eq_getElem_cons hlt, idxF] at hf
    generalize l[i] = w at *
    by_cases hw : w = s
    · rw [if_pos hw] at hf
      rw [← hf] at hr
      have hwd : decide (s = w) = true := decide_eq_true hw.symm
      (have we1 := hget; have we2 := hwd; exact xwalkd2)
    · rw [if_neg hw] at hf
      have hwd : decide (s = w) = false := decide_eq_false (fun h => hw h.symm)
      (have we1 := hget; have we2 := hwd; refine xwalk2 ?_)
      refine ⟨l.length - (i + 1), _, by omega, ?_, i + 1, by omega, rfl, hf, rfl⟩
      refine Ent.env (less_put (less_put (less_put (less_put (less_un0 _) ?_) ?_) ?_) ?_)
      iterate 4 (· first | exact xlq | rfl | (simp only [go_sem, Nat.reduceEqDiff, Nat.reduceAdd, Nat.reduceLT, Nat.reduceMul, Nat.reduceLeDiff, reduceCtorEq, Int.reduceNeg, Int.reduceToNat]; exact congrArg (D.int .i64) (by omega)))
  · obtain rfl : i = l.length := by omega
    rw [List.drop_length, idxF] at hf
    rw [← hf] at hr
    (exact xwalkd)
theorem pcr_contains (hG : Stable G) (l : List Wd) (s : Wd) (hl : l.length < 1000000) : PCr Tryz.prog G 136 [.sl l.length (l.map .str), .str s] (.bool (inW s l)) := by
  have h1 := pcr_index hG l s hl
  have h2 := idxF_in (s := s) (l := l) (i := 0)
  have h3 := strs_imm l
  generalize idxF s 0 l = x at *
  refine pcr_byq ok136 hG (n := 9) (rv := [.tmp 4]) fun r hr => ?_; unfold c136 st0
  (have we1 := h2; exact xwalkd1)
theorem dec_len15 {n : Nat} (h : n ≤ 15) : (itoa (n : Int)).length ≤ 2 := by
  rw [itoa, if_neg (by omega), Int.toNat_natCast]
  by_cases h1 : n < 10
  · rw [dec_small h1]; simp
  · rw [dec_big h1, dec_small (by omega)]; simp
theorem pcr_power (hG : Stable G) (hT : ∀ w, G w → Lib.TabIs Tryz.prog w "internal/strconv.uint64pow10" .u64 Lib.pow10Tab) (s : Wd) : PCr Tryz.prog G 104 [.str s] (.int .i64 (powW s : Nat)) := by
  unfold powW
  by_cases h1 : s = wSq
  · rw [if_pos h1]
    have e1 : decide (s = (⟨#[115, 113, 117, 97, 114, 101]⟩ : ByteArray)) = true := decide_eq_true h1
    refine pcr_byq ok104 hG (n := 19) (rv := [.tmp 2]) fun r hr => ?_; unfold c104 st0
    (have we1 := e1; exact xwalkd1)
  rw [if_neg h1]
  have e1 : decide (s = (⟨#[115, 113, 117, 97, 114, 101]⟩ : ByteArray)) = false := decide_eq_false h1
  by_cases h2 : s = wCu
  · rw [if_pos h2]
    have e2 : decide (s = (⟨#[99, 117, 98, 105, 99]⟩ : ByteArray)) = true := decide_eq_true h2
    refine pcr_byq ok104 hG (n := 19) (rv := [.tmp 2]) fun r hr => ?_; unfold c104 st0
    (have we1 := e1; have we2 := e2; exact xwalkd2)
  rw [if_neg h2]
  have e2 : decide (s = (⟨#[99, 117, 98, 105, 99]⟩ : ByteArray)) = false := decide_eq_false h2
  refine pcr_byq ok104 hG (n := 19) (rv := [.tmp 2]) fun r hr => ?_; unfold c104 st0
  (have we1 := e1; have we2 := e2; refine xwalk2 ?_)
  refine awp_loop (fun k σ => ∃ n, 4 ≤ n ∧ n ≤ 16 ∧ k = 16 - n ∧ powF s (16 - n) n = powF s 12 4 ∧ σ = ⟨(putE (putE un0 (some 0) (.str s)) (some 3) (.int .i64 (n : Int))), []⟩) 12 ?_ ⟨4, Nat.le_refl _, by omega, rfl, rfl, rfl⟩ ?_
  · refine Ent.env (less_put (less_put (less_un0 _) ?_) ?_)
    iterate 2 (· first | exact xlq | rfl | (simp only [go_sem, Nat.reduceEqDiff, Nat.reduceAdd, Nat.reduceLT, Nat.reduceMul, Nat.reduceLeDiff, reduceCtorEq, Int.reduceNeg, Int.reduceToNat]; exact congrArg (D.int .i64) (by omega)))
  rintro k σ1 ⟨n, h4, hi, rfl, hf, rfl⟩
  have hit := lib_itoa (G := G) hT (n : Int) (by omega) (by omega)
  by_cases hlt : n < 16
  · rw [show 16 - n = (16 - (n + 1)) + 1 by omega, powF] at hf
    have hsz : (⟨(itoa (n : Int)).toArray⟩ : ByteArray).size ≤ 2 := dec_len15 (by omega)
    unfold wPow at hf
    generalize (⟨(itoa (n : Int)).toArray⟩ : ByteArray) = it at *
    have hs3 : (#[112, 111, 119] : Array UInt8).size = 3 := rfl
    by_cases hw : s = (⟨#[112, 111, 119]⟩ : ByteArray) ++ it
    · rw [if_pos hw] at hf
      rw [← hf] at hr
      have hwd : decide (s = (⟨#[112, 111, 119]⟩ : ByteArray) ++ it) = true := decide_eq_true hw
      (have we1 := hwd; exact xwalkd1)
    · rw [if_neg hw] at hf
      have hwd : decide (s = (⟨#[112, 111, 119]⟩ : ByteArray) ++ it) = false := decide_eq_false hw
      (have we1 := hwd; refine xwalk1 ?_)
      refine ⟨16 - (n + 1), _, by omega, ?_, n + 1, by omega, by omega, rfl, hf, rfl⟩
      refine Ent.env (less_put (less_put (less_un0 _) ?_) ?_)
      iterate 2 (· first | exact xlq | rfl | (simp only [go_sem, Nat.reduceEqDiff, Nat.reduceAdd, Nat.reduceLT, Nat.reduceMul, Nat.reduceLeDiff, reduceCtorEq, Int.reduceNeg, Int.reduceToNat]; exact congrArg (D.int .i64) (by omega)))
  · obtain rfl : n = 16 := by omega
    rw [show 16 - 16 = 0 from rfl, powF] at hf
    rw [← hf] at hr
    (exact xwalkd)
def rName : Option (Wd × Wd) → D
  | some q => .tup [.agg [.str q.1, .str q.2, .int .i64 0], .bool true]
  | none => .tup [.agg [.str ⟨#[]⟩, .str ⟨#[]⟩, .int .i64 0], .bool false]
theorem pcr_aname (hG : Stable G) (k : Kn) (s : Wd) (hn : k.names.length < 1000000) (hp : k.prefs.length < 1000000) : PCr Tryz.prog G 105 [k.D, .str s] (rName (nameA k s)) := by
  obtain ⟨names, prefs⟩ := k
  dsimp only at hn hp
  unfold Kn.D nameA
  dsimp only
  have hc0 := pcr_contains hG names s hn
  have hni := strs_imm names
  have hpi := strs_imm prefs
  have hpl : (prefs.map D.str).length = prefs.length := List.length_map ..
  cases hin : inW s names with
  | true =>
    rw [hin] at hc0
    rw [if_pos rfl]
    unfold rName
    refine pcr_byq ok105 hG (n := 57) (rv := [.cell 4 true 3, .tmp 5]) fun r hr => ?_; unfold c105 st0
    (exact xwalkd)
  | false =>
    rw [hin] at hc0
    rw [if_neg (by decide)]
    have hcc : ∀ x, PCr Tryz.prog G 136 [.sl names.length (names.map .str), .str x] (.bool (inW x names)) := fun x => pcr_contains hG names x hn
    have hcp : ∀ p, PCr Tryz.prog G 137 [.str s, .str p] (.tup [.str (behind p s), .bool (hasP p s)]) := fun p => lib_cutprefix s p
    refine pcr_byq ok105 hG (n := 57) (rv := [.cell 4 true 3, .tmp 5]) fun r hr => ?_; unfold c105 st0
    (refine xwalk ?_)
    refine awp_loop (fun k σ => ∃ i b, i ≤ prefs.length ∧ k = prefs.length - i ∧ bestF names s b (prefs.drop i) = bestF names s none prefs ∧
      ((b = none ∧ σ = ⟨(putE (putE (putE (putE (putE (putE (putE (putE un0 (some 1) (.str s)) (some 2) (.ptr 0 0 0)) (some 4) (.ptr 1 0 0)) (some 6) (.ptr 2 0 0)) (some 7) (.bool false)) (some 20) (.sl prefs.length (prefs.map .str))) (some 21) (.int .i64 (prefs.length : Int))) (some 22) (.int .i64 (i : Int))), [some (0, 31, 2, [.sl names.length (names.map .str), .sl prefs.length (prefs.map .str)]), some (0, 60, 3, [.str ⟨#[]⟩, .str ⟨#[]⟩, .int .i64 0]), some (0, 60, 3, [.str ⟨#[]⟩, .str ⟨#[]⟩, .int .i64 0])]⟩) ∨
       (∃ q, b = some q ∧ σ = ⟨(putE (putE (putE (putE (putE (putE (putE (putE un0 (some 1) (.str s)) (some 2) (.ptr 0 0 0)) (some 4) (.ptr 1 0 0)) (some 6) (.ptr 2 0 0)) (some 7) (.bool true)) (some 20) (.sl prefs.length (prefs.map .str))) (some 21) (.int .i64 (prefs.length : Int))) (some 22) (.int .i64 (i : Int))), [some (0, 31, 2, [.sl names.length (names.map .str), .sl prefs.length (prefs.map .str)]), some (0, 60, 3, [.str ⟨#[]⟩, .str ⟨#[]⟩, .int .i64 0]), some (0, 60, 3, [.str q.1, .str q.2, .int .i64 0])]⟩))) prefs.length ?_ ⟨0, none, Nat.zero_le _, rfl, rfl, .inl ⟨rfl, rfl⟩⟩ ?_
    · refine Ent.env (less_put (less_put (less_put (less_put (less_put (less_put (less_put (less_put (less_un0 _) ?_) ?_) ?_) ?_) ?_) ?_) ?_) ?_)
      iterate 8 (· first | exact xlq | rfl | (simp only [go_sem, Nat.reduceEqDiff, Nat.reduceAdd, Nat.reduceLT, Nat.reduceMul, Nat.reduceLeDiff, reduceCtorEq, Int.reduceNeg, Int.reduceToNat]; exact congrArg (D.int .i64) (by omega)))
    rintro k σ1 ⟨i, b, hi, rfl, hb, hσ⟩
    by_cases hlt : i < prefs.length
    · have hget := strs_get1 hlt
      rw [List.drop_eq_getElem_cons hlt, bestF, List.foldl_cons] at hb
      generalize prefs[i] = w at *
      have hcw := hcp w
      have hcn := hcc (behind w s)
      unfold bestS at hb
      cases hhp : hasP w s with
      | false =>
        rw [hhp] at hcw hb
        simp only [Bool.false_and, Bool.false_eq_true, if_false] at hb
        clear hcc hcp
        generalize behind w s = bh at *
        rcases hσ with ⟨rfl, rfl⟩ | ⟨q, rfl, rfl⟩
        · (have we1 := hget; refine xwalk1 ?_)
          refine ⟨prefs.length - (i + 1), _, by omega, ?_, i + 1, none, by omega, rfl, hb, .inl ⟨rfl, rfl⟩⟩
          refine (Ent.cutk 3 (less_put (less_put (less_put (less_put (less_put (less_put (less_put (less_put (less_un0 _) ?_) ?_) ?_) ?_) ?_) ?_) ?_) ?_) (by exact ⟨.inr rfl, .inr rfl, .inr rfl, trivial⟩) (kb_put (kb_put (kb_put (kb_put (kb_put (kb_put (kb_put (kb_put (kb_un0 _) (by simp [kb])) (by simp [kb])) (by simp [kb])) (by simp [kb])) (by simp [kb])) (by simp [kb])) (by simp [kb])) (by simp [kb])) (by simp [kbH, kb.kbs, kb, kbs_W, kbs_SS]))
          iterate 8 (· first | exact xlq | rfl | (simp only [go_sem, Nat.reduceEqDiff, Nat.reduceAdd, Nat.reduceLT, Nat.reduceMul, Nat.reduceLeDiff, reduceCtorEq, Int.reduceNeg, Int.reduceToNat]; exact congrArg (D.int .i64) (by omega)))
        · (have we1 := hget; refine xwalk1 ?_)
          refine ⟨prefs.length - (i + 1), _, by omega, ?_, i + 1, some q, by omega, rfl, hb, .inr ⟨q, rfl, rfl⟩⟩
          refine (Ent.cutk 3 (less_put (less_put (less_put (less_put (less_put (less_put (less_put (less_put (less_un0 _) ?_) ?_) ?_) ?_) ?_) ?_) ?_) ?_) (by exact ⟨.inr rfl, .inr rfl, .inr rfl, trivial⟩) (kb_put (kb_put (kb_put (kb_put (kb_put (kb_put (kb_put (kb_put (kb_un0 _) (by simp [kb])) (by simp [kb])) (by simp [kb])) (by simp [kb])) (by simp [kb])) (by simp [kb])) (by simp [kb])) (by simp [kb])) (by simp [kbH, kb.kbs, kb, kbs_W, kbs_SS]))
          iterate 8 (· first | exact xlq | rfl | (simp only [go_sem, Nat.reduceEqDiff, Nat.reduceAdd, Nat.reduceLT, Nat.reduceMul, Nat.reduceLeDiff, reduceCtorEq, Int.reduceNeg, Int.reduceToNat]; exact congrArg (D.int .i64) (by omega)))
      | true =>
      rw [hhp] at hcw hb
      cases hic : inW (behind w s) names with
      | false =>
        rw [hic] at hcn hb
        simp only [Bool.true_and, Bool.false_and, Bool.false_eq_true, if_false] at hb
        clear hcc hcp
        generalize behind w s = bh at *
        rcases hσ with ⟨rfl, rfl⟩ | ⟨q, rfl, rfl⟩
        · (have we1 := hget; refine xwalk1 ?_)
          refine ⟨prefs.length - (i + 1), _, by omega, ?_, i + 1, none, by omega, rfl, hb, .inl ⟨rfl, rfl⟩⟩
          refine (Ent.cutk 3 (less_put (less_put (less_put (less_put (less_put (less_put (less_put (less_put (less_un0 _) ?_) ?_) ?_) ?_) ?_) ?_) ?_) ?_) (by exact ⟨.inr rfl, .inr rfl, .inr rfl, trivial⟩) (kb_put (kb_put (kb_put (kb_put (kb_put (kb_put (kb_put (kb_put (kb_un0 _) (by simp [kb])) (by simp [kb])) (by simp [kb])) (by simp [kb])) (by simp [kb])) (by simp [kb])) (by simp [kb])) (by simp [kb])) (by simp [kbH, kb.kbs, kb, kbs_W, kbs_SS]))
          iterate 8 (· first | exact xlq | rfl | (simp only [go_sem, Nat.reduceEqDiff, Nat.reduceAdd, Nat.reduceLT, Nat.reduceMul, Nat.reduceLeDiff, reduceCtorEq, Int.reduceNeg, Int.reduceToNat]; exact congrArg (D.int .i64) (by omega)))
        · (have we1 := hget; refine xwalk1 ?_)
          refine ⟨prefs.length - (i + 1), _, by omega, ?_, i + 1, some q, by omega, rfl, hb, .inr ⟨q, rfl, rfl⟩⟩
          refine (Ent.cutk 3 (less_put (less_put (less_put (less_put (less_put (less_put (less_put (less_put (less_un0 _) ?_) ?_) ?_) ?_) ?_) ?_) ?_) ?_) (by exact ⟨.inr rfl, .inr rfl, .inr rfl, trivial⟩) (kb_put (kb_put (kb_put (kb_put (kb_put (kb_put (kb_put (kb_put (kb_un0 _) (by simp [kb])) (by simp [kb])) (by simp [kb])) (by simp [kb])) (by simp [kb])) (by simp [kb])) (by simp [kb])) (by simp [kb])) (by simp [kbH, kb.kbs, kb, kbs_W, kbs_SS]))
          iterate 8 (· first | exact xlq | rfl | (simp only [go_sem, Nat.reduceEqDiff, Nat.reduceAdd, Nat.reduceLT, Nat.reduceMul, Nat.reduceLeDiff, reduceCtorEq, Int.reduceNeg, Int.reduceToNat]; exact congrArg (D.int .i64) (by omega)))
      | true =>
        rw [hic] at hcn hb
        simp only [Bool.true_and] at hb
        clear hcc hcp
        rcases hσ with ⟨rfl, rfl⟩ | ⟨q, rfl, rfl⟩
        · simp only [if_true] at hb
          (have we1 := hget; refine xwalk1 ?_)
          refine ⟨prefs.length - (i + 1), _, by omega, ?_, i + 1, some (w, behind w s), by omega, rfl, hb, .inr ⟨_, rfl, rfl⟩⟩
          refine (Ent.cutk 3 (less_put (less_put (less_put (less_put (less_put (less_put (less_put (less_put (less_un0 _) ?_) ?_) ?_) ?_) ?_) ?_) ?_) ?_) (by exact ⟨.inr rfl, .inr rfl, .inr rfl, trivial⟩) (kb_put (kb_put (kb_put (kb_put (kb_put (kb_put (kb_put (kb_put (kb_un0 _) (by simp [kb])) (by simp [kb])) (by simp [kb])) (by simp [kb])) (by simp [kb])) (by simp [kb])) (by simp [kb])) (by simp [kb])) (by simp [kbH, kb.kbs, kb, kbs_W, kbs_SS]))
          iterate 8 (· first | exact xlq | rfl | (simp only [go_sem, Nat.reduceEqDiff, Nat.reduceAdd, Nat.reduceLT, Nat.reduceMul, Nat.reduceLeDiff, reduceCtorEq, Int.reduceNeg, Int.reduceToNat]; exact congrArg (D.int .i64) (by omega)))
        · dsimp only at hb
          by_cases hsz : q.1.size < w.size
          · rw [if_pos (decide_eq_true hsz)] at hb
            have hd : decide ((w.size : Int) > (q.1.size : Int)) = true := decide_eq_true (by omega)
            (have we1 := hget; have we2 := hd; refine xwalk2 ?_)
            refine ⟨prefs.length - (i + 1), _, by omega, ?_, i + 1, some (w, behind w s), by omega, rfl, hb, .inr ⟨_, rfl, rfl⟩⟩
            refine (Ent.cutk 3 (less_put (less_put (less_put (less_put (less_put (less_put (less_put (less_put (less_un0 _) ?_) ?_) ?_) ?_) ?_) ?_) ?_) ?_) (by exact ⟨.inr rfl, .inr rfl, .inr rfl, trivial⟩) (kb_put (kb_put (kb_put (kb_put (kb_put (kb_put (kb_put (kb_put (kb_un0 _) (by simp [kb])) (by simp [kb])) (by simp [kb])) (by simp [kb])) (by simp [kb])) (by simp [kb])) (by simp [kb])) (by simp [kb])) (by simp [kbH, kb.kbs, kb, kbs_W, kbs_SS]))
            iterate 8 (· first | exact xlq | rfl | (simp only [go_sem, Nat.reduceEqDiff, Nat.reduceAdd, Nat.reduceLT, Nat.reduceMul, Nat.reduceLeDiff, reduceCtorEq, Int.reduceNeg, Int.reduceToNat]; exact congrArg (D.int .i64) (by omega)))
          · rw [if_neg (by simpa using hsz)] at hb
            have hd : decide ((w.size : Int) > (q.1.size : Int)) = false := decide_eq_false (by omega)
            (have we1 := hget; have we2 := hd; refine xwalk2 ?_)
            refine ⟨prefs.length - (i + 1), _, by omega, ?_, i + 1, some q, by omega, rfl, hb, .inr ⟨q, rfl, rfl⟩⟩
            refine (Ent.cutk 3 (less_put (less_put (less_put (less_put (less_put (less_put (less_put (less_put (less_un0 _) ?_) ?_) ?_) ?_) ?_) ?_) ?_) ?_) (by exact ⟨.inr rfl, .inr rfl, .inr rfl, trivial⟩) (kb_put (kb_put (kb_put (kb_put (kb_put (kb_put (kb_put (kb_put (kb_un0 _) (by simp [kb])) (by simp [kb])) (by simp [kb])) (by simp [kb])) (by simp [kb])) (by simp [kb])) (by simp [kb])) (by simp [kb])) (by simp [kbH, kb.kbs, kb, kbs_W, kbs_SS]))
            iterate 8 (· first | exact xlq | rfl | (simp only [go_sem, Nat.reduceEqDiff, Nat.reduceAdd, Nat.reduceLT, Nat.reduceMul, Nat.reduceLeDiff, reduceCtorEq, Int.reduceNeg, Int.reduceToNat]; exact congrArg (D.int .i64) (by omega)))
    · obtain rfl : i = prefs.length := by omega
      rw [List.drop_length] at hb
      rw [show bestF names s b [] = b from rfl] at hb
      rw [← hb] at hr
      clear hcc hcp
      rcases hσ with ⟨rfl, rfl⟩ | ⟨q, rfl, rfl⟩
      · unfold rName at hr
        (exact xwalkd)
      · unfold rName at hr
        dsimp only at hr
        (exact xwalkd)
def rAt : Option (At × Nat) → D
  | some q => .tup [.agg [.str q.1.pre, .str q.1.name, .int .i64 q.1.pw], .int .i64 (q.2 : Int), .bool true]
  | none => .tup [.agg [.str ⟨#[]⟩, .str ⟨#[]⟩, .int .i64 0], .int .i64 0, .bool false]
theorem strs_at0 {l : List Wd} {w : Wd} {r : List Wd} (h : l = w :: r) : (l.map D.str).take 1 = [.str w] := by subst h; rfl
theorem strs_at1 {l : List Wd} {w v : Wd} {r : List Wd} (h : l = w :: v :: r) : ((l.map D.str).drop 1).take 1 = [.str v] := by subst h; rfl
theorem pcr_aparse (hG : Stable G) (hT : ∀ w, G w → Lib.TabIs Tryz.prog w "internal/strconv.uint64pow10" .u64 Lib.pow10Tab) (k : Kn) (l : List Wd) (hn : k.names.length < 1000000) (hp : k.prefs.length < 1000000) (hl : l.length < 1000000) : PCr Tryz.prog G 77 [k.D, .sl l.length (l.map .str)] (rAt (parseA k l)) := by
  have hll : (l.map D.str).length = l.length := List.length_map ..
  have hli := strs_imm l
  match hl0 : l with
  | [] =>
    rw [parseA]
    unfold rAt Kn.D
    simp only [List.length_nil, List.map_nil] at *
    refine pcr_byq ok77 hG (n := 44) (rv := [.cell 4 true 3, .tmp 5, .tmp 6]) fun r hr => ?_; unfold c77 st0
    (exact xwalkd)
  | w :: rest =>
    have hpw := pcr_power (G := G) hG hT w
    have hnm := fun s => pcr_aname (G := G) hG k s hn hp
    have hbn := powW_bnd w
    rw [parseA]
    have hg0 := strs_at0 hl0
    by_cases h1 : powW w = 1
    · rw [if_pos h1, if_pos h1]
      rw [h1, show ((1 : Nat) : Int) = 1 from rfl] at hpw
      rw [h1, show ((1 : Nat) : Int) = 1 from rfl]
      have hmn : (if (1 : Int) < (1 : Int) - 1 then (1 : Int) else (1 : Int) - 1) = 0 := rfl
      have hnw := hnm w
      clear hnm
      dsimp only
      rw [hl0] at hg0
      have hpos : 0 < (w :: rest).length := by simp
      clear hl0
      generalize w :: rest = L at *
      cases hna : nameA k w with
      | none =>
        rw [hna] at hnw
        unfold rName at hnw
        unfold rAt
        unfold Kn.D at *
        dsimp only at hnw ⊢
        refine pcr_byq ok77 hG (n := 44) (rv := [.cell 4 true 3, .tmp 5, .tmp 6]) fun r hr => ?_; unfold c77 st0
        (have we1 := hg0; have we2 := hmn; exact xwalkd2)
      | some q =>
        rw [hna] at hnw
        unfold rName at hnw
        unfold rAt
        unfold Kn.D at *
        dsimp only at hnw ⊢
        refine pcr_byq ok77 hG (n := 44) (rv := [.cell 4 true 3, .tmp 5, .tmp 6]) fun r hr => ?_; unfold c77 st0
        (have we1 := hg0; have we2 := hmn; exact xwalkd2)
    · rw [if_neg h1, if_neg h1]
      have hmn : (if (1 : Int) < ((powW w : Nat) : Int) - 1 then (1 : Int) else ((powW w : Nat) : Int) - 1) = 1 := by split <;> omega
      match hr0 : rest with
      | [] =>
        subst hl0
        rw [show ([] : List Wd)[0]? = none from rfl]
        dsimp only
        unfold rAt Kn.D
        simp only [List.length_cons, List.length_nil, List.map_cons, List.map_nil] at *
        generalize powW w = pw at *
        refine pcr_byq ok77 hG (n := 44) (rv := [.cell 4 true 3, .tmp 5, .tmp 6]) fun r hr => ?_; unfold c77 st0
        (have we1 := hmn; exact xwalkd1)
      | v :: rest2 =>
        have hg1 := strs_at1 hl0
        rw [List.getElem?_cons_zero]
        dsimp only
        have hnw := hnm v
        clear hnm
        rw [hl0] at hg0 hg1
        have hpos : 1 < (w :: v :: rest2).length := by simp
        clear hl0
        generalize w :: v :: rest2 = L at *
        generalize powW w = pw at *
        cases hna : nameA k v with
        | none =>
          rw [hna] at hnw
          unfold rName at hnw
          unfold rAt
          unfold Kn.D at *
          dsimp only at hnw ⊢
          refine pcr_byq ok77 hG (n := 44) (rv := [.cell 4 true 3, .tmp 5, .tmp 6]) fun r hr => ?_; unfold c77 st0
          (have we1 := hg0; have we2 := hg1; have we3 := hmn; exact xwalkd3)
        | some q =>
          rw [hna] at hnw
          unfold rName at hnw
          unfold rAt
          unfold Kn.D at *
          dsimp only at hnw ⊢
          refine pcr_byq ok77 hG (n := 44) (rv := [.cell 4 true 3, .tmp 5, .tmp 6]) fun r hr => ?_; unfold c77 st0
          (have we1 := hg0; have we2 := hg1; have we3 := hmn; exact xwalkd3)
end Go.Proofs.YtgimaioeifnajaaGreatDoorK.TabT
