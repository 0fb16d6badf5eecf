/-
  Joined: UniH0, UniH.
-/
import Derived.Test.YtgimaioeifnajaaGreatDoorKUniG
import Derived.Test.YtgimaioeifnajaaGreatDoorKIrX
set_option linter.all false
set_option maxHeartbeats 0
/-
  A slot that holds what it should, up to sums.
-/
namespace Go.Proofs.YtgimaioeifnajaaGreatDoorK.AI
open Go.RowKit
theorem xlqi {α : Sort _} {a b : α} (h : a = b := by first | rfl | (simp only [go_sem, Nat.reduceEqDiff, Nat.reduceAdd, Nat.reduceLT, Nat.reduceMul, Nat.reduceLeDiff, reduceCtorEq, Int.reduceNeg, Int.reduceToNat]; done) | (simp only [go_sem, Nat.reduceEqDiff, Nat.reduceAdd, Nat.reduceLT, Nat.reduceMul, Nat.reduceLeDiff, reduceCtorEq, Int.reduceNeg, Int.reduceToNat]; exact congrArg (D.int .i64) (by omega)) | (simp only [go_sem, Nat.reduceEqDiff, Nat.reduceAdd, Nat.reduceLT, Nat.reduceMul, Nat.reduceLeDiff, reduceCtorEq, Int.reduceNeg, Int.reduceToNat]; exact congrArg (D.own _ _ _) (by omega))) : a = b := h
end Go.Proofs.YtgimaioeifnajaaGreatDoorK.AI
/-
  Package unit: ShowPart, Show: what they compute.
-/
namespace Go.Proofs.YtgimaioeifnajaaGreatDoorK.TabT
open AI NatIr Dig NatT LibT Go.Lib
attribute [local irreducible] awp awpOps
attribute [local go_sem] not_true_eq_false not_false_eq_true eq_self decide_true decide_false beq_self_eq_true Int.reduceAdd nl
variable {G : World → Prop}
def ptT (p : Pt) : List Wd := p.num.map shA ++ ((if p.c ≠ 1 ∨ p.den ≠ [] then [wPer] else []) ++ ((if p.c ≠ 1 then [txt p.c] else []) ++ p.den.map shA))
theorem shA_size (a : At) : (shA a).size ≤ a.pre.size + a.name.size + 7 := by
  unfold shA
  split
  · rename_i h
    rw [J_at]
    have hps : (a.pre ++ a.name).size = a.pre.size + a.name.size := ByteArray.size_append
    have hs1 : (#[115, 113, 117, 97, 114, 101, 45] : Array UInt8).size = 7 := rfl
    have hs2 : (#[99, 117, 98, 105, 99, 45] : Array UInt8).size = 6 := rfl
    have hs3 : (#[112, 111, 119] : Array UInt8).size = 3 := rfl
    have hs4 : (#[45] : Array UInt8).size = 1 := rfl
    have hsz : (⟨(itoa (a.pw.toNat : Int)).toArray⟩ : ByteArray).size ≤ 2 := dec_len15 (by omega)
    split
    · omega
    · split
      · rw [ByteArray.size_append]; show (#[115, 113, 117, 97, 114, 101, 45] : Array UInt8).size + _ ≤ _; omega
      · split
        · rw [ByteArray.size_append]; show (#[99, 117, 98, 105, 99, 45] : Array UInt8).size + _ ≤ _; omega
        · rw [ByteArray.size_append, ByteArray.size_append, ByteArray.size_append]; show (#[112, 111, 119] : Array UInt8).size + _ + (#[45] : Array UInt8).size + _ ≤ _; omega
  · exact Nat.zero_le _
theorem jt_len {M : Nat} : ∀ {l : List (List UInt8)}, (∀ x ∈ l, x.length ≤ M) → (joinTail [45] l).length ≤ l.length * (M + 1)
  | [], _ => Nat.zero_le _
  | x :: l, h => by
    have := jt_len (l := l) (fun y hy => h y (List.mem_cons_of_mem _ hy))
    have hx := h x List.mem_cons_self
    simp only [jt_cons, List.length_append, List.length_cons, List.length_nil, Nat.add_mul, Nat.one_mul]
    generalize l.length * (M + 1) = z at *
    omega
theorem jn_len {M : Nat} {l : List Wd} (h : ∀ x ∈ l, x.size ≤ M) : (jn l).length ≤ l.length * (M + 1) := by
  match l, h with
  | [], _ => exact Nat.zero_le _
  | x :: l, h =>
    have h1 := jt_len (M := M) (l := l.map (·.data.toList)) (fun y hy => by
      obtain ⟨z, hz, rfl⟩ := List.mem_map.1 hy
      exact h z (List.mem_cons_of_mem _ hz))
    have hx : x.data.toList.length ≤ M := h x List.mem_cons_self
    unfold jn
    rw [List.map_cons, join_cons, List.length_append, List.length_cons, Nat.add_mul, Nat.one_mul]
    rw [List.length_map] at h1
    generalize l.length * (M + 1) = z at *
    omega
theorem txt_size {c : Nat} (h : c < 4294967296 ^ 6) : (txt c).size ≤ 60 := by
  have := dec_len (k := 60) (Nat.lt_of_lt_of_le h (by decide)) (by decide)
  unfold txt
  rw [ba_size]
  exact this
theorem J_lib (l : List Wd) : (⟨(join (l.map (·.data.toList)) (⟨#[45]⟩ : ByteArray).data.toList).toArray⟩ : ByteArray) = J l := rfl
theorem shL_get {l : List At} {i : Nat} (h : i < l.length) : (l.take (i + 1)).map shA = (l.take i).map shA ++ [shA l[i]] := by
  rw [List.take_succ_eq_append_getElem h, List.map_append]; rfl

theorem pcr_showpart1 (hG : Stable G) (hT : ∀ w, G w → Lib.TabIs Tryz.prog w "internal/strconv.uint64pow10" .u64 Lib.pow10Tab) (num den : List At) {x : List Int} {q : Nat} (hq : q = x.length) (hx : ok 4294967296 x) (hxl : x.length ≤ 6)
    (hn : num.length ≤ 1000) (hd : den.length ≤ 1000) (hns : ∀ a ∈ num, a.pre.size < 2000000 ∧ a.name.size < 2000000) (hds : ∀ a ∈ den, a.pre.size < 2000000 ∧ a.name.size < 2000000) (hc1 : vl 4294967296 x = 1) (hd0 : den = []) :
    PCr Tryz.prog G 22 [.agg [.sl num.length (atsC num), .sl den.length (atsC den), .sl q (W x)]] (.str (J (num.map shA ++ den.map shA))) := by
  have hcn : Nm 6 (vl 4294967296 x) (.agg [.sl q (W x)]) := ⟨x, q, hq, hx, rfl, hxl, rfl⟩
  have hlt := hcn.lt
  have hone := pcr_uone (G := G) hG
  have hcmp := pcr_cmpN (G := G) hG hcn (nm_N (X := 1) (L := 1) (by omega)) (by omega) (by omega)
  have htx := pcr_textN (G := G) hG hT hcn (by omega)
  have hts := txt_size hlt
  rw [show (⟨(decDigits (vl 4294967296 x)).toArray⟩ : ByteArray) = txt (vl 4294967296 x) from rfl] at htx
  generalize vl 4294967296 x = c at *
  rw [N_nl] at hone hcmp
  have hsn : ∀ a ∈ num, PCr Tryz.prog G 43 [.agg [.str a.pre, .str a.name, .int .i64 a.pw]] (.str (shA a)) := fun a ha => pcr_ashow hG hT a (by have := hns a ha; omega) (by have := hns a ha; omega)
  have hsd : ∀ a ∈ den, PCr Tryz.prog G 43 [.agg [.str a.pre, .str a.name, .int .i64 a.pw]] (.str (shA a)) := fun a ha => pcr_ashow hG hT a (by have := hds a ha; omega) (by have := hds a ha; omega)
  have hdz : decide ((den.length : Int) > 0) = false := by subst hd0; rfl
  rw [show cmpN c 1 = 0 by unfold cmpN; rw [if_neg (by omega), if_pos hc1]] at hcmp
  have hnl := atsC_len num
  have hdl := atsC_len den
  have hWi := W_imm x
  have hjn : (jn (num.map shA ++ den.map shA)).length ≤ 140737488355328 := by
    refine Nat.le_trans (jn_len (M := 4000010) fun w hw => ?_) ?_
    · simp only [List.mem_append, List.mem_map, List.mem_cons, List.not_mem_nil, or_false] at hw
      have hwp : wPer.size = 3 := rfl
      rcases hw with ⟨a, ha, rfl⟩ | ⟨a, ha, rfl⟩
      · have := shA_size a; have := hns a ha; omega
      · have := shA_size a; have := hds a ha; omega
    · simp only [List.length_append, List.length_map, List.length_cons, List.length_nil]; omega
  have hjl := lib_join (G := G) (num.map shA ++ den.map shA) ⟨#[45]⟩ _ rfl (by simp only [List.length_append, List.length_map, List.length_cons, List.length_nil]; omega) hjn
  rw [J_lib] at hjl
  clear hjn hts hlt
  refine pcr_byq ok22 hG (n := 59) (rv := [.tmp 2]) fun r hr => ?_; unfold c22 st0
  (refine xwalk ?_)
  refine awp_loop (fun j σ => ∃ i v, i ≤ num.length ∧ j = num.length - i ∧ σ = ⟨(putE (putE (putE (putE (putE un0 (some 1) (.ptr 0 0 0)) (some 3) (.own 1 v 0 (i))) (some 10) (.sl num.length (atsC num))) (some 11) (.int .i64 (num.length : Int))) (some 12) (.int .i64 (i : Int))), [some (0, 52, 3, [.sl num.length (atsC num), .sl den.length (atsC den), .sl q (W x)]), some (v, 9, 1, ((num.take i).map shA).map .str)]⟩) num.length ?_ ⟨0, 0, Nat.zero_le _, rfl, rfl⟩ ?_
  · refine Ent.trans (Ent.nils (s := 3) 9 1 rfl) (by simp) ?_
    refine (Ent.cutk 2 (less_put (less_put (less_put (less_put (less_put (less_un0 _) ?_) ?_) ?_) ?_) ?_) (by exact ⟨.inr rfl, .inr rfl, trivial⟩) (kb_put (kb_put (kb_put (kb_put (kb_put (kb_un0 _) (by simp [kb])) (by simp [kb])) (by simp [kb])) (by simp [kb])) (by simp [kb])) (by simp [kbH, kb.kbs, kb, kbs_W, kbs_SS]))
    iterate 5 (· exact xlqi)
  rintro j σ1 ⟨i, v, hi, rfl, rfl⟩
  by_cases hlt : i < num.length
  · have hget := atsC_get hlt
    have hsi := hsn num[i] (List.getElem_mem hlt)
    have hcl : (((num.take i).map shA).map D.str).length = i := by rw [List.length_map, List.length_map, List.length_take]; omega
    have hap : ((num.take i).map shA).map D.str ++ [.str (shA num[i])] = ((num.take (i + 1)).map shA).map .str := by rw [shL_get hlt, List.map_append]; rfl
    clear hsn hsd
    generalize num[i] = a at *
    (have we1 := hget; have we2 := hcl; have we3 := hap; refine xwalk3 ?_)
    refine ⟨num.length - (i + 1), _, by omega, ?_, i + 1, v + 1, by omega, rfl, rfl⟩
    refine Ent.cutk 2 (less_put (less_put (less_put (less_put (less_put (less_un0 _) ?_) ?_) ?_) ?_) ?_) ⟨.inr rfl, .inr rfl, trivial⟩ (kb_put (kb_put (kb_put (kb_put (kb_put (kb_un0 _) (by simp [kb])) (by simp [kb])) (by simp [kb])) (by simp [kb])) (by simp [kb])) ⟨by simp [kb.kbs, kb], kbs_of_imm (strs_imm _), trivial⟩
    iterate 5 (· exact xlqi)
  · obtain rfl : i = num.length := by omega
    rw [List.take_length]
    have hcl : ((num.map shA).map D.str).length = num.length := by rw [List.length_map, List.length_map]
    have hcl1 : ((num.map shA ++ [wPer]).map D.str).length = num.length + 1 := by simp
    have hb1 : ((num.map shA).map D.str) ++ [D.str ⟨#[112, 101, 114]⟩] = (num.map shA ++ [wPer]).map .str := by rw [List.map_append]; rfl
    have hb2 : ((num.map shA ++ [wPer]).map D.str) ++ [D.str (txt c)] = (num.map shA ++ [wPer] ++ [txt c]).map .str := by rw [List.map_append (l₂ := [txt c])]; rfl
    clear hsn
    (have we1 := hcl; have we2 := hcl1; have we3 := hb1; have we4 := hb2; have we5 := hdz; refine xwalk5 ?_)
    refine awp_loop (fun j σ => ∃ i v, i ≤ den.length ∧ j = den.length - i ∧ σ = ⟨(putE (putE (putE (putE (putE un0 (some 1) (.ptr 0 0 0)) (some 3) (.own 1 v 0 (num.length + 0 + i))) (some 45) (.sl den.length (atsC den))) (some 46) (.int .i64 (den.length : Int))) (some 47) (.int .i64 (i : Int))), [some (0, 52, 3, [.sl num.length (atsC num), .sl den.length (atsC den), .sl q (W x)]), some (v, 9, 1, (num.map shA ++ (den.take i).map shA).map .str)]⟩) den.length ?_ ⟨0, v, Nat.zero_le _, rfl, rfl⟩ ?_
    · rw [List.take_zero, List.map_nil, List.append_nil]
      refine Ent.cutk 2 (less_put (less_put (less_put (less_put (less_put (less_un0 _) ?_) ?_) ?_) ?_) ?_) ⟨.inr rfl, .inr rfl, trivial⟩ (kb_put (kb_put (kb_put (kb_put (kb_put (kb_un0 _) (by simp [kb])) (by simp [kb])) (by simp [kb])) (by simp [kb])) (by simp [kb])) ⟨by simp [kb.kbs, kb], kbs_of_imm (strs_imm _), trivial⟩
      iterate 5 (· exact xlqi)
    rintro j σ2 ⟨i, v2, hi2, rfl, rfl⟩
    by_cases hlt2 : i < den.length
    · have hget := atsC_get hlt2
      have hsi := hsd den[i] (List.getElem_mem hlt2)
      have hcl : ((num.map shA ++ (den.take i).map shA).map D.str).length = num.length + 0 + i := by simp; omega
      have hap : (num.map shA ++ (den.take i).map shA).map D.str ++ [.str (shA den[i])] = (num.map shA ++ (den.take (i + 1)).map shA).map .str := by rw [shL_get hlt2, ← List.append_assoc, List.map_append (l₂ := [shA den[i]])]; rfl
      clear hsd
      generalize den[i] = a at *
      (have we1 := hget; have we2 := hcl; have we3 := hap; refine xwalk3 ?_)
      refine ⟨den.length - (i + 1), _, by omega, ?_, i + 1, v2 + 1, by omega, rfl, rfl⟩
      refine Ent.cutk 2 (less_put (less_put (less_put (less_put (less_put (less_un0 _) ?_) ?_) ?_) ?_) ?_) ⟨.inr rfl, .inr rfl, trivial⟩ (kb_put (kb_put (kb_put (kb_put (kb_put (kb_un0 _) (by simp [kb])) (by simp [kb])) (by simp [kb])) (by simp [kb])) (by simp [kb])) ⟨by simp [kb.kbs, kb], kbs_of_imm (strs_imm _), trivial⟩
      iterate 5 (· exact xlqi)
    · obtain rfl : i = den.length := by omega
      rw [List.take_length]
      have hln : (num.map shA ++ den.map shA).length = num.length + 0 + den.length := by simp; try omega
      rw [hln] at hjl
      have hcl : ((num.map shA ++ den.map shA).map D.str).length = num.length + 0 + den.length := by rw [List.length_map, hln]
      have htk : ((num.map shA ++ den.map shA).map D.str).take (num.length + 0 + den.length) = (num.map shA ++ den.map shA).map .str := List.take_of_length_le (by omega)
      have hai := strs_imm (num.map shA ++ den.map shA)
      clear hsd
      (have we1 := hcl; have we2 := htk; have we3 := hai; exact xwalkd3)

theorem pcr_showpart2 (hG : Stable G) (hT : ∀ w, G w → Lib.TabIs Tryz.prog w "internal/strconv.uint64pow10" .u64 Lib.pow10Tab) (num den : List At) {x : List Int} {q : Nat} (hq : q = x.length) (hx : ok 4294967296 x) (hxl : x.length ≤ 6)
    (hn : num.length ≤ 1000) (hd : den.length ≤ 1000) (hns : ∀ a ∈ num, a.pre.size < 2000000 ∧ a.name.size < 2000000) (hds : ∀ a ∈ den, a.pre.size < 2000000 ∧ a.name.size < 2000000) (hc1 : vl 4294967296 x = 1) (hd0 : den ≠ []) :
    PCr Tryz.prog G 22 [.agg [.sl num.length (atsC num), .sl den.length (atsC den), .sl q (W x)]] (.str (J ((num.map shA ++ [wPer]) ++ den.map shA))) := by
  have hcn : Nm 6 (vl 4294967296 x) (.agg [.sl q (W x)]) := ⟨x, q, hq, hx, rfl, hxl, rfl⟩
  have hlt := hcn.lt
  have hone := pcr_uone (G := G) hG
  have hcmp := pcr_cmpN (G := G) hG hcn (nm_N (X := 1) (L := 1) (by omega)) (by omega) (by omega)
  have htx := pcr_textN (G := G) hG hT hcn (by omega)
  have hts := txt_size hlt
  rw [show (⟨(decDigits (vl 4294967296 x)).toArray⟩ : ByteArray) = txt (vl 4294967296 x) from rfl] at htx
  generalize vl 4294967296 x = c at *
  rw [N_nl] at hone hcmp
  have hsn : ∀ a ∈ num, PCr Tryz.prog G 43 [.agg [.str a.pre, .str a.name, .int .i64 a.pw]] (.str (shA a)) := fun a ha => pcr_ashow hG hT a (by have := hns a ha; omega) (by have := hns a ha; omega)
  have hsd : ∀ a ∈ den, PCr Tryz.prog G 43 [.agg [.str a.pre, .str a.name, .int .i64 a.pw]] (.str (shA a)) := fun a ha => pcr_ashow hG hT a (by have := hds a ha; omega) (by have := hds a ha; omega)
  have hdz : decide ((den.length : Int) > 0) = true := decide_eq_true (by have := List.length_pos_iff.2 hd0; omega)
  rw [show cmpN c 1 = 0 by unfold cmpN; rw [if_neg (by omega), if_pos hc1]] at hcmp
  have hnl := atsC_len num
  have hdl := atsC_len den
  have hWi := W_imm x
  have hjn : (jn ((num.map shA ++ [wPer]) ++ den.map shA)).length ≤ 140737488355328 := by
    refine Nat.le_trans (jn_len (M := 4000010) fun w hw => ?_) ?_
    · simp only [List.mem_append, List.mem_map, List.mem_cons, List.not_mem_nil, or_false] at hw
      have hwp : wPer.size = 3 := rfl
      rcases hw with (⟨a, ha, rfl⟩ | rfl) | ⟨a, ha, rfl⟩
      · have := shA_size a; have := hns a ha; omega
      · omega
      · have := shA_size a; have := hds a ha; omega
    · simp only [List.length_append, List.length_map, List.length_cons, List.length_nil]; omega
  have hjl := lib_join (G := G) ((num.map shA ++ [wPer]) ++ den.map shA) ⟨#[45]⟩ _ rfl (by simp only [List.length_append, List.length_map, List.length_cons, List.length_nil]; omega) hjn
  rw [J_lib] at hjl
  clear hjn hts hlt
  refine pcr_byq ok22 hG (n := 59) (rv := [.tmp 2]) fun r hr => ?_; unfold c22 st0
  (refine xwalk ?_)
  refine awp_loop (fun j σ => ∃ i v, i ≤ num.length ∧ j = num.length - i ∧ σ = ⟨(putE (putE (putE (putE (putE un0 (some 1) (.ptr 0 0 0)) (some 3) (.own 1 v 0 (i))) (some 10) (.sl num.length (atsC num))) (some 11) (.int .i64 (num.length : Int))) (some 12) (.int .i64 (i : Int))), [some (0, 52, 3, [.sl num.length (atsC num), .sl den.length (atsC den), .sl q (W x)]), some (v, 9, 1, ((num.take i).map shA).map .str)]⟩) num.length ?_ ⟨0, 0, Nat.zero_le _, rfl, rfl⟩ ?_
  · refine Ent.trans (Ent.nils (s := 3) 9 1 rfl) (by simp) ?_
    refine (Ent.cutk 2 (less_put (less_put (less_put (less_put (less_put (less_un0 _) ?_) ?_) ?_) ?_) ?_) (by exact ⟨.inr rfl, .inr rfl, trivial⟩) (kb_put (kb_put (kb_put (kb_put (kb_put (kb_un0 _) (by simp [kb])) (by simp [kb])) (by simp [kb])) (by simp [kb])) (by simp [kb])) (by simp [kbH, kb.kbs, kb, kbs_W, kbs_SS]))
    iterate 5 (· exact xlqi)
  rintro j σ1 ⟨i, v, hi, rfl, rfl⟩
  by_cases hlt : i < num.length
  · have hget := atsC_get hlt
    have hsi := hsn num[i] (List.getElem_mem hlt)
    have hcl : (((num.take i).map shA).map D.str).length = i := by rw [List.length_map, List.length_map, List.length_take]; omega
    have hap : ((num.take i).map shA).map D.str ++ [.str (shA num[i])] = ((num.take (i + 1)).map shA).map .str := by rw [shL_get hlt, List.map_append]; rfl
    clear hsn hsd
    generalize num[i] = a at *
    (have we1 := hget; have we2 := hcl; have we3 := hap; refine xwalk3 ?_)
    refine ⟨num.length - (i + 1), _, by omega, ?_, i + 1, v + 1, by omega, rfl, rfl⟩
    refine Ent.cutk 2 (less_put (less_put (less_put (less_put (less_put (less_un0 _) ?_) ?_) ?_) ?_) ?_) ⟨.inr rfl, .inr rfl, trivial⟩ (kb_put (kb_put (kb_put (kb_put (kb_put (kb_un0 _) (by simp [kb])) (by simp [kb])) (by simp [kb])) (by simp [kb])) (by simp [kb])) ⟨by simp [kb.kbs, kb], kbs_of_imm (strs_imm _), trivial⟩
    iterate 5 (· exact xlqi)
  · obtain rfl : i = num.length := by omega
    rw [List.take_length]
    have hcl : ((num.map shA).map D.str).length = num.length := by rw [List.length_map, List.length_map]
    have hcl1 : ((num.map shA ++ [wPer]).map D.str).length = num.length + 1 := by simp
    have hb1 : ((num.map shA).map D.str) ++ [D.str ⟨#[112, 101, 114]⟩] = (num.map shA ++ [wPer]).map .str := by rw [List.map_append]; rfl
    have hb2 : ((num.map shA ++ [wPer]).map D.str) ++ [D.str (txt c)] = (num.map shA ++ [wPer] ++ [txt c]).map .str := by rw [List.map_append (l₂ := [txt c])]; rfl
    clear hsn
    (have we1 := hcl; have we2 := hcl1; have we3 := hb1; have we4 := hb2; have we5 := hdz; refine xwalk5 ?_)
    refine awp_loop (fun j σ => ∃ i v, i ≤ den.length ∧ j = den.length - i ∧ σ = ⟨(putE (putE (putE (putE (putE un0 (some 1) (.ptr 0 0 0)) (some 3) (.own 1 v 0 (num.length + 1 + i))) (some 45) (.sl den.length (atsC den))) (some 46) (.int .i64 (den.length : Int))) (some 47) (.int .i64 (i : Int))), [some (0, 52, 3, [.sl num.length (atsC num), .sl den.length (atsC den), .sl q (W x)]), some (v, 9, 1, ((num.map shA ++ [wPer]) ++ (den.take i).map shA).map .str)]⟩) den.length ?_ ⟨0, v + 1, Nat.zero_le _, rfl, rfl⟩ ?_
    · rw [List.take_zero, List.map_nil, List.append_nil]
      refine Ent.cutk 2 (less_put (less_put (less_put (less_put (less_put (less_un0 _) ?_) ?_) ?_) ?_) ?_) ⟨.inr rfl, .inr rfl, trivial⟩ (kb_put (kb_put (kb_put (kb_put (kb_put (kb_un0 _) (by simp [kb])) (by simp [kb])) (by simp [kb])) (by simp [kb])) (by simp [kb])) ⟨by simp [kb.kbs, kb], kbs_of_imm (strs_imm _), trivial⟩
      iterate 5 (· exact xlqi)
    rintro j σ2 ⟨i, v2, hi2, rfl, rfl⟩
    by_cases hlt2 : i < den.length
    · have hget := atsC_get hlt2
      have hsi := hsd den[i] (List.getElem_mem hlt2)
      have hcl : (((num.map shA ++ [wPer]) ++ (den.take i).map shA).map D.str).length = num.length + 1 + i := by simp; omega
      have hap : ((num.map shA ++ [wPer]) ++ (den.take i).map shA).map D.str ++ [.str (shA den[i])] = ((num.map shA ++ [wPer]) ++ (den.take (i + 1)).map shA).map .str := by rw [shL_get hlt2, ← List.append_assoc, List.map_append (l₂ := [shA den[i]])]; rfl
      clear hsd
      generalize den[i] = a at *
      (have we1 := hget; have we2 := hcl; have we3 := hap; refine xwalk3 ?_)
      refine ⟨den.length - (i + 1), _, by omega, ?_, i + 1, v2 + 1, by omega, rfl, rfl⟩
      refine Ent.cutk 2 (less_put (less_put (less_put (less_put (less_put (less_un0 _) ?_) ?_) ?_) ?_) ?_) ⟨.inr rfl, .inr rfl, trivial⟩ (kb_put (kb_put (kb_put (kb_put (kb_put (kb_un0 _) (by simp [kb])) (by simp [kb])) (by simp [kb])) (by simp [kb])) (by simp [kb])) ⟨by simp [kb.kbs, kb], kbs_of_imm (strs_imm _), trivial⟩
      iterate 5 (· exact xlqi)
    · obtain rfl : i = den.length := by omega
      rw [List.take_length]
      have hln : ((num.map shA ++ [wPer]) ++ den.map shA).length = num.length + 1 + den.length := by simp; try omega
      rw [hln] at hjl
      have hcl : (((num.map shA ++ [wPer]) ++ den.map shA).map D.str).length = num.length + 1 + den.length := by rw [List.length_map, hln]
      have htk : (((num.map shA ++ [wPer]) ++ den.map shA).map D.str).take (num.length + 1 + den.length) = ((num.map shA ++ [wPer]) ++ den.map shA).map .str := List.take_of_length_le (by omega)
      have hai := strs_imm ((num.map shA ++ [wPer]) ++ den.map shA)
      clear hsd
      (have we1 := hcl; have we2 := htk; have we3 := hai; exact xwalkd3)

theorem pcr_showpart3 (hG : Stable G) (hT : ∀ w, G w → Lib.TabIs Tryz.prog w "internal/strconv.uint64pow10" .u64 Lib.pow10Tab) (num den : List At) {x : List Int} {q : Nat} (hq : q = x.length) (hx : ok 4294967296 x) (hxl : x.length ≤ 6)
    (hn : num.length ≤ 1000) (hd : den.length ≤ 1000) (hns : ∀ a ∈ num, a.pre.size < 2000000 ∧ a.name.size < 2000000) (hds : ∀ a ∈ den, a.pre.size < 2000000 ∧ a.name.size < 2000000) (hc1 : vl 4294967296 x ≠ 1) :
    PCr Tryz.prog G 22 [.agg [.sl num.length (atsC num), .sl den.length (atsC den), .sl q (W x)]] (.str (J ((num.map shA ++ [wPer] ++ [txt (vl 4294967296 x)]) ++ den.map shA))) := by
  have hcn : Nm 6 (vl 4294967296 x) (.agg [.sl q (W x)]) := ⟨x, q, hq, hx, rfl, hxl, rfl⟩
  have hlt := hcn.lt
  have hone := pcr_uone (G := G) hG
  have hcmp := pcr_cmpN (G := G) hG hcn (nm_N (X := 1) (L := 1) (by omega)) (by omega) (by omega)
  have htx := pcr_textN (G := G) hG hT hcn (by omega)
  have hts := txt_size hlt
  rw [show (⟨(decDigits (vl 4294967296 x)).toArray⟩ : ByteArray) = txt (vl 4294967296 x) from rfl] at htx
  generalize vl 4294967296 x = c at *
  rw [N_nl] at hone hcmp
  have hsn : ∀ a ∈ num, PCr Tryz.prog G 43 [.agg [.str a.pre, .str a.name, .int .i64 a.pw]] (.str (shA a)) := fun a ha => pcr_ashow hG hT a (by have := hns a ha; omega) (by have := hns a ha; omega)
  have hsd : ∀ a ∈ den, PCr Tryz.prog G 43 [.agg [.str a.pre, .str a.name, .int .i64 a.pw]] (.str (shA a)) := fun a ha => pcr_ashow hG hT a (by have := hds a ha; omega) (by have := hds a ha; omega)
  have hcz : (cmpN c 1 != 0) = true := by unfold cmpN; split <;> first | rfl | (rw [if_neg hc1]; rfl)
  generalize cmpN c 1 = rc at *
  have hcz : decide (¬ rc = 0) = true := decide_eq_true (by simpa using hcz)
  have hnl := atsC_len num
  have hdl := atsC_len den
  have hWi := W_imm x
  have hjn : (jn ((num.map shA ++ [wPer] ++ [txt c]) ++ den.map shA)).length ≤ 140737488355328 := by
    refine Nat.le_trans (jn_len (M := 4000010) fun w hw => ?_) ?_
    · simp only [List.mem_append, List.mem_map, List.mem_cons, List.not_mem_nil, or_false] at hw
      have hwp : wPer.size = 3 := rfl
      rcases hw with ((⟨a, ha, rfl⟩ | rfl) | rfl) | ⟨a, ha, rfl⟩
      · have := shA_size a; have := hns a ha; omega
      · omega
      · omega
      · have := shA_size a; have := hds a ha; omega
    · simp only [List.length_append, List.length_map, List.length_cons, List.length_nil]; omega
  have hjl := lib_join (G := G) ((num.map shA ++ [wPer] ++ [txt c]) ++ den.map shA) ⟨#[45]⟩ _ rfl (by simp only [List.length_append, List.length_map, List.length_cons, List.length_nil]; omega) hjn
  rw [J_lib] at hjl
  clear hjn hts hlt
  refine pcr_byq ok22 hG (n := 59) (rv := [.tmp 2]) fun r hr => ?_; unfold c22 st0
  (refine xwalk ?_)
  refine awp_loop (fun j σ => ∃ i v, i ≤ num.length ∧ j = num.length - i ∧ σ = ⟨(putE (putE (putE (putE (putE un0 (some 1) (.ptr 0 0 0)) (some 3) (.own 1 v 0 (i))) (some 10) (.sl num.length (atsC num))) (some 11) (.int .i64 (num.length : Int))) (some 12) (.int .i64 (i : Int))), [some (0, 52, 3, [.sl num.length (atsC num), .sl den.length (atsC den), .sl q (W x)]), some (v, 9, 1, ((num.take i).map shA).map .str)]⟩) num.length ?_ ⟨0, 0, Nat.zero_le _, rfl, rfl⟩ ?_
  · refine Ent.trans (Ent.nils (s := 3) 9 1 rfl) (by simp) ?_
    refine (Ent.cutk 2 (less_put (less_put (less_put (less_put (less_put (less_un0 _) ?_) ?_) ?_) ?_) ?_) (by exact ⟨.inr rfl, .inr rfl, trivial⟩) (kb_put (kb_put (kb_put (kb_put (kb_put (kb_un0 _) (by simp [kb])) (by simp [kb])) (by simp [kb])) (by simp [kb])) (by simp [kb])) (by simp [kbH, kb.kbs, kb, kbs_W, kbs_SS]))
    iterate 5 (· exact xlqi)
  rintro j σ1 ⟨i, v, hi, rfl, rfl⟩
  by_cases hlt : i < num.length
  · have hget := atsC_get hlt
    have hsi := hsn num[i] (List.getElem_mem hlt)
    have hcl : (((num.take i).map shA).map D.str).length = i := by rw [List.length_map, List.length_map, List.length_take]; omega
    have hap : ((num.take i).map shA).map D.str ++ [.str (shA num[i])] = ((num.take (i + 1)).map shA).map .str := by rw [shL_get hlt, List.map_append]; rfl
    clear hsn hsd
    generalize num[i] = a at *
    (have we1 := hget; have we2 := hcl; have we3 := hap; refine xwalk3 ?_)
    refine ⟨num.length - (i + 1), _, by omega, ?_, i + 1, v + 1, by omega, rfl, rfl⟩
    refine Ent.cutk 2 (less_put (less_put (less_put (less_put (less_put (less_un0 _) ?_) ?_) ?_) ?_) ?_) ⟨.inr rfl, .inr rfl, trivial⟩ (kb_put (kb_put (kb_put (kb_put (kb_put (kb_un0 _) (by simp [kb])) (by simp [kb])) (by simp [kb])) (by simp [kb])) (by simp [kb])) ⟨by simp [kb.kbs, kb], kbs_of_imm (strs_imm _), trivial⟩
    iterate 5 (· exact xlqi)
  · obtain rfl : i = num.length := by omega
    rw [List.take_length]
    have hcl : ((num.map shA).map D.str).length = num.length := by rw [List.length_map, List.length_map]
    have hcl1 : ((num.map shA ++ [wPer]).map D.str).length = num.length + 1 := by simp
    have hb1 : ((num.map shA).map D.str) ++ [D.str ⟨#[112, 101, 114]⟩] = (num.map shA ++ [wPer]).map .str := by rw [List.map_append]; rfl
    have hb2 : ((num.map shA ++ [wPer]).map D.str) ++ [D.str (txt c)] = (num.map shA ++ [wPer] ++ [txt c]).map .str := by rw [List.map_append (l₂ := [txt c])]; rfl
    clear hsn
    (have we1 := hcl; have we2 := hcl1; have we3 := hb1; have we4 := hb2; have we5 := hcz; refine xwalk5 ?_)
    refine awp_loop (fun j σ => ∃ i v, i ≤ den.length ∧ j = den.length - i ∧ σ = ⟨(putE (putE (putE (putE (putE un0 (some 1) (.ptr 0 0 0)) (some 3) (.own 1 v 0 (num.length + 2 + i))) (some 45) (.sl den.length (atsC den))) (some 46) (.int .i64 (den.length : Int))) (some 47) (.int .i64 (i : Int))), [some (0, 52, 3, [.sl num.length (atsC num), .sl den.length (atsC den), .sl q (W x)]), some (v, 9, 1, ((num.map shA ++ [wPer] ++ [txt c]) ++ (den.take i).map shA).map .str)]⟩) den.length ?_ ⟨0, v + 1 + 1, Nat.zero_le _, rfl, rfl⟩ ?_
    · rw [List.take_zero, List.map_nil, List.append_nil]
      refine Ent.cutk 2 (less_put (less_put (less_put (less_put (less_put (less_un0 _) ?_) ?_) ?_) ?_) ?_) ⟨.inr rfl, .inr rfl, trivial⟩ (kb_put (kb_put (kb_put (kb_put (kb_put (kb_un0 _) (by simp [kb])) (by simp [kb])) (by simp [kb])) (by simp [kb])) (by simp [kb])) ⟨by simp [kb.kbs, kb], kbs_of_imm (strs_imm _), trivial⟩
      iterate 5 (· exact xlqi)
    rintro j σ2 ⟨i, v2, hi2, rfl, rfl⟩
    by_cases hlt2 : i < den.length
    · have hget := atsC_get hlt2
      have hsi := hsd den[i] (List.getElem_mem hlt2)
      have hcl : (((num.map shA ++ [wPer] ++ [txt c]) ++ (den.take i).map shA).map D.str).length = num.length + 2 + i := by simp; omega
      have hap : ((num.map shA ++ [wPer] ++ [txt c]) ++ (den.take i).map shA).map D.str ++ [.str (shA den[i])] = ((num.map shA ++ [wPer] ++ [txt c]) ++ (den.take (i + 1)).map shA).map .str := by rw [shL_get hlt2, ← List.append_assoc, List.map_append (l₂ := [shA den[i]])]; rfl
      clear hsd
      generalize den[i] = a at *
      (have we1 := hget; have we2 := hcl; have we3 := hap; refine xwalk3 ?_)
      refine ⟨den.length - (i + 1), _, by omega, ?_, i + 1, v2 + 1, by omega, rfl, rfl⟩
      refine Ent.cutk 2 (less_put (less_put (less_put (less_put (less_put (less_un0 _) ?_) ?_) ?_) ?_) ?_) ⟨.inr rfl, .inr rfl, trivial⟩ (kb_put (kb_put (kb_put (kb_put (kb_put (kb_un0 _) (by simp [kb])) (by simp [kb])) (by simp [kb])) (by simp [kb])) (by simp [kb])) ⟨by simp [kb.kbs, kb], kbs_of_imm (strs_imm _), trivial⟩
      iterate 5 (· exact xlqi)
    · obtain rfl : i = den.length := by omega
      rw [List.take_length]
      have hln : ((num.map shA ++ [wPer] ++ [txt c]) ++ den.map shA).length = num.length + 2 + den.length := by simp; try omega
      rw [hln] at hjl
      have hcl : (((num.map shA ++ [wPer] ++ [txt c]) ++ den.map shA).map D.str).length = num.length + 2 + den.length := by rw [List.length_map, hln]
      have htk : (((num.map shA ++ [wPer] ++ [txt c]) ++ den.map shA).map D.str).take (num.length + 2 + den.length) = ((num.map shA ++ [wPer] ++ [txt c]) ++ den.map shA).map .str := List.take_of_length_le (by omega)
      have hai := strs_imm ((num.map shA ++ [wPer] ++ [txt c]) ++ den.map shA)
      clear hsd
      (have we1 := hcl; have we2 := htk; have we3 := hai; exact xwalkd3)

theorem pcr_showpart (hG : Stable G) (hT : ∀ w, G w → Lib.TabIs Tryz.prog w "internal/strconv.uint64pow10" .u64 Lib.pow10Tab) (num den : List At) {x : List Int} {q : Nat} (hq : q = x.length) (hx : ok 4294967296 x) (hxl : x.length ≤ 6)
    (hn : num.length ≤ 1000) (hd : den.length ≤ 1000) (hns : ∀ a ∈ num, a.pre.size < 2000000 ∧ a.name.size < 2000000) (hds : ∀ a ∈ den, a.pre.size < 2000000 ∧ a.name.size < 2000000) :
    PCr Tryz.prog G 22 [.agg [.sl num.length (atsC num), .sl den.length (atsC den), .sl q (W x)]] (.str (J (ptT ⟨num, den, vl 4294967296 x⟩))) := by
  unfold ptT
  dsimp only
  by_cases hc : vl 4294967296 x = 1
  · by_cases hd0 : den = []
    · have := pcr_showpart1 hG hT num den hq hx hxl hn hd hns hds hc hd0
      rw [if_neg (by simp [hc, hd0]), if_neg (by simp [hc]), List.nil_append, List.nil_append]
      exact this
    · have := pcr_showpart2 hG hT num den hq hx hxl hn hd hns hds hc hd0
      rw [if_pos (.inr hd0), if_neg (by simp [hc]), List.nil_append, ← List.append_assoc]
      exact this
  · have := pcr_showpart3 hG hT num den hq hx hxl hn hd hns hds hc
    rw [if_pos (.inl hc), if_pos hc, ← List.append_assoc, ← List.append_assoc]
    exact this
theorem J_ptT {p : Pt} (h : p.ok) : J (ptT p) = ptS p := by
  have hsh : ∀ {l : List At}, (∀ a ∈ l, good15 a) → l.map shA = (l.map atW).map J := fun {l} hl => by
    rw [List.map_map]
    exact List.map_congr_left fun a ha => by
      have := hl a ha
      unfold shA
      rw [if_pos (show 1 ≤ a.pw ∧ a.pw ≤ 15 from this)]; rfl
  have hne : ∀ {l : List At}, ∀ y ∈ l.map atW, y ≠ [] := fun y hy => by
    obtain ⟨a, _, rfl⟩ := List.mem_map.1 hy
    exact atW_ne a
  let R : List (List Wd) := p.num.map atW ++ ((if p.c ≠ 1 ∨ p.den ≠ [] then [[wPer]] else []) ++ ((if p.c ≠ 1 then [[txt p.c]] else []) ++ p.den.map atW))
  have h1 : ptT p = R.map J := by
    show ptT p = List.map J _
    unfold ptT
    rw [hsh h.num15, hsh h.den15, List.map_append, List.map_append, List.map_append]
    congr 2
    · split
      · rw [List.map_singleton, J_one]
      · rfl
    · congr 1
      split
      · rw [List.map_singleton, J_one]
      · rfl
  have h2 : R.flatten = ptW p := by
    show List.flatten _ = _
    unfold ptW
    rw [List.flatten_append, List.flatten_append, List.flatten_append, List.flatMap_def, List.flatMap_def]
    congr 2
    · split <;> rfl
    · congr 1
      split <;> rfl
  have h3 : ∀ y ∈ R, y ≠ [] := fun y hy => by
    rcases List.mem_append.1 hy with hy | hy
    · exact hne y hy
    · rcases List.mem_append.1 hy with hy | hy
      · split at hy
        · rw [List.mem_singleton.1 hy]; simp
        · cases hy
      · rcases List.mem_append.1 hy with hy | hy
        · split at hy
          · rw [List.mem_singleton.1 hy]; simp
          · cases hy
        · exact hne y hy
  unfold ptS J
  rw [h1, jn_flat h3, h2]
structure Pt.fits (p : Pt) : Prop where
  num : ∀ a ∈ p.num, a.pre.size < 2000000 ∧ a.name.size < 2000000
  den : ∀ a ∈ p.den, a.pre.size < 2000000 ∧ a.name.size < 2000000
theorem pcr_showpt (hG : Stable G) (hT : ∀ w, G w → Lib.TabIs Tryz.prog w "internal/strconv.uint64pow10" .u64 Lib.pow10Tab) (p : Pt) (h : p.ok) (hf : p.fits) : PCr Tryz.prog G 22 [.agg (ptC p)] (.str (ptS p)) := by
  have hc6 : p.c < 4294967296 ^ 6 := Nat.lt_of_lt_of_le h.c20 (by decide)
  have := pcr_showpart hG hT p.num p.den (x := wd 4294967296 p.c) rfl (ok_wd (by omega) _) (wd_length_le (by omega) hc6) (by have := h.few; omega) (by have := h.few; omega) hf.num hf.den
  rw [vl_wd (by omega), show (⟨p.num, p.den, p.c⟩ : Pt) = p from rfl, J_ptT h] at this
  exact this

end Go.Proofs.YtgimaioeifnajaaGreatDoorK.TabT
