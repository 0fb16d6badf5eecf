/-
  The document's own ShowAtom, showAtoms, Join, ShowPart, ShowUnit: what they compute.
-/
import Derived.Test.YtgimaioeifnajaaGreatDoorKIrCubitref6
import Derived.Test.YtgimaioeifnajaaGreatDoorKUniW
import Derived.Test.YtgimaioeifnajaaGreatDoorKUh
import Derived.Test.YtgimaioeifnajaaGreatDoorKFz
set_option linter.all false
set_option maxHeartbeats 0
namespace Go.Proofs.YtgimaioeifnajaaGreatDoorK.TabT
open AI NatIr Dig NatT LibT Go.Lib
attribute [local irreducible] awp awpOps
attribute [local go_sem] not_true_eq_false not_false_eq_true eq_self decide_true decide_false beq_self_eq_true Int.reduceAdd nl List.getElem?_cons_zero List.getElem?_cons_succ
variable {G : World → Prop}
def JW (s : Wd) (l : List Wd) : Wd := ⟨(join (l.map (·.data.toList)) s.data.toList).toArray⟩
theorem JW_nil (s : Wd) : JW s [] = ⟨#[]⟩ := rfl
theorem JW_add {s : Wd} {a : List Wd} {x : Wd} : JW s (a ++ [x]) = if a = [] then x else JW s a ++ s ++ x := by
  cases a with
  | nil =>
    rw [if_pos rfl]
    refine ba_ext ?_
    unfold JW
    rw [List.nil_append, List.map_singleton, join_one]
  | cons y a =>
    rw [if_neg (by simp)]
    refine ba_ext ?_
    unfold JW
    simp only [List.cons_append, List.map_cons, List.map_append, List.map_nil, join_cons, jt_app, jt_cons, ByteArray.data_append, Array.toList_append]
    simp [joinTail]
theorem JW_step {s : Wd} {l : List Wd} {i : Nat} (h : i < l.length) : JW s (l.take (i + 1)) = if i = 0 then l[i] else JW s (l.take i) ++ s ++ l[i] := by
  rw [List.take_succ_eq_append_getElem h, JW_add]
  by_cases hi : i = 0
  · rw [if_pos hi, if_pos (by subst hi; rfl)]
  · rw [if_neg hi, if_neg (fun e => by have := congrArg List.length e; rw [List.length_take, List.length_nil] at this; omega)]
theorem jtw_len {s : List UInt8} {M : Nat} : ∀ {l : List (List UInt8)}, (∀ x ∈ l, x.length ≤ M) → (joinTail s l).length ≤ l.length * (M + s.length)
  | [], _ => Nat.zero_le _
  | x :: l, h => by
    have := jtw_len (s := s) (l := l) (fun y hy => h y (List.mem_cons_of_mem _ hy))
    have hx := h x List.mem_cons_self
    simp only [jt_cons, List.length_append, List.length_cons, Nat.add_mul, Nat.one_mul]
    rw [Nat.mul_add] at this
    rw [Nat.mul_add]
    omega
theorem JW_len {s : Wd} {M : Nat} {l : List Wd} (h : ∀ x ∈ l, x.size ≤ M) : (JW s l).size ≤ l.length * (M + s.size) := by
  unfold JW
  rw [ba_size]
  match l, h with
  | [], _ => exact Nat.zero_le _
  | x :: l, h =>
    have h1 := jtw_len (s := s.data.toList) (M := M) (l := l.map (·.data.toList)) (fun y hy => by
      obtain ⟨z, hz, rfl⟩ := List.mem_map.1 hy
      exact h z (List.mem_cons_of_mem _ hz))
    have hx : x.data.toList.length ≤ M := h x List.mem_cons_self
    have hs : s.data.toList.length = s.size := rfl
    rw [List.map_cons, join_cons, List.length_append, List.length_cons, Nat.add_mul, Nat.one_mul]
    rw [List.length_map, hs] at h1
    omega
theorem pcr_rshow (hG : Stable G) (a : At) (h1 : a.pre.size < 100000000000) (h2 : a.name.size < 100000000000) : PCr Tryz.prog G 84 [.agg [.str a.pre, .str a.name, .int .i64 a.pw]] (.str (shA a)) := by
  obtain ⟨pre, name, pw⟩ := a
  unfold shA
  rw [J_at]
  dsimp only at h1 h2 ⊢
  have hs1 : (#[115, 113, 117, 97, 114, 101, 45] : Array UInt8).size = 7 := rfl
  have hs2 : (#[99, 117, 98, 105, 99, 45] : Array UInt8).size = 6 := rfl
  have hs3 : (#[112, 111, 119] : Array UInt8).size = 3 := rfl
  have hs4 : (#[45] : Array UInt8).size = 1 := rfl
  have hps : (pre ++ name).size = pre.size + name.size := ByteArray.size_append
  by_cases c1 : pw < 1
  · rw [if_neg (by omega)]
    have d1 : decide (pw < 1) = true := decide_eq_true c1
    refine pcr_byq ok84 hG (n := 42) (rv := [.tmp 2]) fun r hr => ?_; unfold c84 st0
    (have we1 := d1; exact xwalkd1)
  have d1 : decide (pw < 1) = false := decide_eq_false c1
  by_cases c2 : pw > 15
  · rw [if_neg (by omega)]
    have d2 : decide (pw > 15) = true := decide_eq_true c2
    refine pcr_byq ok84 hG (n := 42) (rv := [.tmp 2]) fun r hr => ?_; unfold c84 st0
    (have we1 := d1; have we2 := d2; exact xwalkd2)
  have d2 : decide (pw > 15) = false := decide_eq_false c2
  rw [if_pos (by omega)]
  by_cases c3 : pw = 1
  · subst c3
    rw [if_pos rfl]
    refine pcr_byq ok84 hG (n := 42) (rv := [.tmp 2]) fun r hr => ?_; unfold c84 st0
    (have we1 := d1; have we2 := d2; exact xwalkd2)
  rw [if_neg c3]
  have d3 : (pw == 1) = false := by simpa using c3
  by_cases c4 : pw = 2
  · subst c4
    rw [if_pos rfl]
    refine pcr_byq ok84 hG (n := 42) (rv := [.tmp 2]) fun r hr => ?_; unfold c84 st0
    (have we1 := d1; have we2 := d2; have we3 := d3; exact xwalkd3)
  rw [if_neg c4]
  have d4 : (pw == 2) = false := by simpa using c4
  by_cases c5 : pw = 3
  · subst c5
    rw [if_pos rfl]
    refine pcr_byq ok84 hG (n := 42) (rv := [.tmp 2]) fun r hr => ?_; unfold c84 st0
    (have we1 := d1; have we2 := d2; have we3 := d3; have we4 := d4; exact xwalkd4)
  rw [if_neg c5]
  have d5 : (pw == 3) = false := by simpa using c5
  have hit := pcr_rnum (G := G) hG pw.toNat (by omega)
  have hsz : (⟨(itoa (pw.toNat : Int)).toArray⟩ : ByteArray).size ≤ 2 := dec_len15 (by omega)
  rw [show (pw.toNat : Int) = pw by omega] at hsz hit ⊢
  generalize (⟨(itoa pw).toArray⟩ : ByteArray) = it at *
  have hq1 : ((⟨#[112, 111, 119]⟩ : Wd) ++ it).size = (#[112, 111, 119] : Array UInt8).size + it.size := ByteArray.size_append
  have hq2 : ((⟨#[112, 111, 119]⟩ : Wd) ++ it ++ (⟨#[45]⟩ : Wd)).size = ((⟨#[112, 111, 119]⟩ : Wd) ++ it).size + (#[45] : Array UInt8).size := ByteArray.size_append
  refine pcr_byq ok84 hG (n := 42) (rv := [.tmp 2]) fun r hr => ?_; unfold c84 st0
  (have we1 := d1; have we2 := d2; have we3 := d3; have we4 := d4; have we5 := d5; exact xwalkd5)
theorem pcg_rshows (hG : Stable G) (l : List At) (hl : l.length < 1000000) (hls : ∀ a ∈ l, a.pre.size < 2000000 ∧ a.name.size < 2000000) :
    PCg Tryz.prog G 60 [.sl l.length (atsC l)] [] (.own 0 l.length 0 l.length) [some (l.length, 9, 1, (l.map shA).map .str)] := by
  have hsn : ∀ a ∈ l, PCr Tryz.prog G 84 [.agg [.str a.pre, .str a.name, .int .i64 a.pw]] (.str (shA a)) := fun a ha => pcr_rshow hG a (by have := hls a ha; omega) (by have := hls a ha; omega)
  have hal := atsC_len l
  clear hls
  refine pcg_by (fn := Tryz.f60) (n := 20) (rv := [.tmp 2]) (by kernel_rfl) ok60 (by kernel_rfl) (by decide) (by kernel_rfl) (by simp) (by kernel_rfl) (by simp) (fun r hh hr hhe => ?_); unfold c60
  (refine xwalk ?_)
  refine awp_loop (fun j σ => ∃ i : Nat, i ≤ l.length ∧ j = l.length - i ∧ σ = ⟨(putE (putE (putE un0 (some 0) (.sl l.length (atsC l))) (some 3) (.own 0 i 0 i)) (some 4) (.int .i64 (i : Int))), [some (i, 9, 1, ((l.take i).map shA).map .str)]⟩) l.length ?_ ⟨0, Nat.zero_le _, rfl, rfl⟩ ?_
  · refine Ent.trans (Ent.nils (s := 3) 9 1 rfl) (by simp) ?_
    refine (Ent.cutk 1 (less_put (less_put (less_put (less_un0 _) ?_) ?_) ?_) (by exact ⟨.inr rfl, trivial⟩) (kb_put (kb_put (kb_put (kb_un0 _) (by simp [kb])) (by simp [kb])) (by simp [kb])) (by simp [kbH, kb.kbs, kb, kbs_W, kbs_SS]))
    iterate 3 (· exact xlqi)
  rintro j σ1 ⟨i, hi, rfl, rfl⟩
  by_cases hlt : i < l.length
  · have hget := atsC_get hlt
    have hsi := hsn l[i] (List.getElem_mem hlt)
    have hcl : (((l.take i).map shA).map D.str).length = i := by rw [List.length_map, List.length_map, List.length_take]; omega
    have hap : ((l.take i).map shA).map D.str ++ [.str (shA l[i])] = ((l.take (i + 1)).map shA).map .str := by rw [shL_get hlt, List.map_append]; rfl
    clear hsn
    generalize l[i] = a at *
    (have we1 := hget; have we2 := hcl; have we3 := hap; refine xwalk3 ?_)
    refine ⟨l.length - (i + 1), _, by omega, ?_, i + 1, by omega, rfl, rfl⟩
    refine Ent.cutk 1 (less_put (less_put (less_put (less_un0 _) ?_) ?_) ?_) ⟨.inr rfl, trivial⟩ (kb_put (kb_put (kb_put (kb_un0 _) (by simp [kb])) (by simp [kb])) (by simp [kb])) ⟨kbs_of_imm (strs_imm _), trivial⟩
    iterate 3 (· exact xlqi)
  · obtain rfl : i = l.length := by omega
    rw [List.take_length]
    clear hsn
    (refine xwalk ?_)
    subst hr hhe
    exact resg_ret (l := []) rfl rfl (by simp [kb]) ⟨kbs_of_imm (strs_imm _), trivial⟩
theorem pcr_rshows (hG : Stable G) (l : List At) (hl : l.length < 1000000) (hls : ∀ a ∈ l, a.pre.size < 2000000 ∧ a.name.size < 2000000) :
    PCr Tryz.prog G 60 [.sl l.length (atsC l)] (.sl l.length ((l.map shA).map .str)) := by
  have hsn : ∀ a ∈ l, PCr Tryz.prog G 84 [.agg [.str a.pre, .str a.name, .int .i64 a.pw]] (.str (shA a)) := fun a ha => pcr_rshow hG a (by have := hls a ha; omega) (by have := hls a ha; omega)
  have hal := atsC_len l
  clear hls
  refine pcr_byq ok60 hG (n := 20) (rv := [.tmp 2]) fun r hr => ?_; unfold c60 st0
  (refine xwalk ?_)
  refine awp_loop (fun j σ => ∃ i : Nat, i ≤ l.length ∧ j = l.length - i ∧ σ = ⟨(putE (putE (putE un0 (some 0) (.sl l.length (atsC l))) (some 3) (.own 0 i 0 i)) (some 4) (.int .i64 (i : Int))), [some (i, 9, 1, ((l.take i).map shA).map .str)]⟩) l.length ?_ ⟨0, Nat.zero_le _, rfl, rfl⟩ ?_
  · refine Ent.trans (Ent.nils (s := 3) 9 1 rfl) (by simp) ?_
    refine (Ent.cutk 1 (less_put (less_put (less_put (less_un0 _) ?_) ?_) ?_) (by exact ⟨.inr rfl, trivial⟩) (kb_put (kb_put (kb_put (kb_un0 _) (by simp [kb])) (by simp [kb])) (by simp [kb])) (by simp [kbH, kb.kbs, kb, kbs_W, kbs_SS]))
    iterate 3 (· exact xlqi)
  rintro j σ1 ⟨i, hi, rfl, rfl⟩
  by_cases hlt : i < l.length
  · have hget := atsC_get hlt
    have hsi := hsn l[i] (List.getElem_mem hlt)
    have hcl : (((l.take i).map shA).map D.str).length = i := by rw [List.length_map, List.length_map, List.length_take]; omega
    have hap : ((l.take i).map shA).map D.str ++ [.str (shA l[i])] = ((l.take (i + 1)).map shA).map .str := by rw [shL_get hlt, List.map_append]; rfl
    clear hsn
    generalize l[i] = a at *
    (have we1 := hget; have we2 := hcl; have we3 := hap; refine xwalk3 ?_)
    refine ⟨l.length - (i + 1), _, by omega, ?_, i + 1, by omega, rfl, rfl⟩
    refine Ent.cutk 1 (less_put (less_put (less_put (less_un0 _) ?_) ?_) ?_) ⟨.inr rfl, trivial⟩ (kb_put (kb_put (kb_put (kb_un0 _) (by simp [kb])) (by simp [kb])) (by simp [kb])) ⟨kbs_of_imm (strs_imm _), trivial⟩
    iterate 3 (· exact xlqi)
  · obtain rfl : i = l.length := by omega
    rw [List.take_length]
    have hcl : ((l.map shA).map D.str).length = l.length := by rw [List.length_map, List.length_map]
    have htk : ((l.map shA).map D.str).take l.length = (l.map shA).map .str := List.take_of_length_le (by omega)
    have hai := strs_imm (l.map shA)
    clear hsn
    (have we1 := hcl; have we2 := htk; have we3 := hai; exact xwalkd3)
theorem pcr_rjoin (hG : Stable G) (l : List Wd) (hl : l.length < 1000000) (hls : ∀ w ∈ l, w.size < 10000000) : PCr Tryz.prog G 61 [.sl l.length (l.map .str)] (.str (JW ⟨#[45]⟩ l)) := by
  have hll : (l.map D.str).length = l.length := List.length_map ..
  have hpre : ∀ i, (JW ⟨#[45]⟩ (l.take i)).size ≤ 10000001000000 := fun i => by
    have h1 := JW_len (s := ⟨#[45]⟩) (M := 10000000) (l := l.take i) (fun x hx => by have := hls x (List.mem_of_mem_take hx); omega)
    have h2 : (l.take i).length ≤ 1000000 := by rw [List.length_take]; omega
    exact Nat.le_trans h1 (Nat.mul_le_mul h2 (Nat.le_of_eq rfl))
  have hs1 : (#[45] : Array UInt8).size = 1 := rfl
  refine pcr_byq ok61 hG (n := 22) (rv := [.tmp 2]) fun r hr => ?_; unfold c61 st0
  (refine xwalk ?_)
  refine awp_loop (fun j σ => ∃ i : Nat, i ≤ l.length ∧ j = l.length - i ∧ σ = ⟨(putE (putE (putE un0 (some 0) (.sl l.length (l.map .str))) (some 3) (.str (JW ⟨#[45]⟩ (l.take i)))) (some 4) (.int .i64 (i : Int))), []⟩) l.length ?_ ⟨0, Nat.zero_le _, rfl, rfl⟩ ?_
  · refine Ent.env (less_put (less_put (less_put (less_un0 _) ?_) ?_) ?_)
    iterate 3 (· exact xlqi)
  rintro j σ1 ⟨i, hi, rfl, rfl⟩
  by_cases hlt : i < l.length
  · have hget := strs_get1 hlt
    have hsi := hls l[i] (List.getElem_mem hlt)
    have hst := JW_step (s := ⟨#[45]⟩) hlt
    have hp := hpre i
    clear hls hpre
    by_cases h0 : i = 0
    · rw [if_pos h0] at hst
      have hy : JW ⟨#[45]⟩ (l.take i) = ⟨#[]⟩ := by subst h0; rfl
      have hd : decide ((i : Int) > 0) = false := decide_eq_false (by omega)
      rw [hy]
      generalize l[i] = x at *
      have hz : (⟨#[]⟩ : Wd) ++ x = x := ba_ext (by simp [ByteArray.data_append])
      have hz2 : (#[] : Array UInt8).size = 0 := rfl
      (have we1 := hget; have we2 := hd; have we3 := hz; refine xwalk3 ?_)
      refine ⟨l.length - (i + 1), _, by omega, ?_, i + 1, by omega, rfl, rfl⟩
      rw [hst]
      refine Ent.env (less_put (less_put (less_put (less_un0 _) ?_) ?_) ?_)
      iterate 3 (· exact xlqi)
    · rw [if_neg h0] at hst
      generalize l[i] = x at *
      generalize JW ⟨#[45]⟩ (l.take i) = y at *
      have hd : decide ((i : Int) > 0) = true := decide_eq_true (by omega)
      have hq1 : (y ++ (⟨#[45]⟩ : Wd)).size = y.size + (#[45] : Array UInt8).size := ByteArray.size_append
      (have we1 := hget; have we2 := hd; refine xwalk2 ?_)
      refine ⟨l.length - (i + 1), _, by omega, ?_, i + 1, by omega, rfl, rfl⟩
      rw [hst]
      refine Ent.env (less_put (less_put (less_put (less_un0 _) ?_) ?_) ?_)
      iterate 3 (· exact xlqi)
  · obtain rfl : i = l.length := by omega
    rw [List.take_length] at *
    (exact xwalkd)
end Go.Proofs.YtgimaioeifnajaaGreatDoorK.TabT
