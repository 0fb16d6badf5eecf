/-
  Packages atom and unit: Show of an atom, a row of atoms, a part: what they compute.
-/
import Derived.Test.YtgimaioeifnajaaGreatDoorKIrX
import Derived.Test.YtgimaioeifnajaaGreatDoorKUniC
set_option linter.all false
set_option maxHeartbeats 0
namespace Go.Proofs.YtgimaioeifnajaaGreatDoorK.TabT
open AI NatIr Dig NatT LibT Go.Lib
attribute [local irreducible] awp awpOps
attribute [local go_sem] not_true_eq_false not_false_eq_true eq_self decide_true decide_false beq_self_eq_true Int.reduceAdd
variable {G : World → Prop}
theorem J_two (a b : Wd) : J [a, b] = a ++ ((⟨#[45]⟩ : Wd) ++ b) := by
  refine ba_ext ?_
  rw [J_data, show jn [a, b] = jn ([a] ++ [b]) from rfl, jn_app (by simp) (by simp), jn_one, jn_one]
  simp [ByteArray.data_append]
theorem ba_assoc (a b c : Wd) : a ++ b ++ c = a ++ (b ++ c) := ba_ext (by simp [ByteArray.data_append])
def shA (a : At) : Wd := if 1 ≤ a.pw ∧ a.pw ≤ 15 then J (atW a) else ⟨#[]⟩
theorem J_at (a : At) : J (atW a) = if a.pw = 1 then a.pre ++ a.name else if a.pw = 2 then (⟨#[115, 113, 117, 97, 114, 101, 45]⟩ : Wd) ++ (a.pre ++ a.name) else if a.pw = 3 then (⟨#[99, 117, 98, 105, 99, 45]⟩ : Wd) ++ (a.pre ++ a.name) else (⟨#[112, 111, 119]⟩ : Wd) ++ (⟨(itoa (a.pw.toNat : Int)).toArray⟩ : Wd) ++ (⟨#[45]⟩ : Wd) ++ (a.pre ++ a.name) := by
  unfold atW powS
  split
  · rw [List.nil_append, J_one]
  · split
    · rw [List.cons_append, List.nil_append, J_two, ← ba_assoc]; rfl
    · split
      · rw [List.cons_append, List.nil_append, J_two, ← ba_assoc]; rfl
      · rw [List.cons_append, List.nil_append, J_two, wPow, ba_assoc, ba_assoc, ba_assoc]
theorem pcr_ashow (hG : Stable G) (hT : ∀ w, G w → Lib.TabIs Tryz.prog w "internal/strconv.uint64pow10" .u64 Lib.pow10Tab) (a : At) (h1 : a.pre.size < 100000000000) (h2 : a.name.size < 100000000000) : PCr Tryz.prog G 43 [.agg [.str a.pre, .str a.name, .int .i64 a.pw]] (.str (shA a)) := by
  obtain ⟨pre, name, pw⟩ := a
  unfold shA
  rw [J_at]
  dsimp only at h1 h2 ⊢
  have hs1 : (#[115, 113, 117, 97, 114, 101, 45] : Array UInt8).size = 7 := rfl
  have hs2 : (#[99, 117, 98, 105, 99, 45] : Array UInt8).size = 6 := rfl
  have hs3 : (#[112, 111, 119] : Array UInt8).size = 3 := rfl
  have hs4 : (#[45] : Array UInt8).size = 1 := rfl
  have hps : (pre ++ name).size = pre.size + name.size := ByteArray.size_append
  by_cases c1 : pw < 1
  · rw [if_neg (by omega)]
    have d1 : decide (pw < 1) = true := decide_eq_true c1
    refine pcr_byq ok43 hG (n := 42) (rv := [.tmp 2]) fun r hr => ?_; unfold c43 st0
    (have we1 := d1; exact xwalkd1)
  have d1 : decide (pw < 1) = false := decide_eq_false c1
  by_cases c2 : pw > 15
  · rw [if_neg (by omega)]
    have d2 : decide (pw > 15) = true := decide_eq_true c2
    refine pcr_byq ok43 hG (n := 42) (rv := [.tmp 2]) fun r hr => ?_; unfold c43 st0
    (have we1 := d1; have we2 := d2; exact xwalkd2)
  have d2 : decide (pw > 15) = false := decide_eq_false c2
  rw [if_pos (by omega)]
  by_cases c3 : pw = 1
  · subst c3
    rw [if_pos rfl]
    refine pcr_byq ok43 hG (n := 42) (rv := [.tmp 2]) fun r hr => ?_; unfold c43 st0
    (have we1 := d1; have we2 := d2; exact xwalkd2)
  rw [if_neg c3]
  have d3 : (pw == 1) = false := by simpa using c3
  by_cases c4 : pw = 2
  · subst c4
    rw [if_pos rfl]
    refine pcr_byq ok43 hG (n := 42) (rv := [.tmp 2]) fun r hr => ?_; unfold c43 st0
    (have we1 := d1; have we2 := d2; have we3 := d3; exact xwalkd3)
  rw [if_neg c4]
  have d4 : (pw == 2) = false := by simpa using c4
  by_cases c5 : pw = 3
  · subst c5
    rw [if_pos rfl]
    refine pcr_byq ok43 hG (n := 42) (rv := [.tmp 2]) fun r hr => ?_; unfold c43 st0
    (have we1 := d1; have we2 := d2; have we3 := d3; have we4 := d4; exact xwalkd4)
  rw [if_neg c5]
  have d5 : (pw == 3) = false := by simpa using c5
  have hit := lib_itoa (G := G) hT pw (by omega) (by omega)
  have hsz : (⟨(itoa (pw.toNat : Int)).toArray⟩ : ByteArray).size ≤ 2 := dec_len15 (by omega)
  rw [show (pw.toNat : Int) = pw by omega] at hsz ⊢
  generalize (⟨(itoa pw).toArray⟩ : ByteArray) = it at *
  have hq1 : ((⟨#[112, 111, 119]⟩ : Wd) ++ it).size = (#[112, 111, 119] : Array UInt8).size + it.size := ByteArray.size_append
  have hq2 : ((⟨#[112, 111, 119]⟩ : Wd) ++ it ++ (⟨#[45]⟩ : Wd)).size = ((⟨#[112, 111, 119]⟩ : Wd) ++ it).size + (#[45] : Array UInt8).size := ByteArray.size_append
  refine pcr_byq ok43 hG (n := 42) (rv := [.tmp 2]) fun r hr => ?_; unfold c43 st0
  (have we1 := d1; have we2 := d2; have we3 := d3; have we4 := d4; have we5 := d5; exact xwalkd5)
@[local simp] theorem kbs_ats (k : Nat) (l : List At) : kb.kbs k (atsC l) := kbs_of_imm (atsC_imm l)
def rRow : Option (List At) → D
  | some r => .tup [.sl r.length (atsC r), .bool true]
  | none => .tup [.sl 0 [], .bool false]
theorem pcr_urow (hG : Stable G) (hT : ∀ w, G w → Lib.TabIs Tryz.prog w "internal/strconv.uint64pow10" .u64 Lib.pow10Tab) (k : Kn) (l : List Wd) (hn : k.names.length < 1000000) (hp : k.prefs.length < 1000000) (hl : l.length < 1000000) : PCr Tryz.prog G 48 [k.D, .sl l.length (l.map .str)] (rRow (rowA k l)) := by
  have hpa := fun m hm => pcr_aparse (G := G) hG hT k m hn hp hm
  unfold Kn.D at *
  generalize k.names.map D.str = cN at *
  generalize k.prefs.map D.str = cP at *
  refine pcr_byq ok48 hG (n := 30) (rv := [.tmp 4, .tmp 5]) fun r hr => ?_; unfold c48 st0
  (refine xwalk ?_)
  refine awp_loop (fun j σ => ∃ (m : List Wd) (acc : List At) (v : Nat), m.length + acc.length ≤ l.length ∧ j = m.length ∧ rowA k l = (rowA k m).map (fun r => acc ++ r) ∧
    σ = ⟨(putE (putE (putE un0 (some 1) (.sl m.length (m.map .str))) (some 2) (.ptr 0 0 0)) (some 6) (.own 1 v 0 acc.length)), [some (0, 31, 2, [.sl k.names.length cN, .sl k.prefs.length cP]), some (v, 60, 3, atsC acc)]⟩) l.length ?_ ⟨l, [], 0, Nat.le_refl _, rfl, ?_, rfl⟩ ?_
  · refine Ent.trans (Ent.nils (s := 6) 60 3 rfl) (by simp) ?_
    refine (Ent.cutk 2 (less_put (less_put (less_put (less_un0 _) ?_) ?_) ?_) (by exact ⟨.inr rfl, .inr rfl, trivial⟩) (kb_put (kb_put (kb_put (kb_un0 _) (by simp [kb])) (by simp [kb])) (by simp [kb])) (by simp [kbH, kb.kbs, kb, kbs_W, kbs_SS]))
    iterate 3 (· first | exact xlq | rfl | (simp only [go_sem, Nat.reduceEqDiff, Nat.reduceAdd, Nat.reduceLT, Nat.reduceMul, Nat.reduceLeDiff, reduceCtorEq, Int.reduceNeg, Int.reduceToNat]; exact congrArg (D.int .i64) (by omega)))
  · cases rowA k l <;> rfl
  rintro j σ1 ⟨m, acc, v, hml, rfl, hrow, rfl⟩
  have hmi := strs_imm m
  have hml2 : (m.map D.str).length = m.length := List.length_map ..
  by_cases hm : m = []
  · subst hm
    rw [rowA_nil, Option.map_some, List.append_nil] at hrow
    rw [hrow] at hr
    unfold rRow at hr
    dsimp only at hr
    have htk : (atsC acc).take (acc.length * 3) = atsC acc := List.take_of_length_le (by rw [atsC_len]; omega)
    have hal := atsC_len acc
    have hai := atsC_imm acc
    (have we1 := htk; have we2 := hal; have we3 := hai; exact xwalkd3)
  · rw [rowA_step hm] at hrow
    have hpos : 0 < m.length := List.length_pos_iff.2 hm
    have hpm := hpa m (by omega)
    clear hpa
    cases hp : parseA k m with
    | none =>
      rw [hp] at hpm hrow
      dsimp only [Option.map_none] at hrow
      rw [hrow] at hr
      unfold rRow at hr
      unfold rAt at hpm
      dsimp only at hr hpm
      (exact xwalkd)
    | some q =>
      obtain ⟨a, n⟩ := q
      obtain ⟨hmw, hn1, hnl, _⟩ := parseA_words hp
      rw [hp] at hpm hrow
      unfold rAt at hpm
      dsimp only at hrow hpm
      have hone : ([.str a.pre, .str a.name, .int .i64 a.pw] : List D).all D.one = true := rfl
      have hal := atsC_len acc
      have hao : atsC acc ++ [.str a.pre, .str a.name, .int .i64 a.pw] = atsC (acc ++ [a]) := by rw [atsC_app]; rfl
      have hdl : (m.drop n).length = m.length - n := List.length_drop
      have hdr : ((m.map D.str).drop n).take (m.length - n) = (m.drop n).map .str := by rw [← List.map_drop, List.take_of_length_le (by rw [List.length_map, hdl]; omega)]
      have hsub : ((m.length : Int) - (n : Int)).toNat = m.length - n := by omega
      have hac : (acc ++ [a]).length = acc.length + 1 := by rw [List.length_append]; rfl
      have hrow2 : rowA k l = (rowA k (m.drop n)).map (fun r => acc ++ [a] ++ r) := by
        rw [hrow]
        cases rowA k (m.drop n) with
        | none => rfl
        | some r => simp
      clear hrow hmw
      (have we1 := hal; have we2 := hao; have we3 := hdr; have we4 := hsub; refine xwalk4 ?_)
      refine ⟨(m.drop n).length, _, by omega, ?_, m.drop n, acc ++ [a], v + 1, by omega, rfl, hrow2, rfl⟩
      rw [hac, hdl]
      refine Ent.cutk 2 (less_put (less_put (less_put (less_un0 _) ?_) ?_) ?_) ⟨.inr rfl, .inr rfl, trivial⟩ (kb_put (kb_put (kb_put (kb_un0 _) (by simp [kb])) (by simp [kb])) (by simp [kb])) ⟨by simp [kb.kbs, kb], kbs_of_imm (atsC_imm _), trivial⟩
      iterate 3 (· first | exact xlq | rfl | (simp only [go_sem, Nat.reduceEqDiff, Nat.reduceAdd, Nat.reduceLT, Nat.reduceMul, Nat.reduceLeDiff, reduceCtorEq, Int.reduceNeg, Int.reduceToNat]; exact congrArg (D.int .i64) (by omega)))
def ptC (p : Pt) : List D := [.sl p.num.length (atsC p.num), .sl p.den.length (atsC p.den), .sl (wd 4294967296 p.c).length (W (wd 4294967296 p.c))]
def rPart : Option Pt → D
  | some p => .tup [.agg (ptC p), .bool true]
  | none => .tup [.agg [.sl 0 [], .sl 0 [], .sl 0 []], .bool false]
theorem pcr_uone (hG : Stable G) : PCr Tryz.prog G 45 [] (N 1) := by
  have h := pcr_of (G := G) hG 1 (by omega)
  refine pcr_byq ok45 hG (n := 2) (rv := [.cell 0 true 1]) fun r hr => ?_; unfold c45 st0
  (exact xwalkd)
end Go.Proofs.YtgimaioeifnajaaGreatDoorK.TabT
