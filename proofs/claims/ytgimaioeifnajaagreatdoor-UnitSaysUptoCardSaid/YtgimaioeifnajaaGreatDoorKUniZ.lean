/-
  Units shown, whatever the unit: the program's Show and the document's ShowUnit.
-/
import Derived.Test.YtgimaioeifnajaaGreatDoorKIrCubitref6
import Derived.Test.YtgimaioeifnajaaGreatDoorKIrX
import Derived.Test.YtgimaioeifnajaaGreatDoorKUniY
set_option linter.all false
set_option maxHeartbeats 0
namespace Go.Proofs.YtgimaioeifnajaaGreatDoorK.TabT
open AI NatIr Dig NatT LibT Go.Lib
attribute [local irreducible] awp awpOps
attribute [local go_sem] not_true_eq_false not_false_eq_true eq_self decide_true decide_false beq_self_eq_true Int.reduceAdd nl List.getElem?_cons_zero List.getElem?_cons_succ
variable {G : World → Prop}
theorem txt_inj {a b : Nat} (h : txt a = txt b) : a = b := by
  have h1 : decDigits a = decDigits b := by
    have := congrArg (fun x : Wd => x.data.toList) h
    simpa [txt] using this
  rw [← dec_val a, h1, dec_val]
theorem txt_w1 {c : Nat} : (txt c = w1) = (c = 1) := propext ⟨fun h => txt_inj (h.trans txt1.symm), fun h => by subst h; exact txt1⟩
theorem shL_txt (p : Pt) : shL p.num p.den (txt p.c) = ptT p := by
  unfold shL ptT
  have h : (txt p.c ≠ w1) = (p.c ≠ 1) := by rw [Ne, txt_w1]
  simp only [h]
structure Pt.may (p : Pt) : Prop where
  num : p.num.length ≤ 1000
  den : p.den.length ≤ 1000
  c : p.c < 4294967296 ^ 6
  fits : p.fits
theorem ptT_size {p : Pt} (h : p.may) : (J (ptT p)).size ≤ 21000000000 := by
  have h1 : ∀ w ∈ ptT p, w.size ≤ 10000000 := fun w hw => by
    unfold ptT at hw
    have hwp : wPer.size = 3 := rfl
    rcases List.mem_append.1 hw with hw | hw
    · obtain ⟨a, ha, rfl⟩ := List.mem_map.1 hw
      have := shA_size a; have := h.fits.num a ha; omega
    · rcases List.mem_append.1 hw with hw | hw
      · split at hw
        · rw [List.mem_singleton.1 hw]; omega
        · cases hw
      · rcases List.mem_append.1 hw with hw | hw
        · split at hw
          · rw [List.mem_singleton.1 hw]; have := txt_size h.c; omega
          · cases hw
        · obtain ⟨a, ha, rfl⟩ := List.mem_map.1 hw
          have := shA_size a; have := h.fits.den a ha; omega
  have h2 := jn_len h1
  have h3 : (ptT p).length ≤ 2002 := by
    unfold ptT
    have := h.num
    have := h.den
    have : (if p.c ≠ 1 ∨ p.den ≠ [] then [wPer] else []).length ≤ 1 := by split <;> simp
    have : (if p.c ≠ 1 then [txt p.c] else []).length ≤ 1 := by split <;> simp
    simp only [List.length_append, List.length_map]; omega
  unfold J
  rw [ba_size]
  exact Nat.le_trans h2 (Nat.le_trans (Nat.mul_le_mul_right _ h3) (by decide))
def shU (u : List Pt) : Wd := JW ⟨#[45, 97, 110, 100, 45]⟩ (u.map fun p => J (ptT p))
theorem shU_get {u : List Pt} {i : Nat} (h : i < u.length) : (u.take (i + 1)).map (fun p => J (ptT p)) = (u.take i).map (fun p => J (ptT p)) ++ [J (ptT u[i])] := by
  rw [List.take_succ_eq_append_getElem h, List.map_append]; rfl
theorem shU_size {u : List Pt} (h : ∀ p ∈ u, p.may) (hl : u.length ≤ 1000) (i : Nat) : (shU (u.take i)).size ≤ 21000000005000 := by
  have h1 := JW_len (s := ⟨#[45, 97, 110, 100, 45]⟩) (M := 21000000000) (l := (u.take i).map fun p => J (ptT p)) (fun x hx => by
    obtain ⟨p, hp, rfl⟩ := List.mem_map.1 hx
    exact ptT_size (h p (List.mem_of_mem_take hp)))
  refine Nat.le_trans h1 ?_
  rw [List.length_map]
  have h2 : (u.take i).length ≤ 1000 := by rw [List.length_take]; omega
  exact Nat.le_trans (Nat.mul_le_mul_right _ h2) (by show 1000 * 21000000005 ≤ 21000000005000; omega)
theorem shU_step {u : List Pt} {i : Nat} (h : i < u.length) : shU (u.take (i + 1)) = if i = 0 then J (ptT u[i]) else shU (u.take i) ++ ⟨#[45, 97, 110, 100, 45]⟩ ++ J (ptT u[i]) := by
  have := JW_step (s := ⟨#[45, 97, 110, 100, 45]⟩) (l := u.map fun p => J (ptT p)) (i := i) (by rw [List.length_map]; exact h)
  rw [← List.map_take, ← List.map_take, List.getElem_map] at this
  exact this
theorem pcr_rshowunit (hG : Stable G) (u : List Pt) (hok : ∀ p ∈ u, p.may) (hul : u.length ≤ 1000) :
    PCr Tryz.prog G 18 [.sl u.length (rptsC u)] (.str (shU u)) := by
  have hsp : ∀ p ∈ u, PCr Tryz.prog G 35 [.agg (rpT p)] (.str (J (ptT p))) := fun p hp => by
    have h := hok p hp
    have := pcr_rshowpart (G := G) hG p.num p.den (txt p.c) h.num h.den (by have := txt_size h.c; omega) h.fits.num h.fits.den
    rw [shL_txt] at this
    exact this
  have hps : ∀ p ∈ u, (J (ptT p)).size ≤ 21000000000 := fun p hp => ptT_size (hok p hp)
  have hpre := shU_size hok hul
  have hpl := rptsC_len u
  have hs1 : (#[45, 97, 110, 100, 45] : Array UInt8).size = 5 := rfl
  clear hok
  refine pcr_byq ok18 hG (n := 23) (rv := [.tmp 2]) fun r hr => ?_; unfold c18 st0
  (refine xwalk ?_)
  refine awp_loop (fun j σ => ∃ i : Nat, i ≤ u.length ∧ j = u.length - i ∧ σ = ⟨(putE (putE (putE un0 (some 0) (.sl u.length (rptsC u))) (some 3) (.str (shU (u.take i)))) (some 4) (.int .i64 (i : Int))), []⟩) u.length ?_ ⟨0, Nat.zero_le _, rfl, rfl⟩ ?_
  · refine Ent.env (less_put (less_put (less_put (less_un0 _) ?_) ?_) ?_)
    iterate 3 (· exact xlqi)
  rintro j σ1 ⟨i, hi, rfl, rfl⟩
  by_cases hlt : i < u.length
  · have hget := rptsC_get hlt
    have hsi := hsp u[i] (List.getElem_mem hlt)
    have hsz := hps u[i] (List.getElem_mem hlt)
    have hst := shU_step hlt
    have hp := hpre i
    clear hsp hpre hps
    generalize u[i] = p at *
    unfold rpT at hget hsi
    by_cases h0 : i = 0
    · rw [if_pos h0] at hst
      have hy : shU (u.take i) = ⟨#[]⟩ := by subst h0; rfl
      have hd : decide ((i : Int) > 0) = false := decide_eq_false (by omega)
      rw [hy]
      generalize J (ptT p) = x at *
      have hz : (⟨#[]⟩ : Wd) ++ x = x := ba_ext (by simp [ByteArray.data_append])
      have hz2 : (#[] : Array UInt8).size = 0 := rfl
      (have we1 := hget; have we2 := hd; have we3 := hz; refine xwalk3 ?_)
      refine ⟨u.length - (i + 1), _, by omega, ?_, i + 1, by omega, rfl, rfl⟩
      rw [hst]
      refine Ent.env (less_put (less_put (less_put (less_un0 _) ?_) ?_) ?_)
      iterate 3 (· exact xlqi)
    · rw [if_neg h0] at hst
      generalize J (ptT p) = x at *
      generalize shU (u.take i) = y at *
      have hd : decide ((i : Int) > 0) = true := decide_eq_true (by omega)
      have hq1 : (y ++ (⟨#[45, 97, 110, 100, 45]⟩ : Wd)).size = y.size + (#[45, 97, 110, 100, 45] : Array UInt8).size := ByteArray.size_append
      (have we1 := hget; have we2 := hd; refine xwalk2 ?_)
      refine ⟨u.length - (i + 1), _, by omega, ?_, i + 1, by omega, rfl, rfl⟩
      rw [hst]
      refine Ent.env (less_put (less_put (less_put (less_un0 _) ?_) ?_) ?_)
      iterate 3 (· exact xlqi)
  · obtain rfl : i = u.length := by omega
    rw [List.take_length] at *
    clear hsp hpre hps
    (exact xwalkd)
structure GP where
  num : List At
  den : List At
  x : List Int
def GP.pt (g : GP) : Pt := ⟨g.num, g.den, vl 4294967296 g.x⟩
def GP.C (g : GP) : List D := [.sl g.num.length (atsC g.num), .sl g.den.length (atsC g.den), .sl g.x.length (W g.x)]
def gpsC (u : List GP) : List D := u.flatMap GP.C
theorem gpsC_len (u : List GP) : (gpsC u).length = u.length * 3 := by
  induction u with
  | nil => rfl
  | cons p u ih =>
    show (gpsC u).length + 1 + 1 + 1 = _
    rw [ih, List.length_cons]; omega
theorem gpsC_imm (u : List GP) : (gpsC u).all D.imm = true := by
  induction u with
  | nil => rfl
  | cons p u ih =>
    show (true && (true && (true && (gpsC u).all D.imm))) = true
    rw [ih]; rfl
theorem gpsC_get {u : List GP} {i : Nat} (h : i < u.length) : ((gpsC u).drop (i * 3)).take 3 = u[i].C := by
  induction u generalizing i with
  | nil => cases h
  | cons p u ih =>
    cases i with
    | zero => rfl
    | succ i =>
      rw [show (i + 1) * 3 = i * 3 + 3 by omega]
      exact ih (by simpa using h)
structure GP.may (g : GP) : Prop where
  num : g.num.length ≤ 1000
  den : g.den.length ≤ 1000
  xs : ok 4294967296 g.x
  x6 : g.x.length ≤ 6
  fits : g.pt.fits
theorem GP.may.pt {g : GP} (h : g.may) : g.pt.may := ⟨h.num, h.den, by
  have hcn : Nm 6 (vl 4294967296 g.x) (.agg [.sl g.x.length (W g.x)]) := ⟨g.x, _, rfl, h.xs, rfl, h.x6, rfl⟩
  exact hcn.lt, h.fits⟩
theorem mays_pt {u : List GP} (h : ∀ g ∈ u, g.may) : ∀ p ∈ u.map GP.pt, p.may := fun p hp => by
  obtain ⟨g, hg, rfl⟩ := List.mem_map.1 hp
  exact (h g hg).pt
theorem gpU_get {u : List GP} {i : Nat} (h : i < u.length) : (u.take (i + 1)).map (fun g => J (ptT (GP.pt g))) = (u.take i).map (fun g => J (ptT (GP.pt g))) ++ [J (ptT (GP.pt u[i]))] := by
  rw [List.take_succ_eq_append_getElem h, List.map_append]; rfl
theorem pcr_ushowG (hG : Stable G) (hT : ∀ w, G w → Lib.TabIs Tryz.prog w "internal/strconv.uint64pow10" .u64 Lib.pow10Tab) (u : List GP) (hok : ∀ g ∈ u, g.may) (hul : u.length ≤ 1000) :
    PCr Tryz.prog G 11 [.agg [.sl u.length (gpsC u)]] (.str (shU (u.map GP.pt))) := by
  have hsp : ∀ g ∈ u, PCr Tryz.prog G 22 [.agg g.C] (.str (J (ptT g.pt))) := fun g hg => by
    have h := hok g hg
    exact pcr_showpart hG hT g.num g.den (x := g.x) rfl h.xs h.x6 h.num h.den h.fits.num h.fits.den
  have hjl := lib_join (G := G) (u.map fun g => J (ptT (GP.pt g))) ⟨#[45, 97, 110, 100, 45]⟩ _ rfl (by rw [List.length_map]; omega) (by
    have := shU_size (mays_pt hok) (by rw [List.length_map]; exact hul) (u.map GP.pt).length
    rw [List.take_length] at this
    unfold shU JW at this
    rw [ba_size] at this
    simp only [List.map_map, Function.comp_def] at this ⊢
    exact Nat.le_trans this (by decide))
  rw [show (⟨(join ((u.map fun g => J (ptT (GP.pt g))).map (·.data.toList)) (⟨#[45, 97, 110, 100, 45]⟩ : ByteArray).data.toList).toArray⟩ : ByteArray) = shU (u.map GP.pt) from by unfold shU JW; simp only [List.map_map, Function.comp_def]] at hjl
  have hpl := gpsC_len u
  clear hok
  refine pcr_byq ok11 hG (n := 21) (rv := [.tmp 2]) fun r hr => ?_; unfold c11 st0
  (refine xwalk ?_)
  refine awp_loop (fun j σ => ∃ i v, i ≤ u.length ∧ j = u.length - i ∧ σ = ⟨(putE (putE (putE (putE (putE un0 (some 1) (.ptr 0 0 0)) (some 3) (.own 1 v 0 i)) (some 7) (.sl u.length (gpsC u))) (some 8) (.int .i64 (u.length : Int))) (some 9) (.int .i64 (i : Int))), [some (0, 25, 1, [.sl u.length (gpsC u)]), some (v, 9, 1, ((u.take i).map fun g => J (ptT (GP.pt g))).map .str)]⟩) u.length ?_ ⟨0, 0, Nat.zero_le _, rfl, rfl⟩ ?_
  · refine Ent.trans (Ent.nils (s := 3) 9 1 rfl) (by simp) ?_
    refine (Ent.cutk 2 (less_put (less_put (less_put (less_put (less_put (less_un0 _) ?_) ?_) ?_) ?_) ?_) (by exact ⟨.inr rfl, .inr rfl, trivial⟩) (kb_put (kb_put (kb_put (kb_put (kb_put (kb_un0 _) (by simp [kb])) (by simp [kb])) (by simp [kb])) (by simp [kb])) (by simp [kb])) (by simp [kbH, kb.kbs, kb, kbs_W, kbs_SS]))
    iterate 5 (· exact xlqi)
  rintro j σ1 ⟨i, v, hi, rfl, rfl⟩
  by_cases hlt : i < u.length
  · have hget := gpsC_get hlt
    have hsi := hsp u[i] (List.getElem_mem hlt)
    have hcl : (((u.take i).map fun g => J (ptT (GP.pt g))).map D.str).length = i := by rw [List.length_map, List.length_map, List.length_take]; omega
    have hap : ((u.take i).map fun g => J (ptT (GP.pt g))).map D.str ++ [.str (J (ptT (GP.pt u[i])))] = ((u.take (i + 1)).map fun g => J (ptT (GP.pt g))).map .str := by rw [gpU_get hlt, List.map_append (l₂ := [J (ptT (GP.pt u[i]))])]; rfl
    clear hsp
    generalize u[i] = p at *
    unfold GP.C at hget hsi
    (have we1 := hget; have we2 := hcl; have we3 := hap; refine xwalk3 ?_)
    refine ⟨u.length - (i + 1), _, by omega, ?_, i + 1, v + 1, by omega, rfl, rfl⟩
    refine Ent.cutk 2 (less_put (less_put (less_put (less_put (less_put (less_un0 _) ?_) ?_) ?_) ?_) ?_) ⟨.inr rfl, .inr rfl, trivial⟩ (kb_put (kb_put (kb_put (kb_put (kb_put (kb_un0 _) (by simp [kb])) (by simp [kb])) (by simp [kb])) (by simp [kb])) (by simp [kb])) ⟨by simp [kb.kbs, kb], kbs_of_imm (strs_imm _), trivial⟩
    iterate 5 (· exact xlqi)
  · obtain rfl : i = u.length := by omega
    rw [List.take_length]
    have hln : (u.map fun g => J (ptT (GP.pt g))).length = u.length := List.length_map ..
    rw [hln] at hjl
    have hcl : ((u.map fun g => J (ptT (GP.pt g))).map D.str).length = u.length := by rw [List.length_map, hln]
    have htk : ((u.map fun g => J (ptT (GP.pt g))).map D.str).take u.length = (u.map fun g => J (ptT (GP.pt g))).map .str := List.take_of_length_le (by omega)
    have hai := strs_imm (u.map fun g => J (ptT (GP.pt g)))
    clear hsp
    (have we1 := hcl; have we2 := htk; have we3 := hai; exact xwalkd3)
end Go.Proofs.YtgimaioeifnajaaGreatDoorK.TabT
