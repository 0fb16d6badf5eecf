/-
  The document's own ShowPart, ShowUnit: what they compute.
-/
import Derived.Test.YtgimaioeifnajaaGreatDoorKIrCubitref6
import Derived.Test.YtgimaioeifnajaaGreatDoorKUniX
set_option linter.all false
set_option maxHeartbeats 0
namespace Go.Proofs.YtgimaioeifnajaaGreatDoorK.TabT
open AI NatIr Dig NatT LibT Go.Lib
attribute [local irreducible] awp awpOps
attribute [local go_sem] not_true_eq_false not_false_eq_true eq_self decide_true decide_false beq_self_eq_true Int.reduceAdd nl List.getElem?_cons_zero List.getElem?_cons_succ
variable {G : World → Prop}
def shL (num den : List At) (c : Wd) : List Wd := num.map shA ++ ((if c ≠ w1 ∨ den ≠ [] then [wPer] else []) ++ ((if c ≠ w1 then [c] else []) ++ den.map shA))
theorem pcr_rshowpart (hG : Stable G) (num den : List At) (c : Wd) (hn : num.length ≤ 1000) (hd : den.length ≤ 1000) (hcs : c.size < 1000000) (hns : ∀ a ∈ num, a.pre.size < 2000000 ∧ a.name.size < 2000000) (hds : ∀ a ∈ den, a.pre.size < 2000000 ∧ a.name.size < 2000000) :
    PCr Tryz.prog G 35 [.agg [.sl num.length (atsC num), .sl den.length (atsC den), .str c]] (.str (JW ⟨#[45]⟩ (shL num den c))) := by
  have hg1 := pcg_rshows (G := G) hG num (by omega) hns
  have hg2 := pcr_rshows (G := G) hG den (by omega) hds
  have hjo := pcr_rjoin (G := G) hG (shL num den c) (by
    unfold shL
    have : (if c ≠ w1 ∨ den ≠ [] then [wPer] else []).length ≤ 1 := by split <;> simp
    have : (if c ≠ w1 then [c] else []).length ≤ 1 := by split <;> simp
    simp only [List.length_append, List.length_map]; omega) (fun w hw => by
    unfold shL at hw
    have hwp : wPer.size = 3 := rfl
    rcases List.mem_append.1 hw with hw | hw
    · obtain ⟨a, ha, rfl⟩ := List.mem_map.1 hw
      have := shA_size a; have := hns a ha; omega
    · rcases List.mem_append.1 hw with hw | hw
      · split at hw
        · rw [List.mem_singleton.1 hw]; omega
        · cases hw
      · rcases List.mem_append.1 hw with hw | hw
        · split at hw
          · rw [List.mem_singleton.1 hw]; omega
          · cases hw
        · obtain ⟨a, ha, rfl⟩ := List.mem_map.1 hw
          have := shA_size a; have := hds a ha; omega)
  clear hns hds
  have hal := atsC_len num
  have hbl := atsC_len den
  have ha1 := strs_imm (num.map shA)
  have ha2 := strs_imm (den.map shA)
  have hl1 : ((num.map shA).map D.str).length = num.length := by rw [List.length_map, List.length_map]
  have hl2 : ((den.map shA).map D.str).length = den.length := by rw [List.length_map, List.length_map]
  have hRN : [some (num.length, 9, 1, (num.map shA).map D.str)].map (renB [1]) = [some (num.length, 9, 1, (num.map shA).map D.str)] := renB_imm (by simp only [immH, ha1, Bool.true_and])
  unfold shL at *
  unfold w1 wPer at *
  by_cases hc : c = (⟨#[49]⟩ : Wd)
  · have hcd : decide (c = (⟨#[49]⟩ : ByteArray)) = true := decide_eq_true hc
    by_cases hd0 : den = []
    · rw [if_neg (by simp [hc, hd0]), if_neg (by simp [hc])] at *
      subst hd0
      rw [List.nil_append, List.nil_append, List.map_nil, List.append_nil] at *
      rw [List.length_map] at hjo
      have hdz : decide (((0 : Nat) : Int) > 0) = false := rfl
      have htk : ((num.map shA).map D.str).take num.length = (num.map shA).map .str := List.take_of_length_le (by omega)
      refine pcr_byq ok35 hG (n := 34) (rv := [.tmp 2]) fun r hr => ?_; unfold c35 st0
      (refine xwalk ?_)
      refine xcr [1] hg1 rfl (by simp [kb]) rfl trivial (by simp only [D.ren, List.getD_cons_zero]; rfl) hRN ?_
      clear hg1 hRN
      (have we1 := hdz; have we2 := hcd; have we3 := hl1; have we4 := htk; have we5 := ha1; exact xwalkd5)
    · rw [if_pos (.inr hd0), if_neg (by simp [hc]), List.nil_append] at *
      have hdz : decide ((den.length : Int) > 0) = true := decide_eq_true (by have := List.length_pos_iff.2 hd0; omega)
      have hll : (num.map shA ++ ([(⟨#[112, 101, 114]⟩ : Wd)] ++ den.map shA)).length = num.length + 1 + den.length := by simp; omega
      rw [hll] at hjo
      have hb1 : (num.map shA).map D.str ++ [.str (⟨#[112, 101, 114]⟩ : Wd)] = (num.map shA ++ [(⟨#[112, 101, 114]⟩ : Wd)]).map .str := by rw [List.map_append (l₂ := [_])]; rfl
      have hl3 : ((num.map shA ++ [(⟨#[112, 101, 114]⟩ : Wd)]).map D.str).length = num.length + 1 := by simp
      have hb2 : (num.map shA ++ [(⟨#[112, 101, 114]⟩ : Wd)]).map D.str ++ (den.map shA).map D.str = (num.map shA ++ ([(⟨#[112, 101, 114]⟩ : Wd)] ++ den.map shA)).map D.str := by rw [← List.append_assoc, List.map_append (l₂ := den.map shA)]
      have hlm : ((num.map shA ++ ([(⟨#[112, 101, 114]⟩ : Wd)] ++ den.map shA)).map D.str).length = num.length + 1 + den.length := by rw [List.length_map, hll]
      have htk : ((num.map shA ++ ([(⟨#[112, 101, 114]⟩ : Wd)] ++ den.map shA)).map D.str).take (num.length + 1 + den.length) = (num.map shA ++ ([(⟨#[112, 101, 114]⟩ : Wd)] ++ den.map shA)).map D.str := List.take_of_length_le (by omega)
      have hai := strs_imm (num.map shA ++ ([(⟨#[112, 101, 114]⟩ : Wd)] ++ den.map shA))
      have hst := strs_one (den.map shA)
      generalize num.map shA ++ ([(⟨#[112, 101, 114]⟩ : Wd)] ++ den.map shA) = L at *
      generalize num.map shA ++ [(⟨#[112, 101, 114]⟩ : Wd)] = L1 at *
      refine pcr_byq ok35 hG (n := 34) (rv := [.tmp 2]) fun r hr => ?_; unfold c35 st0
      (refine xwalk ?_)
      refine xcr [1] hg1 rfl (by simp [kb]) rfl trivial (by simp only [D.ren, List.getD_cons_zero]; rfl) hRN ?_
      clear hg1 hRN
      (have we1 := hdz; have we2 := hcd; have we3 := hl1; have we4 := hb1; have we5 := hl3; refine xwalk5 ?_)
      (have we1 := hl2; have we2 := hst; have we3 := hb2; have we4 := hlm; have we5 := htk; have we6 := hai; exact xwalkd6)
  · have hcd : decide (c = (⟨#[49]⟩ : ByteArray)) = false := decide_eq_false hc
    rw [if_pos (.inl hc), if_pos hc] at *
    have hll : (num.map shA ++ ([(⟨#[112, 101, 114]⟩ : Wd)] ++ ([c] ++ den.map shA))).length = num.length + 1 + 1 + den.length := by simp; omega
    rw [hll] at hjo
    have hb1 : (num.map shA).map D.str ++ [.str (⟨#[112, 101, 114]⟩ : Wd)] = (num.map shA ++ [(⟨#[112, 101, 114]⟩ : Wd)]).map .str := by rw [List.map_append (l₂ := [_])]; rfl
    have hl3 : ((num.map shA ++ [(⟨#[112, 101, 114]⟩ : Wd)]).map D.str).length = num.length + 1 := by simp
    have hb3 : (num.map shA ++ [(⟨#[112, 101, 114]⟩ : Wd)]).map D.str ++ [.str c] = (num.map shA ++ [(⟨#[112, 101, 114]⟩ : Wd)] ++ [c]).map .str := by rw [List.map_append (l₂ := [c])]; rfl
    have hl4 : ((num.map shA ++ [(⟨#[112, 101, 114]⟩ : Wd)] ++ [c]).map D.str).length = num.length + 1 + 1 := by simp
    have hb2 : (num.map shA ++ [(⟨#[112, 101, 114]⟩ : Wd)] ++ [c]).map D.str ++ (den.map shA).map D.str = (num.map shA ++ ([(⟨#[112, 101, 114]⟩ : Wd)] ++ ([c] ++ den.map shA))).map D.str := by rw [← List.append_assoc, ← List.append_assoc, List.map_append (l₂ := den.map shA)]
    have hlm : ((num.map shA ++ ([(⟨#[112, 101, 114]⟩ : Wd)] ++ ([c] ++ den.map shA))).map D.str).length = num.length + 1 + 1 + den.length := by rw [List.length_map, hll]
    have htk : ((num.map shA ++ ([(⟨#[112, 101, 114]⟩ : Wd)] ++ ([c] ++ den.map shA))).map D.str).take (num.length + 1 + 1 + den.length) = (num.map shA ++ ([(⟨#[112, 101, 114]⟩ : Wd)] ++ ([c] ++ den.map shA))).map D.str := List.take_of_length_le (by omega)
    have hai := strs_imm (num.map shA ++ ([(⟨#[112, 101, 114]⟩ : Wd)] ++ ([c] ++ den.map shA)))
    have hst := strs_one (den.map shA)
    generalize num.map shA ++ ([(⟨#[112, 101, 114]⟩ : Wd)] ++ ([c] ++ den.map shA)) = L at *
    generalize num.map shA ++ [(⟨#[112, 101, 114]⟩ : Wd)] ++ [c] = L2 at *
    generalize num.map shA ++ [(⟨#[112, 101, 114]⟩ : Wd)] = L1 at *
    by_cases hd0 : den = []
    · have hdz : decide ((den.length : Int) > 0) = false := decide_eq_false (by rw [hd0]; simp)
      refine pcr_byq ok35 hG (n := 34) (rv := [.tmp 2]) fun r hr => ?_; unfold c35 st0
      (refine xwalk ?_)
      refine xcr [1] hg1 rfl (by simp [kb]) rfl trivial (by simp only [D.ren, List.getD_cons_zero]; rfl) hRN ?_
      clear hg1 hRN
      (have we1 := hdz; have we2 := hcd; have we3 := hl1; have we4 := hb1; have we5 := hl3; have we6 := hb3; have we7 := hl4; refine xwalk7 ?_)
      (have we1 := hl2; have we2 := hst; have we3 := hb2; have we4 := hlm; have we5 := htk; have we6 := hai; exact xwalkd6)
    · have hdz : decide ((den.length : Int) > 0) = true := decide_eq_true (by have := List.length_pos_iff.2 hd0; omega)
      refine pcr_byq ok35 hG (n := 34) (rv := [.tmp 2]) fun r hr => ?_; unfold c35 st0
      (refine xwalk ?_)
      refine xcr [1] hg1 rfl (by simp [kb]) rfl trivial (by simp only [D.ren, List.getD_cons_zero]; rfl) hRN ?_
      clear hg1 hRN
      (have we1 := hdz; have we2 := hcd; have we3 := hl1; have we4 := hb1; have we5 := hl3; have we6 := hb3; have we7 := hl4; refine xwalk7 ?_)
      (have we1 := hl2; have we2 := hst; have we3 := hb2; have we4 := hlm; have we5 := htk; have we6 := hai; exact xwalkd6)
end Go.Proofs.YtgimaioeifnajaaGreatDoorK.TabT
