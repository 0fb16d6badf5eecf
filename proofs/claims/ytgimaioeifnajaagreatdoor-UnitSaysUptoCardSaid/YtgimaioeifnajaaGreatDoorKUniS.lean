/-
  The document's own power, ParseAtom, atoms: what they compute.
-/
import Derived.Test.YtgimaioeifnajaaGreatDoorKIrCubitref6
import Derived.Test.YtgimaioeifnajaaGreatDoorKUniR
set_option linter.all false
set_option maxHeartbeats 0
namespace Go.Proofs.YtgimaioeifnajaaGreatDoorK.TabT
open AI NatIr Dig NatT LibT Go.Lib
attribute [local irreducible] awp awpOps
attribute [local go_sem] not_true_eq_false not_false_eq_true eq_self decide_true decide_false beq_self_eq_true Int.reduceAdd nl
variable {G : World → Prop}
theorem pcr_rpower (hG : Stable G) (s : Wd) : PCr Tryz.prog G 110 [.str s] (.int .i64 (rpw s : Nat)) := by
  unfold rpw powW
  by_cases h1 : s = wSq
  · rw [if_pos h1, if_neg (by decide)]
    have e1 : decide (s = (⟨#[115, 113, 117, 97, 114, 101]⟩ : ByteArray)) = true := decide_eq_true h1
    refine pcr_byq ok110 hG (n := 18) (rv := [.tmp 2]) fun r hr => ?_; unfold c110 st0
    (have we1 := e1; exact xwalkd1)
  rw [if_neg h1]
  have e1 : decide (s = (⟨#[115, 113, 117, 97, 114, 101]⟩ : ByteArray)) = false := decide_eq_false h1
  by_cases h2 : s = wCu
  · rw [if_pos h2, if_neg (by decide)]
    have e2 : decide (s = (⟨#[99, 117, 98, 105, 99]⟩ : ByteArray)) = true := decide_eq_true h2
    refine pcr_byq ok110 hG (n := 18) (rv := [.tmp 2]) fun r hr => ?_; unfold c110 st0
    (have we1 := e1; have we2 := e2; exact xwalkd2)
  rw [if_neg h2]
  have e2 : decide (s = (⟨#[99, 117, 98, 105, 99]⟩ : ByteArray)) = false := decide_eq_false h2
  refine pcr_byq ok110 hG (n := 18) (rv := [.tmp 2]) fun r hr => ?_; unfold c110 st0
  (have we1 := e1; have we2 := e2; refine xwalk2 ?_)
  refine awp_loop (fun k σ => ∃ n, 4 ≤ n ∧ n ≤ 16 ∧ k = 16 - n ∧ powF s (16 - n) n = powF s 12 4 ∧ σ = ⟨(putE (putE un0 (some 0) (.str s)) (some 3) (.int .i64 (n : Int))), []⟩) 12 ?_ ⟨4, Nat.le_refl _, by omega, rfl, rfl, rfl⟩ ?_
  · refine Ent.env (less_put (less_put (less_un0 _) ?_) ?_)
    iterate 2 (· exact xlqi)
  rintro k σ1 ⟨n, h4, hi, rfl, hf, rfl⟩
  by_cases hlt : n < 16
  · have hit := pcr_rnum (G := G) hG n hlt
    rw [show 16 - n = (16 - (n + 1)) + 1 by omega, powF] at hf
    have hsz : (⟨(itoa (n : Int)).toArray⟩ : ByteArray).size ≤ 2 := dec_len15 (by omega)
    unfold wPow at hf
    generalize (⟨(itoa (n : Int)).toArray⟩ : ByteArray) = it at *
    have hs3 : (#[112, 111, 119] : Array UInt8).size = 3 := rfl
    by_cases hw : s = (⟨#[112, 111, 119]⟩ : ByteArray) ++ it
    · rw [if_pos hw] at hf
      rw [← hf, if_neg (by omega)] at hr
      have hwd : decide (s = (⟨#[112, 111, 119]⟩ : ByteArray) ++ it) = true := decide_eq_true hw
      (have we1 := hwd; exact xwalkd1)
    · rw [if_neg hw] at hf
      have hwd : decide (s = (⟨#[112, 111, 119]⟩ : ByteArray) ++ it) = false := decide_eq_false hw
      (have we1 := hwd; refine xwalk1 ?_)
      refine ⟨16 - (n + 1), _, by omega, ?_, n + 1, by omega, by omega, rfl, hf, rfl⟩
      refine Ent.env (less_put (less_put (less_un0 _) ?_) ?_)
      iterate 2 (· exact xlqi)
  · obtain rfl : n = 16 := by omega
    rw [show 16 - 16 = 0 from rfl, powF] at hf
    rw [← hf] at hr
    (exact xwalkd)
theorem hasP_iff {p s : Wd} : hasP p s = true ↔ p.size ≤ s.size ∧ s.extract 0 p.size = p := by
  unfold hasP hasPrefix
  rw [List.isPrefixOf_iff_prefix]
  constructor
  · rintro ⟨t, ht⟩
    refine ⟨?_, ba_ext ?_⟩
    · rw [← ba_len, ← ba_len, ← ht, List.length_append]; omega
    · rw [ext_list, ← ht, List.drop_zero, Nat.sub_zero, ← ba_len, List.take_left']; rfl
  · rintro ⟨h1, h2⟩
    refine ⟨s.data.toList.drop p.size, ?_⟩
    have := congrArg (fun b : Wd => b.data.toList) h2
    rw [ext_list, List.drop_zero, Nat.sub_zero] at this
    rw [← this, List.take_append_drop]
theorem behind_ext {p s : Wd} (h : hasP p s = true) : s.extract p.size s.size = behind p s := by
  refine ba_ext ?_
  have h1 : hasPrefix s.data.toList p.data.toList = true := h
  rw [ext_list, behind, trimPrefix, if_pos h1, ba_len, List.take_of_length_le (by rw [List.length_drop, ba_len]; omega)]
theorem pcr_rparseatom (hG : Stable G) (k : Kn) (l : List Wd) (hn : k.names.length < 1000000) (hp : k.prefs.length < 1000000) (hl : l.length < 1000000) (hpsz : ∀ p ∈ k.prefs, p.size < 1000000) (hls : ∀ w ∈ l, w.size < 1000000) : PCr Tryz.prog G 82 [k.D, .sl l.length (l.map .str)] (rAt (parseA k l)) := by
  have hll : (l.map D.str).length = l.length := List.length_map ..
  have hli := strs_imm l
  have hni := strs_imm k.names
  have hpi := strs_imm k.prefs
  have hpl : (k.prefs.map D.str).length = k.prefs.length := List.length_map ..
  have hhas := fun x => pcr_rhas (G := G) hG k.names x hn
  unfold Kn.D
  match hl0 : l with
  | [] =>
    rw [parseA]
    unfold rAt
    simp only [List.length_nil, List.map_nil] at *
    refine pcr_byq ok82 hG (n := 117) (rv := [.cell 4 true 3, .tmp 5, .tmp 6]) fun r hr => ?_; unfold c82 st0
    (exact xwalkd)
  | w :: rest =>
    have hpw := pcr_rpower (G := G) hG w
    have hbn := powW_bnd w
    have hg0 := strs_at0 hl0
    rw [parseA]
    unfold rpw at hpw
    by_cases h1 : powW w = 1
    · rw [if_pos h1, if_pos h1, h1]
      rw [if_pos h1, show ((0 : Nat) : Int) = 0 from rfl] at hpw
      rw [show ((1 : Nat) : Int) = 1 from rfl]
      have hh0 := hhas w
      have hws := hls w (by simp)
      dsimp only
      rw [hl0] at hg0
      have hpos : 0 < (w :: rest).length := by simp
      have hz0 : ((0 : Int) == ((w :: rest).length : Int)) = false := beq_eq_false_iff_ne.2 (by omega)
      have hz1 : decide ((0 : Int) = ((w :: rest).length : Int)) = false := decide_eq_false (by omega)
      clear hl0 hls
      generalize w :: rest = L at *
      cases hin : inW w k.names with
      | true =>
        have hna : nameA k w = some (⟨#[]⟩, w) := by unfold nameA; rw [hin]; rfl
        rw [hna]
        rw [hin] at hh0
        unfold rAt
        dsimp only
        clear hhas
        refine pcr_byq ok82 hG (n := 117) (rv := [.cell 4 true 3, .tmp 5, .tmp 6]) fun r hr => ?_; unfold c82 st0
        (have we1 := hg0; have we2 := hz0; have we3 := hz1; exact xwalkd3)
      | false =>
        have hna : nameA k w = bestF k.names w none k.prefs := by unfold nameA; rw [hin]; rfl
        rw [hna]
        rw [hin] at hh0
        refine pcr_byq ok82 hG (n := 117) (rv := [.cell 4 true 3, .tmp 5, .tmp 6]) fun r hr => ?_; unfold c82 st0
        (have we1 := hg0; have we2 := hz0; have we3 := hz1; refine xwalk3 ?_)
        refine awp_loop (fun j σ => ∃ (i : Nat) (best : Int) (b : Option (Wd × Wd)), i ≤ k.prefs.length ∧ j = k.prefs.length - i ∧ bestF k.names w b (k.prefs.drop i) = bestF k.names w none k.prefs ∧ ((b = none ∧ best = -1) ∨ ∃ (m : Nat) (hm : m < k.prefs.length), best = (m : Int) ∧ hasP k.prefs[m] w = true ∧ b = some (k.prefs[m], behind k.prefs[m] w)) ∧
          σ = ⟨(putE (putE (putE (putE (putE (putE (putE (putE un0 (some 1) (.sl L.length (L.map .str))) (some 2) (.ptr 0 0 0)) (some 4) (.ptr 1 0 0)) (some 7) (.ptr 2 0 0)) (some 8) (.int .i64 0)) (some 10) (.str w)) (some 11) (.int .i64 best)) (some 12) (.int .i64 (i : Int))), [some (0, 43, 2, [.sl k.names.length (k.names.map .str), .sl k.prefs.length (k.prefs.map .str)]), some (0, 107, 3, [.str ⟨#[]⟩, .str ⟨#[]⟩, .int .i64 0]), some (0, 107, 3, [.str ⟨#[]⟩, .str ⟨#[]⟩, .int .i64 1])]⟩) k.prefs.length ?_ ⟨0, -1, none, Nat.zero_le _, rfl, rfl, .inl ⟨rfl, rfl⟩, rfl⟩ ?_
        · refine Ent.cutk 3 (less_put (less_put (less_put (less_put (less_put (less_put (less_put (less_put (less_un0 _) ?_) ?_) ?_) ?_) ?_) ?_) ?_) ?_) ⟨.inr rfl, .inr rfl, .inr rfl, trivial⟩ (kb_put (kb_put (kb_put (kb_put (kb_put (kb_put (kb_put (kb_put (kb_un0 _) (by simp [kb])) (by simp [kb])) (by simp [kb])) (by simp [kb])) (by simp [kb])) (by simp [kb])) (by simp [kb])) (by simp [kb])) ⟨by simp [kb.kbs, kb], by simp [kb.kbs, kb], by simp [kb.kbs, kb], trivial⟩
          iterate 8 (· exact xlqi)
        rintro j σ1 ⟨i, best, b, hi, rfl, hb, hst, rfl⟩
        by_cases hlt : i < k.prefs.length
        · have hget := strs_get1 hlt
          rw [List.drop_eq_getElem_cons hlt, bestF, List.foldl_cons] at hb
          have hps := hpsz k.prefs[i] (List.getElem_mem hlt)
          obtain ⟨p, hp⟩ : ∃ p, k.prefs[i] = p := ⟨_, rfl⟩
          rw [hp] at hget hb hps
          have hx0 : ((0 : Int)).toNat = 0 := rfl
          have hhb := hhas (behind p w)
          unfold bestS at hb
          cases hhp : hasP p w with
          | false =>
            rw [hhp] at hb
            simp only [Bool.false_and, Bool.false_eq_true, if_false] at hb
            clear hhas hhb
            by_cases hsz : p.size ≤ w.size
            · have d1 : decide ((p.size : Int) ≤ (w.size : Int)) = true := decide_eq_true (by omega)
              have d2 : decide (w.extract 0 p.size = p) = false := decide_eq_false (fun h => by rw [hasP_iff.2 ⟨hsz, h⟩] at hhp; cases hhp)
              (have we1 := hget; have we2 := d1; have we3 := d2; refine xwalk3 ?_)
              refine ⟨k.prefs.length - (i + 1), _, by omega, ?_, i + 1, best, b, by omega, rfl, hb, hst, rfl⟩
              refine Ent.cutk 3 (less_put (less_put (less_put (less_put (less_put (less_put (less_put (less_put (less_un0 _) ?_) ?_) ?_) ?_) ?_) ?_) ?_) ?_) ⟨.inr rfl, .inr rfl, .inr rfl, trivial⟩ (kb_put (kb_put (kb_put (kb_put (kb_put (kb_put (kb_put (kb_put (kb_un0 _) (by simp [kb])) (by simp [kb])) (by simp [kb])) (by simp [kb])) (by simp [kb])) (by simp [kb])) (by simp [kb])) (by simp [kb])) ⟨by simp [kb.kbs, kb], by simp [kb.kbs, kb], by simp [kb.kbs, kb], trivial⟩
              iterate 8 (· exact xlqi)
            · have d1 : decide ((p.size : Int) ≤ (w.size : Int)) = false := decide_eq_false (by omega)
              (have we1 := hget; have we2 := d1; refine xwalk2 ?_)
              refine ⟨k.prefs.length - (i + 1), _, by omega, ?_, i + 1, best, b, by omega, rfl, hb, hst, rfl⟩
              refine Ent.cutk 3 (less_put (less_put (less_put (less_put (less_put (less_put (less_put (less_put (less_un0 _) ?_) ?_) ?_) ?_) ?_) ?_) ?_) ?_) ⟨.inr rfl, .inr rfl, .inr rfl, trivial⟩ (kb_put (kb_put (kb_put (kb_put (kb_put (kb_put (kb_put (kb_put (kb_un0 _) (by simp [kb])) (by simp [kb])) (by simp [kb])) (by simp [kb])) (by simp [kb])) (by simp [kb])) (by simp [kb])) (by simp [kb])) ⟨by simp [kb.kbs, kb], by simp [kb.kbs, kb], by simp [kb.kbs, kb], trivial⟩
              iterate 8 (· exact xlqi)
          | true =>
          rw [hhp] at hb
          obtain ⟨hsz, hex⟩ := hasP_iff.1 hhp
          have hbx := behind_ext hhp
          have d1 : decide ((p.size : Int) ≤ (w.size : Int)) = true := decide_eq_true (by omega)
          have d2 : decide (w.extract 0 p.size = p) = true := decide_eq_true hex
          have hpp : hasP k.prefs[i] w = true := by rw [hp]; exact hhp
          clear hhas
          cases hic : inW (behind p w) k.names with
          | false =>
            rw [hic] at hb hhb
            simp only [Bool.true_and, Bool.false_and, Bool.false_eq_true, if_false] at hb
            (have we1 := hget; have we2 := d1; have we3 := d2; have we4 := hbx; refine xwalk4 ?_)
            refine ⟨k.prefs.length - (i + 1), _, by omega, ?_, i + 1, best, b, by omega, rfl, hb, hst, rfl⟩
            refine Ent.cutk 3 (less_put (less_put (less_put (less_put (less_put (less_put (less_put (less_put (less_un0 _) ?_) ?_) ?_) ?_) ?_) ?_) ?_) ?_) ⟨.inr rfl, .inr rfl, .inr rfl, trivial⟩ (kb_put (kb_put (kb_put (kb_put (kb_put (kb_put (kb_put (kb_put (kb_un0 _) (by simp [kb])) (by simp [kb])) (by simp [kb])) (by simp [kb])) (by simp [kb])) (by simp [kb])) (by simp [kb])) (by simp [kb])) ⟨by simp [kb.kbs, kb], by simp [kb.kbs, kb], by simp [kb.kbs, kb], trivial⟩
            iterate 8 (· exact xlqi)
          | true =>
            rw [hic] at hb hhb
            simp only [Bool.true_and] at hb
            rcases hst with ⟨rfl, rfl⟩ | ⟨m, hm, rfl, hmp, rfl⟩
            · simp only [if_true] at hb
              have d3 : decide ((-1 : Int) < 0) = true := rfl
              (have we1 := hget; have we2 := d1; have we3 := d2; have we4 := hbx; have we5 := d3; refine xwalk5 ?_)
              refine ⟨k.prefs.length - (i + 1), _, by omega, ?_, i + 1, (i : Int), some (p, behind p w), by omega, rfl, hb, .inr ⟨i, hlt, rfl, hpp, by rw [hp]⟩, rfl⟩
              refine Ent.cutk 3 (less_put (less_put (less_put (less_put (less_put (less_put (less_put (less_put (less_un0 _) ?_) ?_) ?_) ?_) ?_) ?_) ?_) ?_) ⟨.inr rfl, .inr rfl, .inr rfl, trivial⟩ (kb_put (kb_put (kb_put (kb_put (kb_put (kb_put (kb_put (kb_put (kb_un0 _) (by simp [kb])) (by simp [kb])) (by simp [kb])) (by simp [kb])) (by simp [kb])) (by simp [kb])) (by simp [kb])) (by simp [kb])) ⟨by simp [kb.kbs, kb], by simp [kb.kbs, kb], by simp [kb.kbs, kb], trivial⟩
              iterate 8 (· exact xlqi)
            · have hgm := strs_get1 hm
              have d3 : decide ((m : Int) < 0) = false := decide_eq_false (by omega)
              dsimp only at hb
              by_cases hgt : k.prefs[m].size < p.size
              · rw [if_pos (decide_eq_true hgt)] at hb
                have d4 : decide ((p.size : Int) > (k.prefs[m].size : Int)) = true := decide_eq_true (by omega)
                (have we1 := hget; have we2 := d1; have we3 := d2; have we4 := hbx; have we5 := d3; have we6 := hgm; have we7 := d4; refine xwalk7 ?_)
                refine ⟨k.prefs.length - (i + 1), _, by omega, ?_, i + 1, (i : Int), some (p, behind p w), by omega, rfl, hb, .inr ⟨i, hlt, rfl, hpp, by rw [hp]⟩, rfl⟩
                refine Ent.cutk 3 (less_put (less_put (less_put (less_put (less_put (less_put (less_put (less_put (less_un0 _) ?_) ?_) ?_) ?_) ?_) ?_) ?_) ?_) ⟨.inr rfl, .inr rfl, .inr rfl, trivial⟩ (kb_put (kb_put (kb_put (kb_put (kb_put (kb_put (kb_put (kb_put (kb_un0 _) (by simp [kb])) (by simp [kb])) (by simp [kb])) (by simp [kb])) (by simp [kb])) (by simp [kb])) (by simp [kb])) (by simp [kb])) ⟨by simp [kb.kbs, kb], by simp [kb.kbs, kb], by simp [kb.kbs, kb], trivial⟩
                iterate 8 (· exact xlqi)
              · rw [if_neg (by simpa using hgt)] at hb
                have d4 : decide ((p.size : Int) > (k.prefs[m].size : Int)) = false := decide_eq_false (by omega)
                (have we1 := hget; have we2 := d1; have we3 := d2; have we4 := hbx; have we5 := d3; have we6 := hgm; have we7 := d4; refine xwalk7 ?_)
                refine ⟨k.prefs.length - (i + 1), _, by omega, ?_, i + 1, (m : Int), some (k.prefs[m], behind k.prefs[m] w), by omega, rfl, hb, .inr ⟨m, hm, rfl, hmp, rfl⟩, rfl⟩
                refine Ent.cutk 3 (less_put (less_put (less_put (less_put (less_put (less_put (less_put (less_put (less_un0 _) ?_) ?_) ?_) ?_) ?_) ?_) ?_) ?_) ⟨.inr rfl, .inr rfl, .inr rfl, trivial⟩ (kb_put (kb_put (kb_put (kb_put (kb_put (kb_put (kb_put (kb_put (kb_un0 _) (by simp [kb])) (by simp [kb])) (by simp [kb])) (by simp [kb])) (by simp [kb])) (by simp [kb])) (by simp [kb])) (by simp [kb])) ⟨by simp [kb.kbs, kb], by simp [kb.kbs, kb], by simp [kb.kbs, kb], trivial⟩
                iterate 8 (· exact xlqi)
        · obtain rfl : i = k.prefs.length := by omega
          rw [List.drop_length] at hb
          rw [show bestF k.names w b [] = b from rfl] at hb
          rw [← hb] at hr
          clear hhas
          rcases hst with ⟨rfl, rfl⟩ | ⟨m, hm, rfl, hmp, rfl⟩
          · have d3 : decide ((-1 : Int) < 0) = true := rfl
            unfold rAt at hr
            dsimp only at hr
            (have we1 := d3; exact xwalkd1)
          · have d3 : decide ((m : Int) < 0) = false := decide_eq_false (by omega)
            have hgm := strs_get1 hm
            have hbx := behind_ext hmp
            have hps := hpsz k.prefs[m] (List.getElem_mem hm)
            have hsz := (hasP_iff.1 hmp).1
            unfold rAt at hr
            dsimp only at hr
            (have we1 := d3; have we2 := hgm; have we3 := hbx; exact xwalkd3)
    · rw [if_neg h1, if_neg h1]
      rw [if_neg h1] at hpw
      have hpg : decide (((powW w : Nat) : Int) > 0) = true := decide_eq_true (by omega)
      match hr0 : rest with
      | [] =>
        subst hl0
        rw [show ([] : List Wd)[0]? = none from rfl]
        dsimp only
        unfold rAt
        simp only [List.length_cons, List.length_nil, List.map_cons, List.map_nil] at *
        generalize powW w = pw at *
        refine pcr_byq ok82 hG (n := 117) (rv := [.cell 4 true 3, .tmp 5, .tmp 6]) fun r hr => ?_; unfold c82 st0
        (have we1 := hpg; exact xwalkd1)
      | v :: rest2 =>
        have hg1 := strs_at1 hl0
        rw [List.getElem?_cons_zero]
        have hh0 := hhas v
        have hws := hls v (by simp)
        dsimp only
        rw [hl0] at hg0 hg1
        have hpos : 1 < (w :: v :: rest2).length := by simp
        have hz0 : ((1 : Int) == ((w :: v :: rest2).length : Int)) = false := beq_eq_false_iff_ne.2 (by omega)
        have hz1 : decide ((1 : Int) = ((w :: v :: rest2).length : Int)) = false := decide_eq_false (by omega)
        clear hl0 hls
        generalize w :: v :: rest2 = L at *
        generalize powW w = pw at *
        cases hin : inW v k.names with
        | true =>
          have hna : nameA k v = some (⟨#[]⟩, v) := by unfold nameA; rw [hin]; rfl
          rw [hna]
          rw [hin] at hh0
          unfold rAt
          dsimp only
          clear hhas
          refine pcr_byq ok82 hG (n := 117) (rv := [.cell 4 true 3, .tmp 5, .tmp 6]) fun r hr => ?_; unfold c82 st0
          (have we1 := hg0; have we2 := hg1; have we3 := hpg; have we4 := hz0; have we5 := hz1; exact xwalkd5)
        | false =>
          have hna : nameA k v = bestF k.names v none k.prefs := by unfold nameA; rw [hin]; rfl
          rw [hna]
          rw [hin] at hh0
          refine pcr_byq ok82 hG (n := 117) (rv := [.cell 4 true 3, .tmp 5, .tmp 6]) fun r hr => ?_; unfold c82 st0
          (have we1 := hg0; have we2 := hg1; have we3 := hpg; have we4 := hz0; have we5 := hz1; refine xwalk5 ?_)
          refine awp_loop (fun j σ => ∃ (i : Nat) (best : Int) (b : Option (Wd × Wd)), i ≤ k.prefs.length ∧ j = k.prefs.length - i ∧ bestF k.names v b (k.prefs.drop i) = bestF k.names v none k.prefs ∧ ((b = none ∧ best = -1) ∨ ∃ (m : Nat) (hm : m < k.prefs.length), best = (m : Int) ∧ hasP k.prefs[m] v = true ∧ b = some (k.prefs[m], behind k.prefs[m] v)) ∧
            σ = ⟨(putE (putE (putE (putE (putE (putE (putE (putE un0 (some 1) (.sl L.length (L.map .str))) (some 2) (.ptr 0 0 0)) (some 4) (.ptr 1 0 0)) (some 7) (.ptr 2 0 0)) (some 8) (.int .i64 1)) (some 10) (.str v)) (some 11) (.int .i64 best)) (some 12) (.int .i64 (i : Int))), [some (0, 43, 2, [.sl k.names.length (k.names.map .str), .sl k.prefs.length (k.prefs.map .str)]), some (0, 107, 3, [.str ⟨#[]⟩, .str ⟨#[]⟩, .int .i64 0]), some (0, 107, 3, [.str ⟨#[]⟩, .str ⟨#[]⟩, .int .i64 (pw : Int)])]⟩) k.prefs.length ?_ ⟨0, -1, none, Nat.zero_le _, rfl, rfl, .inl ⟨rfl, rfl⟩, rfl⟩ ?_
          · refine Ent.cutk 3 (less_put (less_put (less_put (less_put (less_put (less_put (less_put (less_put (less_un0 _) ?_) ?_) ?_) ?_) ?_) ?_) ?_) ?_) ⟨.inr rfl, .inr rfl, .inr rfl, trivial⟩ (kb_put (kb_put (kb_put (kb_put (kb_put (kb_put (kb_put (kb_put (kb_un0 _) (by simp [kb])) (by simp [kb])) (by simp [kb])) (by simp [kb])) (by simp [kb])) (by simp [kb])) (by simp [kb])) (by simp [kb])) ⟨by simp [kb.kbs, kb], by simp [kb.kbs, kb], by simp [kb.kbs, kb], trivial⟩
            iterate 8 (· exact xlqi)
          rintro j σ1 ⟨i, best, b, hi, rfl, hb, hst, rfl⟩
          by_cases hlt : i < k.prefs.length
          · have hget := strs_get1 hlt
            rw [List.drop_eq_getElem_cons hlt, bestF, List.foldl_cons] at hb
            have hps := hpsz k.prefs[i] (List.getElem_mem hlt)
            obtain ⟨p, hp⟩ : ∃ p, k.prefs[i] = p := ⟨_, rfl⟩
            rw [hp] at hget hb hps
            have hx0 : ((0 : Int)).toNat = 0 := rfl
            have hhb := hhas (behind p v)
            unfold bestS at hb
            cases hhp : hasP p v with
            | false =>
              rw [hhp] at hb
              simp only [Bool.false_and, Bool.false_eq_true, if_false] at hb
              clear hhas hhb
              by_cases hsz : p.size ≤ v.size
              · have d1 : decide ((p.size : Int) ≤ (v.size : Int)) = true := decide_eq_true (by omega)
                have d2 : decide (v.extract 0 p.size = p) = false := decide_eq_false (fun h => by rw [hasP_iff.2 ⟨hsz, h⟩] at hhp; cases hhp)
                (have we1 := hget; have we2 := d1; have we3 := d2; refine xwalk3 ?_)
                refine ⟨k.prefs.length - (i + 1), _, by omega, ?_, i + 1, best, b, by omega, rfl, hb, hst, rfl⟩
                refine Ent.cutk 3 (less_put (less_put (less_put (less_put (less_put (less_put (less_put (less_put (less_un0 _) ?_) ?_) ?_) ?_) ?_) ?_) ?_) ?_) ⟨.inr rfl, .inr rfl, .inr rfl, trivial⟩ (kb_put (kb_put (kb_put (kb_put (kb_put (kb_put (kb_put (kb_put (kb_un0 _) (by simp [kb])) (by simp [kb])) (by simp [kb])) (by simp [kb])) (by simp [kb])) (by simp [kb])) (by simp [kb])) (by simp [kb])) ⟨by simp [kb.kbs, kb], by simp [kb.kbs, kb], by simp [kb.kbs, kb], trivial⟩
                iterate 8 (· exact xlqi)
              · have d1 : decide ((p.size : Int) ≤ (v.size : Int)) = false := decide_eq_false (by omega)
                (have we1 := hget; have we2 := d1; refine xwalk2 ?_)
                refine ⟨k.prefs.length - (i + 1), _, by omega, ?_, i + 1, best, b, by omega, rfl, hb, hst, rfl⟩
                refine Ent.cutk 3 (less_put (less_put (less_put (less_put (less_put (less_put (less_put (less_put (less_un0 _) ?_) ?_) ?_) ?_) ?_) ?_) ?_) ?_) ⟨.inr rfl, .inr rfl, .inr rfl, trivial⟩ (kb_put (kb_put (kb_put (kb_put (kb_put (kb_put (kb_put (kb_put (kb_un0 _) (by simp [kb])) (by simp [kb])) (by simp [kb])) (by simp [kb])) (by simp [kb])) (by simp [kb])) (by simp [kb])) (by simp [kb])) ⟨by simp [kb.kbs, kb], by simp [kb.kbs, kb], by simp [kb.kbs, kb], trivial⟩
                iterate 8 (· exact xlqi)
            | true =>
            rw [hhp] at hb
            obtain ⟨hsz, hex⟩ := hasP_iff.1 hhp
            have hbx := behind_ext hhp
            have d1 : decide ((p.size : Int) ≤ (v.size : Int)) = true := decide_eq_true (by omega)
            have d2 : decide (v.extract 0 p.size = p) = true := decide_eq_true hex
            have hpp : hasP k.prefs[i] v = true := by rw [hp]; exact hhp
            clear hhas
            cases hic : inW (behind p v) k.names with
            | false =>
              rw [hic] at hb hhb
              simp only [Bool.true_and, Bool.false_and, Bool.false_eq_true, if_false] at hb
              (have we1 := hget; have we2 := d1; have we3 := d2; have we4 := hbx; refine xwalk4 ?_)
              refine ⟨k.prefs.length - (i + 1), _, by omega, ?_, i + 1, best, b, by omega, rfl, hb, hst, rfl⟩
              refine Ent.cutk 3 (less_put (less_put (less_put (less_put (less_put (less_put (less_put (less_put (less_un0 _) ?_) ?_) ?_) ?_) ?_) ?_) ?_) ?_) ⟨.inr rfl, .inr rfl, .inr rfl, trivial⟩ (kb_put (kb_put (kb_put (kb_put (kb_put (kb_put (kb_put (kb_put (kb_un0 _) (by simp [kb])) (by simp [kb])) (by simp [kb])) (by simp [kb])) (by simp [kb])) (by simp [kb])) (by simp [kb])) (by simp [kb])) ⟨by simp [kb.kbs, kb], by simp [kb.kbs, kb], by simp [kb.kbs, kb], trivial⟩
              iterate 8 (· exact xlqi)
            | true =>
              rw [hic] at hb hhb
              simp only [Bool.true_and] at hb
              rcases hst with ⟨rfl, rfl⟩ | ⟨m, hm, rfl, hmp, rfl⟩
              · simp only [if_true] at hb
                have d3 : decide ((-1 : Int) < 0) = true := rfl
                (have we1 := hget; have we2 := d1; have we3 := d2; have we4 := hbx; have we5 := d3; refine xwalk5 ?_)
                refine ⟨k.prefs.length - (i + 1), _, by omega, ?_, i + 1, (i : Int), some (p, behind p v), by omega, rfl, hb, .inr ⟨i, hlt, rfl, hpp, by rw [hp]⟩, rfl⟩
                refine Ent.cutk 3 (less_put (less_put (less_put (less_put (less_put (less_put (less_put (less_put (less_un0 _) ?_) ?_) ?_) ?_) ?_) ?_) ?_) ?_) ⟨.inr rfl, .inr rfl, .inr rfl, trivial⟩ (kb_put (kb_put (kb_put (kb_put (kb_put (kb_put (kb_put (kb_put (kb_un0 _) (by simp [kb])) (by simp [kb])) (by simp [kb])) (by simp [kb])) (by simp [kb])) (by simp [kb])) (by simp [kb])) (by simp [kb])) ⟨by simp [kb.kbs, kb], by simp [kb.kbs, kb], by simp [kb.kbs, kb], trivial⟩
                iterate 8 (· exact xlqi)
              · have hgm := strs_get1 hm
                have d3 : decide ((m : Int) < 0) = false := decide_eq_false (by omega)
                dsimp only at hb
                by_cases hgt : k.prefs[m].size < p.size
                · rw [if_pos (decide_eq_true hgt)] at hb
                  have d4 : decide ((p.size : Int) > (k.prefs[m].size : Int)) = true := decide_eq_true (by omega)
                  (have we1 := hget; have we2 := d1; have we3 := d2; have we4 := hbx; have we5 := d3; have we6 := hgm; have we7 := d4; refine xwalk7 ?_)
                  refine ⟨k.prefs.length - (i + 1), _, by omega, ?_, i + 1, (i : Int), some (p, behind p v), by omega, rfl, hb, .inr ⟨i, hlt, rfl, hpp, by rw [hp]⟩, rfl⟩
                  refine Ent.cutk 3 (less_put (less_put (less_put (less_put (less_put (less_put (less_put (less_put (less_un0 _) ?_) ?_) ?_) ?_) ?_) ?_) ?_) ?_) ⟨.inr rfl, .inr rfl, .inr rfl, trivial⟩ (kb_put (kb_put (kb_put (kb_put (kb_put (kb_put (kb_put (kb_put (kb_un0 _) (by simp [kb])) (by simp [kb])) (by simp [kb])) (by simp [kb])) (by simp [kb])) (by simp [kb])) (by simp [kb])) (by simp [kb])) ⟨by simp [kb.kbs, kb], by simp [kb.kbs, kb], by simp [kb.kbs, kb], trivial⟩
                  iterate 8 (· exact xlqi)
                · rw [if_neg (by simpa using hgt)] at hb
                  have d4 : decide ((p.size : Int) > (k.prefs[m].size : Int)) = false := decide_eq_false (by omega)
                  (have we1 := hget; have we2 := d1; have we3 := d2; have we4 := hbx; have we5 := d3; have we6 := hgm; have we7 := d4; refine xwalk7 ?_)
                  refine ⟨k.prefs.length - (i + 1), _, by omega, ?_, i + 1, (m : Int), some (k.prefs[m], behind k.prefs[m] v), by omega, rfl, hb, .inr ⟨m, hm, rfl, hmp, rfl⟩, rfl⟩
                  refine Ent.cutk 3 (less_put (less_put (less_put (less_put (less_put (less_put (less_put (less_put (less_un0 _) ?_) ?_) ?_) ?_) ?_) ?_) ?_) ?_) ⟨.inr rfl, .inr rfl, .inr rfl, trivial⟩ (kb_put (kb_put (kb_put (kb_put (kb_put (kb_put (kb_put (kb_put (kb_un0 _) (by simp [kb])) (by simp [kb])) (by simp [kb])) (by simp [kb])) (by simp [kb])) (by simp [kb])) (by simp [kb])) (by simp [kb])) ⟨by simp [kb.kbs, kb], by simp [kb.kbs, kb], by simp [kb.kbs, kb], trivial⟩
                  iterate 8 (· exact xlqi)
          · obtain rfl : i = k.prefs.length := by omega
            rw [List.drop_length] at hb
            rw [show bestF k.names v b [] = b from rfl] at hb
            rw [← hb] at hr
            clear hhas
            rcases hst with ⟨rfl, rfl⟩ | ⟨m, hm, rfl, hmp, rfl⟩
            · have d3 : decide ((-1 : Int) < 0) = true := rfl
              unfold rAt at hr
              dsimp only at hr
              (have we1 := d3; exact xwalkd1)
            · have d3 : decide ((m : Int) < 0) = false := decide_eq_false (by omega)
              have hgm := strs_get1 hm
              have hbx := behind_ext hmp
              have hps := hpsz k.prefs[m] (List.getElem_mem hm)
              have hsz := (hasP_iff.1 hmp).1
              unfold rAt at hr
              dsimp only at hr
              (have we1 := d3; have we2 := hgm; have we3 := hbx; exact xwalkd3)
end Go.Proofs.YtgimaioeifnajaaGreatDoorK.TabT
