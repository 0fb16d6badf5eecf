/-
  Package unit: a part, read: what it computes.
-/
import Derived.Test.YtgimaioeifnajaaGreatDoorKIrX
import Derived.Test.YtgimaioeifnajaaGreatDoorKUniD
import Derived.Test.YtgimaioeifnajaaGreatDoorKNd
set_option linter.all false
set_option maxHeartbeats 0
namespace Go.Proofs.YtgimaioeifnajaaGreatDoorK.TabT
open AI NatIr Dig NatT LibT Go.Lib
attribute [local irreducible] awp awpOps
attribute [local go_sem] not_true_eq_false not_false_eq_true eq_self decide_true decide_false beq_self_eq_true Int.reduceAdd nl
variable {G : World → Prop}
theorem cutA_len {w : Wd} {K : Nat} : ∀ {l : List Wd} {done : List (List Wd)} {cur : List Wd}, (∀ x ∈ done, x.length ≤ K) → cur.length + l.length ≤ K → ∀ x ∈ cutA w done cur l, x.length ≤ K
  | [], done, cur, h1, h2, x, hx => by
    rw [cutA] at hx
    rcases List.mem_append.1 hx with hx | hx
    · exact h1 x hx
    · rw [List.mem_singleton.1 hx]; simpa using h2
  | y :: l, done, cur, h1, h2, x, hx => by
    rw [cutA] at hx
    rw [List.length_cons] at h2
    split at hx
    · refine cutA_len (fun z hz => ?_) (by simp; omega) x hx
      rcases List.mem_append.1 hz with hz | hz
      · exact h1 z hz
      · rw [List.mem_singleton.1 hz]; omega
    · exact cutA_len h1 (by rw [List.length_append]; simp; omega) x hx
theorem cutW_len {w : Wd} {l : List Wd} : ∀ x ∈ cutW w l, x.length ≤ l.length := cutA_len (fun x hx => by cases hx) (by simp)
theorem flat_len : ∀ r : List At, r.length ≤ (r.flatMap atW).length
  | [] => Nat.le_refl _
  | a :: r => by
    have := flat_len r
    have h : 0 < (atW a).length := List.length_pos_iff.2 (atW_ne a)
    rw [List.flatMap_cons, List.length_append, List.length_cons]
    omega
theorem rowA_len {k : Kn} {l : List Wd} {r : List At} (h : rowA k l = some r) : r.length ≤ l.length := by
  have := flat_len r
  rw [← (rowF_words h).1] at this
  exact this
def PartR (f : FuncId) (G : World → Prop) (xs : List D) : Option Pt → Prop
  | some p => PCr Tryz.prog G f xs (.tup [.agg (ptC p), .bool true])
  | none => ∃ (a b c : Nat) (x y z : List D), x.all D.imm = true ∧ y.all D.imm = true ∧ z.all D.imm = true ∧ PCr Tryz.prog G f xs (.tup [.agg [.sl a x, .sl b y, .sl c z], .bool false])
theorem no_part {f : FuncId} {G : World → Prop} {xs : List D} (h : PCr Tryz.prog G f xs (.tup [.agg [.sl 0 [], .sl 0 [], .sl 0 []], .bool false])) : PartR f G xs none := ⟨0, 0, 0, [], [], [], rfl, rfl, rfl, h⟩
theorem pcr_upart (hG : Stable G) (hT : ∀ w, G w → Lib.TabIs Tryz.prog w "internal/strconv.uint64pow10" .u64 Lib.pow10Tab) (k : Kn) (l : List Wd) (hn : k.names.length < 1000000) (hp : k.prefs.length < 1000000) (hl : l.length < 1000000) (hls : ∀ w ∈ l, w.size < 1000000) : PartR 26 G [k.D, .sl l.length (l.map .str)] (partA k l) := by
  have hrow := fun m hm => pcr_urow (G := G) hG hT k m hn hp hm
  have hcl := cutW_len (w := wPer) (l := l)
  have hcut := pcr_wcut (G := G) hG l wPer hl
  have hone := pcr_uone (G := G) hG
  have hli := strs_imm l
  have hint := inter_cutW (w := wPer) (l := l)
  rw [N_nl] at hone
  unfold Kn.D at *
  generalize k.names.map D.str = cN at *
  generalize k.prefs.map D.str = cP at *
  unfold wPer at hcut
  unfold partA
  match hc : cutW wPer l with
  | [] =>
    have := cutA_ne (w := wPer) (l := l) (done := []) (cur := [])
    rw [show cutA wPer [] [] l = cutW wPer l from rfl, hc] at this
    cases this
  | _ :: _ :: _ :: rs =>
    rw [show (⟨#[112, 101, 114]⟩ : Wd) = wPer from rfl, hc] at hcut
    dsimp only
    refine no_part ?_
    simp only [List.length_cons, rowsD, List.map_cons] at hcut
    clear hrow hcl hint
    have hl3 : 2 < rs.length + 1 + 1 + 1 := by omega
    have hd : decide (((rs.length + 1 + 1 + 1 : Nat) : Int) > 2) = true := decide_eq_true (by omega)
    unfold wPer at hcut
    generalize hq : rs.length + 1 + 1 + 1 = q at *
    refine pcr_byq ok26 hG (n := 96) (rv := [.cell 4 true 3, .tmp 5]) fun r hr => ?_; unfold c26 st0
    (have we1 := hd; exact xwalkd1)
  | [r0] =>
    rw [show (⟨#[112, 101, 114]⟩ : Wd) = wPer from rfl, hc] at hcut
    rw [hc] at hcl hint
    have h0l := hcl r0 (by simp)
    have hr0 := hrow r0 (by omega)
    clear hrow hcl
    simp only [List.length_cons, List.length_nil, rowsD, List.map_cons, List.map_nil] at hcut
    have h0i := strs_imm r0
    unfold wPer at hcut
    dsimp only
    by_cases hl0 : l = []
    · rw [if_pos hl0]
      refine no_part ?_
      clear hc hint hls
      subst hl0
      simp only [List.length_nil, List.map_nil] at *
      refine pcr_byq ok26 hG (n := 96) (rv := [.cell 4 true 3, .tmp 5]) fun r hr => ?_; unfold c26 st0
      (exact xwalkd)
    · rw [if_neg hl0]
      have hpos : 0 < l.length := List.length_pos_iff.2 hl0
      have hzb : ((l.length : Int) == 0) = false := by simp; omega
      cases hr : rowA k r0 with
      | none =>
        rw [hr] at hr0
        unfold rRow at hr0
        dsimp only at hr0 ⊢
        refine no_part ?_
        refine pcr_byq ok26 hG (n := 96) (rv := [.cell 4 true 3, .tmp 5]) fun r hr => ?_; unfold c26 st0
        (have we1 := hzb; exact xwalkd1)
      | some num =>
        have hrl := rowA_len hr
        rw [hr] at hr0
        unfold rRow at hr0
        dsimp only at hr0 ⊢
        have hai := atsC_imm num
        have hal := atsC_len num
        split
        · rename_i h8
          show PCr _ _ _ _ _
          unfold ptC
          dsimp only
          have hd8 : decide ((num.length : Int) ≤ 8) = true := decide_eq_true (by omega)
          rw [show atsC [] = [] from rfl, List.length_nil]
          refine pcr_byq ok26 hG (n := 96) (rv := [.cell 4 true 3, .tmp 5]) fun r hr => ?_; unfold c26 st0
          (have we1 := hzb; have we2 := hai; have we3 := hd8; exact xwalkd3)
        · rename_i h8
          have hd8 : decide ((num.length : Int) ≤ 8) = false := decide_eq_false (by omega)
          refine ⟨_, _, _, _, _, _, hai, rfl, W_imm _, (?_ : PCr Tryz.prog G 26 _ (.tup [.agg [.sl num.length (atsC num), .sl 0 [], .sl (wd 4294967296 1).length (W (wd 4294967296 1))], .bool false]))⟩
          refine pcr_byq ok26 hG (n := 96) (rv := [.cell 4 true 3, .tmp 5]) fun r hr => ?_; unfold c26 st0
          (have we1 := hzb; have we2 := hai; have we3 := hd8; exact xwalkd3)
  | [r0, r1] =>
    rw [show (⟨#[112, 101, 114]⟩ : Wd) = wPer from rfl, hc] at hcut
    rw [hc] at hcl hint
    have h0l := hcl r0 (by simp)
    have h1l := hcl r1 (by simp)
    have hr0 := hrow r0 (by omega)
    clear hcl
    simp only [List.length_cons, List.length_nil, rowsD, List.map_cons, List.map_nil] at hcut
    have h0i := strs_imm r0
    have h1i := strs_imm r1
    have hl0 : 0 < l.length := by rw [← hint]; simp [inter]; omega
    have hzb : ((l.length : Int) == 0) = false := beq_eq_false_iff_ne.2 (by omega)
    have hr1s : ∀ w ∈ r1, w.size < 1000000 := fun w hw => hls w (by rw [← hint]; simp [inter, hw])
    unfold wPer at hcut
    dsimp only
    cases hr : rowA k r0 with
    | none =>
      rw [hr] at hr0
      unfold rRow at hr0
      dsimp only at hr0 ⊢
      refine no_part ?_
      clear hrow hint
      refine pcr_byq ok26 hG (n := 96) (rv := [.cell 4 true 3, .tmp 5]) fun r hr => ?_; unfold c26 st0
      (have we1 := hzb; exact xwalkd1)
    | some num =>
      have hrl := rowA_len hr
      rw [hr] at hr0
      unfold rRow at hr0
      dsimp only at hr0 ⊢
      have hai := atsC_imm num
      have hal := atsC_len num
      match hq1 : r1 with
      | [] =>
        refine no_part ?_
        clear hrow hint
        simp only [List.length_nil, List.map_nil] at *
        refine pcr_byq ok26 hG (n := 96) (rv := [.cell 4 true 3, .tmp 5]) fun r hr => ?_; unfold c26 st0
        (have we1 := hzb; have we2 := hai; exact xwalkd2)
      | w :: r =>
        have hg0 := strs_at0 hq1
        have hwn := pcr_wnumber (G := G) hG w (hr1s w (by simp))
        have hrr := hrow r (by simp at h1l; omega)
        have hrw := hrow (w :: r) (by omega)
        have hpos : 0 < (w :: r).length := by simp
        have hlr : (w :: r).length = r.length + 1 := rfl
        have hLm : ((w :: r).map D.str).length = (w :: r).length := List.length_map ..
        have hd0 : decide ((((w :: r).length : Nat) : Int) > 0) = true := decide_eq_true (by omega)
        have hdr : ((((w :: r).map D.str).drop 1).take r.length) = r.map .str := by
          rw [List.map_cons, List.drop_succ_cons, List.drop_zero, List.take_of_length_le (by rw [List.length_map]; omega)]
        have hsub : (((w :: r).length : Int) - 1).toNat = r.length := by rw [hlr]; omega
        have hri := strs_imm r
        clear hrow hint hls
        rw [hq1] at hg0
        dsimp only
        by_cases hw : numW w = true ∧ w ≠ w1
        · rw [if_pos hw]
          rw [hw.1] at hwn
          have hnw := hw.1
          unfold numW at hnw
          simp only [Bool.and_eq_true, decide_eq_true_eq] at hnw
          have hpn := pcr_parse (G := G) hG w (hr1s w (by simp)) hnw.1.1.1 hnw.2
          rw [N_nl] at hpn
          have hne : decide (w = (⟨#[49]⟩ : ByteArray)) = false := decide_eq_false hw.2
          unfold denA
          clear hq1 hnw hr1s hrw
          generalize decV w.data.toList = cv at *
          generalize w :: r = L at *
          cases hd : rowA k r with
          | none =>
            rw [hd] at hrr
            unfold rRow at hrr
            dsimp only at hrr ⊢
            refine no_part ?_
            refine pcr_byq ok26 hG (n := 96) (rv := [.cell 4 true 3, .tmp 5]) fun r hr => ?_; unfold c26 st0
            (have we1 := hd0; have we2 := hzb; have we3 := hg0; have we4 := hne; have we5 := hdr; have we6 := hsub; have we7 := hri; have we8 := hai; exact xwalkd8)
          | some den =>
            have hdl := rowA_len hd
            rw [hd] at hrr
            unfold rRow at hrr
            dsimp only at hrr ⊢
            have hbi := atsC_imm den
            have hbl := atsC_len den
            split
            · rename_i h8
              show PCr _ _ _ _ _
              unfold ptC
              dsimp only
              have hd8 : decide ((num.length : Int) + (den.length : Int) ≤ 8) = true := decide_eq_true (by omega)
              refine pcr_byq ok26 hG (n := 96) (rv := [.cell 4 true 3, .tmp 5]) fun r hr => ?_; unfold c26 st0
              (have we1 := hd0; have we2 := hzb; have we3 := hg0; have we4 := hne; have we5 := hdr; have we6 := hsub; have we7 := hri; have we8 := hai; have we9 := hbi; have we10 := hd8; exact xwalkd10)
            · rename_i h8
              have hd8 : decide ((num.length : Int) + (den.length : Int) ≤ 8) = false := decide_eq_false (by omega)
              refine ⟨_, _, _, _, _, _, hai, hbi, W_imm _, (?_ : PCr Tryz.prog G 26 _ (.tup [.agg [.sl num.length (atsC num), .sl den.length (atsC den), .sl (wd 4294967296 cv).length (W (wd 4294967296 cv))], .bool false]))⟩
              refine pcr_byq ok26 hG (n := 96) (rv := [.cell 4 true 3, .tmp 5]) fun r hr => ?_; unfold c26 st0
              (have we1 := hd0; have we2 := hzb; have we3 := hg0; have we4 := hne; have we5 := hdr; have we6 := hsub; have we7 := hri; have we8 := hai; have we9 := hbi; have we10 := hd8; exact xwalkd10)
        · rw [if_neg hw]
          unfold denA
          cases hnw : numW w with
          | false =>
            rw [hnw] at hwn
            clear hq1 hr1s hrr hdr hsub hw
            generalize w :: r = L at *
            cases hd : rowA k L with
            | none =>
              rw [hd] at hrw
              unfold rRow at hrw
              dsimp only at hrw ⊢
              refine no_part ?_
              refine pcr_byq ok26 hG (n := 96) (rv := [.cell 4 true 3, .tmp 5]) fun r hr => ?_; unfold c26 st0
              (have we1 := hd0; have we2 := hzb; have we3 := hg0; have we4 := hai; exact xwalkd4)
            | some den =>
              have hdl := rowA_len hd
              rw [hd] at hrw
              unfold rRow at hrw
              dsimp only at hrw ⊢
              have hbi := atsC_imm den
              have hbl := atsC_len den
              split
              · rename_i h8
                show PCr _ _ _ _ _
                unfold ptC
                dsimp only
                have hd8 : decide ((num.length : Int) + (den.length : Int) ≤ 8) = true := decide_eq_true (by omega)
                refine pcr_byq ok26 hG (n := 96) (rv := [.cell 4 true 3, .tmp 5]) fun r hr => ?_; unfold c26 st0
                (have we1 := hd0; have we2 := hzb; have we3 := hg0; have we4 := hai; have we5 := hbi; have we6 := hd8; exact xwalkd6)
              · rename_i h8
                have hd8 : decide ((num.length : Int) + (den.length : Int) ≤ 8) = false := decide_eq_false (by omega)
                refine ⟨_, _, _, _, _, _, hai, hbi, W_imm _, (?_ : PCr Tryz.prog G 26 _ (.tup [.agg [.sl num.length (atsC num), .sl den.length (atsC den), .sl (wd 4294967296 1).length (W (wd 4294967296 1))], .bool false]))⟩
                refine pcr_byq ok26 hG (n := 96) (rv := [.cell 4 true 3, .tmp 5]) fun r hr => ?_; unfold c26 st0
                (have we1 := hd0; have we2 := hzb; have we3 := hg0; have we4 := hai; have we5 := hbi; have we6 := hd8; exact xwalkd6)
          | true =>
            rw [hnw] at hwn
            have hne : decide (w = (⟨#[49]⟩ : ByteArray)) = true := decide_eq_true (Classical.byContradiction fun h => hw ⟨hnw, h⟩)
            clear hq1 hr1s hrr hdr hsub hw
            generalize w :: r = L at *
            cases hd : rowA k L with
            | none =>
              rw [hd] at hrw
              unfold rRow at hrw
              dsimp only at hrw ⊢
              refine no_part ?_
              refine pcr_byq ok26 hG (n := 96) (rv := [.cell 4 true 3, .tmp 5]) fun r hr => ?_; unfold c26 st0
              (have we1 := hd0; have we2 := hzb; have we3 := hg0; have we4 := hne; have we5 := hai; exact xwalkd5)
            | some den =>
              have hdl := rowA_len hd
              rw [hd] at hrw
              unfold rRow at hrw
              dsimp only at hrw ⊢
              have hbi := atsC_imm den
              have hbl := atsC_len den
              split
              · rename_i h8
                show PCr _ _ _ _ _
                unfold ptC
                dsimp only
                have hd8 : decide ((num.length : Int) + (den.length : Int) ≤ 8) = true := decide_eq_true (by omega)
                refine pcr_byq ok26 hG (n := 96) (rv := [.cell 4 true 3, .tmp 5]) fun r hr => ?_; unfold c26 st0
                (have we1 := hd0; have we2 := hzb; have we3 := hg0; have we4 := hne; have we5 := hai; have we6 := hbi; have we7 := hd8; exact xwalkd7)
              · rename_i h8
                have hd8 : decide ((num.length : Int) + (den.length : Int) ≤ 8) = false := decide_eq_false (by omega)
                refine ⟨_, _, _, _, _, _, hai, hbi, W_imm _, (?_ : PCr Tryz.prog G 26 _ (.tup [.agg [.sl num.length (atsC num), .sl den.length (atsC den), .sl (wd 4294967296 1).length (W (wd 4294967296 1))], .bool false]))⟩
                refine pcr_byq ok26 hG (n := 96) (rv := [.cell 4 true 3, .tmp 5]) fun r hr => ?_; unfold c26 st0
                (have we1 := hd0; have we2 := hzb; have we3 := hg0; have we4 := hne; have we5 := hai; have we6 := hbi; have we7 := hd8; exact xwalkd7)
end Go.Proofs.YtgimaioeifnajaaGreatDoorK.TabT
