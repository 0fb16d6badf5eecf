/-
  The document's own atoms, part: what they compute.
-/
import Derived.Test.YtgimaioeifnajaaGreatDoorKIrCubitref6
import Derived.Test.YtgimaioeifnajaaGreatDoorKUniS
set_option linter.all false
set_option maxHeartbeats 0
namespace Go.Proofs.YtgimaioeifnajaaGreatDoorK.TabT
open AI NatIr Dig NatT LibT Go.Lib
attribute [local irreducible] awp awpOps
attribute [local go_sem] not_true_eq_false not_false_eq_true eq_self decide_true decide_false beq_self_eq_true Int.reduceAdd nl
variable {G : World → Prop}
structure Kn.fits (k : Kn) : Prop where
  n : k.names.length < 1000000
  p : k.prefs.length < 1000000
  s : ∀ p ∈ k.prefs, p.size < 1000000
attribute [local simp] kbs_ats
theorem pcr_ratoms (hG : Stable G) (k : Kn) (l : List Wd) (hk : k.fits) (hl : l.length < 1000000) (hls : ∀ w ∈ l, w.size < 1000000) : PCr Tryz.prog G 58 [k.D, .sl l.length (l.map .str)] (rRow (rowA k l)) := by
  have hpa := fun m hm hms => pcr_rparseatom (G := G) hG k m hk.n hk.p hm hk.s hms
  have hn := hk.n
  have hp := hk.p
  clear hk
  unfold Kn.D at *
  generalize k.names.map D.str = cN at *
  generalize k.prefs.map D.str = cP at *
  refine pcr_byq ok58 hG (n := 30) (rv := [.tmp 4, .tmp 5]) fun r hr => ?_; unfold c58 st0
  (refine xwalk ?_)
  refine awp_loop (fun j σ => ∃ (m : List Wd) (acc : List At) (v : Nat), m.length + acc.length ≤ l.length ∧ (∀ w ∈ m, w.size < 1000000) ∧ j = m.length ∧ rowA k l = (rowA k m).map (fun r => acc ++ r) ∧
    σ = ⟨(putE (putE (putE un0 (some 1) (.sl m.length (m.map .str))) (some 2) (.ptr 0 0 0)) (some 6) (.own 1 v 0 acc.length)), [some (0, 43, 2, [.sl k.names.length cN, .sl k.prefs.length cP]), some (v, 107, 3, atsC acc)]⟩) l.length ?_ ⟨l, [], 0, Nat.le_refl _, hls, rfl, ?_, rfl⟩ ?_
  · refine Ent.trans (Ent.nils (s := 6) 107 3 rfl) (by simp) ?_
    refine (Ent.cutk 2 (less_put (less_put (less_put (less_un0 _) ?_) ?_) ?_) (by exact ⟨.inr rfl, .inr rfl, trivial⟩) (kb_put (kb_put (kb_put (kb_un0 _) (by simp [kb])) (by simp [kb])) (by simp [kb])) (by simp [kbH, kb.kbs, kb, kbs_W, kbs_SS]))
    iterate 3 (· exact xlqi)
  · cases rowA k l <;> rfl
  rintro j σ1 ⟨m, acc, v, hml, hms, rfl, hrow, rfl⟩
  have hmi := strs_imm m
  have hml2 : (m.map D.str).length = m.length := List.length_map ..
  by_cases hm : m = []
  · subst hm
    rw [rowA_nil, Option.map_some, List.append_nil] at hrow
    rw [hrow] at hr
    unfold rRow at hr
    dsimp only at hr
    have htk : (atsC acc).take (acc.length * 3) = atsC acc := List.take_of_length_le (by rw [atsC_len]; omega)
    have hal := atsC_len acc
    have hai := atsC_imm acc
    (have we1 := htk; have we2 := hal; have we3 := hai; exact xwalkd3)
  · rw [rowA_step hm] at hrow
    have hpos : 0 < m.length := List.length_pos_iff.2 hm
    have hpm := hpa m (by omega) hms
    clear hpa
    cases hp : parseA k m with
    | none =>
      rw [hp] at hpm hrow
      dsimp only [Option.map_none] at hrow
      rw [hrow] at hr
      unfold rRow at hr
      unfold rAt at hpm
      dsimp only at hr hpm
      (exact xwalkd)
    | some q =>
      obtain ⟨a, n⟩ := q
      obtain ⟨hmw, hn1, hnl, _⟩ := parseA_words hp
      rw [hp] at hpm hrow
      unfold rAt at hpm
      dsimp only at hrow hpm
      have hone : ([.str a.pre, .str a.name, .int .i64 a.pw] : List D).all D.one = true := rfl
      have hal := atsC_len acc
      have hao : atsC acc ++ [.str a.pre, .str a.name, .int .i64 a.pw] = atsC (acc ++ [a]) := by rw [atsC_app]; rfl
      have hdl : (m.drop n).length = m.length - n := List.length_drop
      have hdr : ((m.map D.str).drop n).take (m.length - n) = (m.drop n).map .str := by rw [← List.map_drop, List.take_of_length_le (by rw [List.length_map, hdl]; omega)]
      have hsub : ((m.length : Int) - (n : Int)).toNat = m.length - n := by omega
      have hac : (acc ++ [a]).length = acc.length + 1 := by rw [List.length_append]; rfl
      have hrow2 : rowA k l = (rowA k (m.drop n)).map (fun r => acc ++ [a] ++ r) := by
        rw [hrow]
        cases rowA k (m.drop n) with
        | none => rfl
        | some r => simp
      have hms2 : ∀ w ∈ m.drop n, w.size < 1000000 := fun w hw => hms w (List.mem_of_mem_drop hw)
      clear hrow hmw hms
      (have we1 := hal; have we2 := hao; have we3 := hdr; have we4 := hsub; refine xwalk4 ?_)
      refine ⟨(m.drop n).length, _, by omega, ?_, m.drop n, acc ++ [a], v + 1, by omega, hms2, rfl, hrow2, rfl⟩
      rw [hac, hdl]
      refine Ent.cutk 2 (less_put (less_put (less_put (less_un0 _) ?_) ?_) ?_) ⟨.inr rfl, .inr rfl, trivial⟩ (kb_put (kb_put (kb_put (kb_un0 _) (by simp [kb])) (by simp [kb])) (by simp [kb])) ⟨by simp [kb.kbs, kb], kbs_of_imm (atsC_imm _), trivial⟩
      iterate 3 (· exact xlqi)
def rpT (p : Pt) : List D := [.sl p.num.length (atsC p.num), .sl p.den.length (atsC p.den), .str (txt p.c)]
def RPartR (f : FuncId) (G : World → Prop) (xs : List D) : Option Pt → Prop
  | some p => PCr Tryz.prog G f xs (.tup [.agg (rpT p), .bool true])
  | none => ∃ (a b : Nat) (x y : List D) (z : Wd), x.all D.imm = true ∧ y.all D.imm = true ∧ PCr Tryz.prog G f xs (.tup [.agg [.sl a x, .sl b y, .str z], .bool false])
theorem no_rpart {f : FuncId} {G : World → Prop} {xs : List D} (h : PCr Tryz.prog G f xs (.tup [.agg [.sl 0 [], .sl 0 [], .str ⟨#[]⟩], .bool false])) : RPartR f G xs none := ⟨0, 0, [], [], ⟨#[]⟩, rfl, rfl, h⟩
theorem txt1 : txt 1 = (⟨#[49]⟩ : Wd) := by unfold txt; rw [dec_small (by omega)]; rfl
theorem rpart_eq {f : FuncId} {G : World → Prop} {xs : List D} {x y : Option Pt} (e : x = y) (h : RPartR f G xs y) : RPartR f G xs x := e ▸ h
theorem partA_two' {k : Kn} {r0 : List Wd} {c : Nat} {l : List Wd} : (match rowA k r0 with | none => none | some num => denA k num c l) = (match rowA k l with | none => none | some den => match rowA k r0 with | none => none | some num => if num.length + den.length ≤ 8 then some ⟨num, den, c⟩ else none) := by
  unfold denA
  cases rowA k r0 <;> cases rowA k l <;> rfl
theorem pcr_rpart (hG : Stable G) (k : Kn) (l : List Wd) (hk : k.fits) (hl : l.length < 1000000) (hls : ∀ w ∈ l, w.size < 1000000) : RPartR 34 G [k.D, .sl l.length (l.map .str)] (partA k l) := by
  have hrow := fun m hm hms => pcr_ratoms (G := G) hG k m hk hm hms
  have hcl := cutW_len (w := wPer) (l := l)
  have hcut := pcr_rcut (G := G) hG l wPer hl
  have hli := strs_imm l
  have hint := inter_cutW (w := wPer) (l := l)
  have hn := hk.n
  have hp := hk.p
  clear hk
  unfold Kn.D at *
  generalize k.names.map D.str = cN at *
  generalize k.prefs.map D.str = cP at *
  unfold wPer at hcut
  unfold partA
  match hc : cutW wPer l with
  | [] =>
    have := cutA_ne (w := wPer) (l := l) (done := []) (cur := [])
    rw [show cutA wPer [] [] l = cutW wPer l from rfl, hc] at this
    cases this
  | _ :: _ :: _ :: rs =>
    rw [show (⟨#[112, 101, 114]⟩ : Wd) = wPer from rfl, hc] at hcut
    dsimp only
    refine no_rpart ?_
    simp only [List.length_cons, rowsD, List.map_cons] at hcut
    clear hrow hcl hint
    have hl3 : 2 < rs.length + 1 + 1 + 1 := by omega
    have hd : decide (((rs.length + 1 + 1 + 1 : Nat) : Int) > 2) = true := decide_eq_true (by omega)
    unfold wPer at hcut
    generalize hq : rs.length + 1 + 1 + 1 = q at *
    refine pcr_byq ok34 hG (n := 94) (rv := [.cell 4 true 3, .tmp 5]) fun r hr => ?_; unfold c34 st0
    (have we1 := hd; exact xwalkd1)
  | [r0] =>
    rw [show (⟨#[112, 101, 114]⟩ : Wd) = wPer from rfl, hc] at hcut
    rw [hc] at hcl hint
    have h0l := hcl r0 (by simp)
    have hrl : r0 = l := hint
    subst hrl
    have hr0 := hrow r0 (by omega) hls
    clear hrow hcl hint
    simp only [List.length_cons, List.length_nil, rowsD, List.map_cons, List.map_nil] at hcut
    unfold wPer at hcut
    dsimp only
    by_cases hl0 : r0 = []
    · rw [if_pos hl0]
      subst hl0
      rw [rowA_nil] at hr0
      unfold rRow at hr0
      dsimp only at hr0
      simp only [List.length_nil, List.map_nil, show atsC [] = [] from rfl] at *
      refine ⟨_, _, _, _, _, rfl, rfl, (?_ : PCr Tryz.prog G 34 _ (.tup [.agg [.sl 0 [], .sl 0 [], .str ⟨#[49]⟩], .bool false]))⟩
      refine pcr_byq ok34 hG (n := 94) (rv := [.cell 4 true 3, .tmp 5]) fun r hr => ?_; unfold c34 st0
      (exact xwalkd)
    · rw [if_neg hl0]
      cases hr : rowA k r0 with
      | none =>
        rw [hr] at hr0
        unfold rRow at hr0
        dsimp only at hr0 ⊢
        refine ⟨_, _, _, _, _, rfl, rfl, (?_ : PCr Tryz.prog G 34 _ (.tup [.agg [.sl 0 [], .sl 0 [], .str ⟨#[49]⟩], .bool false]))⟩
        refine pcr_byq ok34 hG (n := 94) (rv := [.cell 4 true 3, .tmp 5]) fun r hr => ?_; unfold c34 st0
        (exact xwalkd)
      | some num =>
        have hrl := rowA_len hr
        have hne : num ≠ [] := fun e => hl0 (by have := (rowF_words hr).1; rw [e] at this; exact this)
        have hnp : 0 < num.length := List.length_pos_iff.2 hne
        rw [hr] at hr0
        unfold rRow at hr0
        dsimp only at hr0 ⊢
        have hai := atsC_imm num
        have hal := atsC_len num
        have hd0 : decide ((num.length : Int) > 0) = true := decide_eq_true (by omega)
        split
        · rename_i h8
          show PCr _ _ _ _ _
          unfold rpT
          dsimp only
          have hd8 : decide ((num.length : Int) ≤ 8) = true := decide_eq_true (by omega)
          rw [show atsC [] = [] from rfl, List.length_nil, txt1]
          refine pcr_byq ok34 hG (n := 94) (rv := [.cell 4 true 3, .tmp 5]) fun r hr => ?_; unfold c34 st0
          (have we1 := hd0; have we2 := hai; have we3 := hd8; exact xwalkd3)
        · rename_i h8
          have hd8 : decide ((num.length : Int) ≤ 8) = false := decide_eq_false (by omega)
          refine ⟨_, _, _, _, _, hai, rfl, (?_ : PCr Tryz.prog G 34 _ (.tup [.agg [.sl num.length (atsC num), .sl 0 [], .str ⟨#[49]⟩], .bool false]))⟩
          refine pcr_byq ok34 hG (n := 94) (rv := [.cell 4 true 3, .tmp 5]) fun r hr => ?_; unfold c34 st0
          (have we1 := hd0; have we2 := hai; have we3 := hd8; exact xwalkd3)
  | [r0, r1] =>
    rw [show (⟨#[112, 101, 114]⟩ : Wd) = wPer from rfl, hc] at hcut
    rw [hc] at hcl hint
    have h0l := hcl r0 (by simp)
    have h1l := hcl r1 (by simp)
    have hsub0 : ∀ w ∈ r0, w.size < 1000000 := fun w hw => hls w (by rw [← hint]; simp [inter, hw])
    have hr1s : ∀ w ∈ r1, w.size < 1000000 := fun w hw => hls w (by rw [← hint]; simp [inter, hw])
    have hr0 := hrow r0 (by omega) hsub0
    clear hcl hsub0
    simp only [List.length_cons, List.length_nil, rowsD, List.map_cons, List.map_nil] at hcut
    have h0i := strs_imm r0
    have h1i := strs_imm r1
    unfold wPer at hcut
    dsimp only
    match hq1 : r1 with
    | [] =>
      refine rpart_eq (y := none) (by cases rowA k r0 <;> rfl) (no_rpart ?_)
      clear hrow hint
      simp only [List.length_nil, List.map_nil] at *
      cases hr : rowA k r0 with
      | none =>
        rw [hr] at hr0
        unfold rRow at hr0
        dsimp only at hr0
        refine pcr_byq ok34 hG (n := 94) (rv := [.cell 4 true 3, .tmp 5]) fun r hr => ?_; unfold c34 st0
        (exact xwalkd)
      | some num =>
        rw [hr] at hr0
        unfold rRow at hr0
        dsimp only at hr0
        have hai := atsC_imm num
        refine pcr_byq ok34 hG (n := 94) (rv := [.cell 4 true 3, .tmp 5]) fun r hr => ?_; unfold c34 st0
        (have we1 := hai; exact xwalkd1)
    | w :: r =>
      have hg0 := strs_at0 hq1
      have hwn := pcr_rnumber (G := G) hG w (hr1s w (by simp))
      have hrr := hrow r (by simp at h1l; omega) (fun x hx => hr1s x (by simp [hx]))
      have hrw := hrow (w :: r) (by omega) hr1s
      have hpos : 0 < (w :: r).length := by simp
      have hlr : (w :: r).length = r.length + 1 := rfl
      have hLm : ((w :: r).map D.str).length = (w :: r).length := List.length_map ..
      have hd0 : decide ((((w :: r).length : Nat) : Int) > 0) = true := decide_eq_true (by omega)
      have hdr : ((((w :: r).map D.str).drop 1).take r.length) = r.map .str := by
        rw [List.map_cons, List.drop_succ_cons, List.drop_zero, List.take_of_length_le (by rw [List.length_map]; omega)]
      have hsub : (((w :: r).length : Int) - 1).toNat = r.length := by rw [hlr]; omega
      have hri := strs_imm r
      clear hrow hint hls
      rw [hq1] at hg0
      dsimp only
      by_cases hw : numW w = true ∧ w ≠ w1
      · simp only [if_pos hw]
        rw [hw.1] at hwn
        obtain ⟨ht, _⟩ := num_txt hw.1 hw.2
        have hne : decide (w = (⟨#[49]⟩ : ByteArray)) = false := decide_eq_false hw.2
        refine rpart_eq (partA_two' (k := k) (r0 := r0) (c := decV w.data.toList) (l := r)) ?_
        clear hq1 hr1s hrw
        generalize decV w.data.toList = cv at *
        subst ht
        generalize txt cv :: r = L at *
        cases hd : rowA k r with
        | none =>
          rw [hd] at hrr
          unfold rRow at hrr
          dsimp only at hrr ⊢
          cases hr : rowA k r0 with
          | none =>
            rw [hr] at hr0
            unfold rRow at hr0
            dsimp only at hr0 ⊢
            refine ⟨_, _, _, _, _, rfl, rfl, (?_ : PCr Tryz.prog G 34 _ (.tup [.agg [.sl 0 [], .sl 0 [], .str (txt cv)], .bool false]))⟩
            refine pcr_byq ok34 hG (n := 94) (rv := [.cell 4 true 3, .tmp 5]) fun r hr => ?_; unfold c34 st0
            (have we1 := hd0; have we2 := hg0; have we3 := hne; have we4 := hdr; have we5 := hsub; have we6 := hri; exact xwalkd6)
          | some num =>
            rw [hr] at hr0
            unfold rRow at hr0
            dsimp only at hr0 ⊢
            have hai := atsC_imm num
            have hal := atsC_len num
            refine ⟨_, _, _, _, _, hai, rfl, (?_ : PCr Tryz.prog G 34 _ (.tup [.agg [.sl num.length (atsC num), .sl 0 [], .str (txt cv)], .bool false]))⟩
            refine pcr_byq ok34 hG (n := 94) (rv := [.cell 4 true 3, .tmp 5]) fun r hr => ?_; unfold c34 st0
            (have we1 := hd0; have we2 := hg0; have we3 := hne; have we4 := hdr; have we5 := hsub; have we6 := hri; have we7 := hai; exact xwalkd7)
        | some den =>
          have hdl := rowA_len hd
          rw [hd] at hrr
          unfold rRow at hrr
          dsimp only at hrr ⊢
          have hbi := atsC_imm den
          have hbl := atsC_len den
          cases hr : rowA k r0 with
          | none =>
            rw [hr] at hr0
            unfold rRow at hr0
            dsimp only at hr0 ⊢
            refine ⟨_, _, _, _, _, rfl, hbi, (?_ : PCr Tryz.prog G 34 _ (.tup [.agg [.sl 0 [], .sl den.length (atsC den), .str (txt cv)], .bool false]))⟩
            refine pcr_byq ok34 hG (n := 94) (rv := [.cell 4 true 3, .tmp 5]) fun r hr => ?_; unfold c34 st0
            (have we1 := hd0; have we2 := hg0; have we3 := hne; have we4 := hdr; have we5 := hsub; have we6 := hri; have we7 := hbi; exact xwalkd7)
          | some num =>
            have hrl := rowA_len hr
            rw [hr] at hr0
            unfold rRow at hr0
            dsimp only at hr0 ⊢
            have hai := atsC_imm num
            have hal := atsC_len num
            split
            · rename_i h8
              show PCr _ _ _ _ _
              unfold rpT
              dsimp only
              have hd8 : decide ((num.length : Int) + (den.length : Int) ≤ 8) = true := decide_eq_true (by omega)
              refine pcr_byq ok34 hG (n := 94) (rv := [.cell 4 true 3, .tmp 5]) fun r hr => ?_; unfold c34 st0
              (have we1 := hd0; have we2 := hg0; have we3 := hne; have we4 := hdr; have we5 := hsub; have we6 := hri; have we7 := hai; have we8 := hbi; have we9 := hd8; exact xwalkd9)
            · rename_i h8
              have hd8 : decide ((num.length : Int) + (den.length : Int) ≤ 8) = false := decide_eq_false (by omega)
              refine ⟨_, _, _, _, _, hai, hbi, (?_ : PCr Tryz.prog G 34 _ (.tup [.agg [.sl num.length (atsC num), .sl den.length (atsC den), .str (txt cv)], .bool false]))⟩
              refine pcr_byq ok34 hG (n := 94) (rv := [.cell 4 true 3, .tmp 5]) fun r hr => ?_; unfold c34 st0
              (have we1 := hd0; have we2 := hg0; have we3 := hne; have we4 := hdr; have we5 := hsub; have we6 := hri; have we7 := hai; have we8 := hbi; have we9 := hd8; exact xwalkd9)
      · simp only [if_neg hw]
        refine rpart_eq (partA_two' (k := k) (r0 := r0) (c := 1) (l := w :: r)) ?_
        cases hnw : numW w with
        | false =>
          rw [hnw] at hwn
          clear hq1 hr1s hrr hdr hsub hw
          generalize w :: r = L at *
          have ht1 := txt1
          cases hd : rowA k L with
          | none =>
            rw [hd] at hrw
            unfold rRow at hrw
            dsimp only at hrw ⊢
            cases hr : rowA k r0 with
            | none =>
              rw [hr] at hr0
              unfold rRow at hr0
              dsimp only at hr0 ⊢
              refine ⟨_, _, _, _, _, rfl, rfl, (?_ : PCr Tryz.prog G 34 _ (.tup [.agg [.sl 0 [], .sl 0 [], .str ⟨#[49]⟩], .bool false]))⟩
              refine pcr_byq ok34 hG (n := 94) (rv := [.cell 4 true 3, .tmp 5]) fun r hr => ?_; unfold c34 st0
              (have we1 := hd0; have we2 := hg0; have we3 := ht1; exact xwalkd3)
            | some num =>
              rw [hr] at hr0
              unfold rRow at hr0
              dsimp only at hr0 ⊢
              have hai := atsC_imm num
              have hal := atsC_len num
              refine ⟨_, _, _, _, _, hai, rfl, (?_ : PCr Tryz.prog G 34 _ (.tup [.agg [.sl num.length (atsC num), .sl 0 [], .str ⟨#[49]⟩], .bool false]))⟩
              refine pcr_byq ok34 hG (n := 94) (rv := [.cell 4 true 3, .tmp 5]) fun r hr => ?_; unfold c34 st0
              (have we1 := hd0; have we2 := hg0; have we3 := ht1; have we4 := hai; exact xwalkd4)
          | some den =>
            have hdl := rowA_len hd
            rw [hd] at hrw
            unfold rRow at hrw
            dsimp only at hrw ⊢
            have hbi := atsC_imm den
            have hbl := atsC_len den
            cases hr : rowA k r0 with
            | none =>
              rw [hr] at hr0
              unfold rRow at hr0
              dsimp only at hr0 ⊢
              refine ⟨_, _, _, _, _, rfl, hbi, (?_ : PCr Tryz.prog G 34 _ (.tup [.agg [.sl 0 [], .sl den.length (atsC den), .str ⟨#[49]⟩], .bool false]))⟩
              refine pcr_byq ok34 hG (n := 94) (rv := [.cell 4 true 3, .tmp 5]) fun r hr => ?_; unfold c34 st0
              (have we1 := hd0; have we2 := hg0; have we3 := ht1; have we4 := hbi; exact xwalkd4)
            | some num =>
              have hrl := rowA_len hr
              rw [hr] at hr0
              unfold rRow at hr0
              dsimp only at hr0 ⊢
              have hai := atsC_imm num
              have hal := atsC_len num
              split
              · rename_i h8
                show PCr _ _ _ _ _
                unfold rpT
                dsimp only
                rw [txt1]
                have hd8 : decide ((num.length : Int) + (den.length : Int) ≤ 8) = true := decide_eq_true (by omega)
                refine pcr_byq ok34 hG (n := 94) (rv := [.cell 4 true 3, .tmp 5]) fun r hr => ?_; unfold c34 st0
                (have we1 := hd0; have we2 := hg0; have we3 := ht1; have we4 := hai; have we5 := hbi; have we6 := hd8; exact xwalkd6)
              · rename_i h8
                have hd8 : decide ((num.length : Int) + (den.length : Int) ≤ 8) = false := decide_eq_false (by omega)
                refine ⟨_, _, _, _, _, hai, hbi, (?_ : PCr Tryz.prog G 34 _ (.tup [.agg [.sl num.length (atsC num), .sl den.length (atsC den), .str ⟨#[49]⟩], .bool false]))⟩
                refine pcr_byq ok34 hG (n := 94) (rv := [.cell 4 true 3, .tmp 5]) fun r hr => ?_; unfold c34 st0
                (have we1 := hd0; have we2 := hg0; have we3 := ht1; have we4 := hai; have we5 := hbi; have we6 := hd8; exact xwalkd6)
        | true =>
          rw [hnw] at hwn
          have hne : decide (w = (⟨#[49]⟩ : ByteArray)) = true := decide_eq_true (Classical.byContradiction fun h => hw ⟨hnw, h⟩)
          clear hq1 hr1s hrr hdr hsub hw
          generalize w :: r = L at *
          have ht1 := txt1
          cases hd : rowA k L with
          | none =>
            rw [hd] at hrw
            unfold rRow at hrw
            dsimp only at hrw ⊢
            cases hr : rowA k r0 with
            | none =>
              rw [hr] at hr0
              unfold rRow at hr0
              dsimp only at hr0 ⊢
              refine ⟨_, _, _, _, _, rfl, rfl, (?_ : PCr Tryz.prog G 34 _ (.tup [.agg [.sl 0 [], .sl 0 [], .str ⟨#[49]⟩], .bool false]))⟩
              refine pcr_byq ok34 hG (n := 94) (rv := [.cell 4 true 3, .tmp 5]) fun r hr => ?_; unfold c34 st0
              (have we1 := hd0; have we2 := hg0; have we3 := hne; have we4 := ht1; exact xwalkd4)
            | some num =>
              rw [hr] at hr0
              unfold rRow at hr0
              dsimp only at hr0 ⊢
              have hai := atsC_imm num
              have hal := atsC_len num
              refine ⟨_, _, _, _, _, hai, rfl, (?_ : PCr Tryz.prog G 34 _ (.tup [.agg [.sl num.length (atsC num), .sl 0 [], .str ⟨#[49]⟩], .bool false]))⟩
              refine pcr_byq ok34 hG (n := 94) (rv := [.cell 4 true 3, .tmp 5]) fun r hr => ?_; unfold c34 st0
              (have we1 := hd0; have we2 := hg0; have we3 := hne; have we4 := ht1; have we5 := hai; exact xwalkd5)
          | some den =>
            have hdl := rowA_len hd
            rw [hd] at hrw
            unfold rRow at hrw
            dsimp only at hrw ⊢
            have hbi := atsC_imm den
            have hbl := atsC_len den
            cases hr : rowA k r0 with
            | none =>
              rw [hr] at hr0
              unfold rRow at hr0
              dsimp only at hr0 ⊢
              refine ⟨_, _, _, _, _, rfl, hbi, (?_ : PCr Tryz.prog G 34 _ (.tup [.agg [.sl 0 [], .sl den.length (atsC den), .str ⟨#[49]⟩], .bool false]))⟩
              refine pcr_byq ok34 hG (n := 94) (rv := [.cell 4 true 3, .tmp 5]) fun r hr => ?_; unfold c34 st0
              (have we1 := hd0; have we2 := hg0; have we3 := hne; have we4 := ht1; have we5 := hbi; exact xwalkd5)
            | some num =>
              have hrl := rowA_len hr
              rw [hr] at hr0
              unfold rRow at hr0
              dsimp only at hr0 ⊢
              have hai := atsC_imm num
              have hal := atsC_len num
              split
              · rename_i h8
                show PCr _ _ _ _ _
                unfold rpT
                dsimp only
                rw [txt1]
                have hd8 : decide ((num.length : Int) + (den.length : Int) ≤ 8) = true := decide_eq_true (by omega)
                refine pcr_byq ok34 hG (n := 94) (rv := [.cell 4 true 3, .tmp 5]) fun r hr => ?_; unfold c34 st0
                (have we1 := hd0; have we2 := hg0; have we3 := hne; have we4 := ht1; have we5 := hai; have we6 := hbi; have we7 := hd8; exact xwalkd7)
              · rename_i h8
                have hd8 : decide ((num.length : Int) + (den.length : Int) ≤ 8) = false := decide_eq_false (by omega)
                refine ⟨_, _, _, _, _, hai, hbi, (?_ : PCr Tryz.prog G 34 _ (.tup [.agg [.sl num.length (atsC num), .sl den.length (atsC den), .str ⟨#[49]⟩], .bool false]))⟩
                refine pcr_byq ok34 hG (n := 94) (rv := [.cell 4 true 3, .tmp 5]) fun r hr => ?_; unfold c34 st0
                (have we1 := hd0; have we2 := hg0; have we3 := hne; have we4 := ht1; have we5 := hai; have we6 := hbi; have we7 := hd8; exact xwalkd7)
end Go.Proofs.YtgimaioeifnajaaGreatDoorK.TabT
