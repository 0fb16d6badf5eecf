/-
  Joined: UniT, UniI.
-/
import Derived.Test.YtgimaioeifnajaaGreatDoorKUh
import Derived.Test.YtgimaioeifnajaaGreatDoorKIrLib
import Derived.Test.YtgimaioeifnajaaGreatDoorKIrX
set_option linter.all false
set_option maxHeartbeats 0
/-
  The laws' names, and an example.
-/
namespace Go.Proofs.YtgimaioeifnajaaGreatDoorK.TabT
open AI NatIr Dig NatT LibT Go.Lib
def kS : Kn := ⟨[⟨#[109, 101, 116, 101, 114]⟩, ⟨#[115, 101, 99, 111, 110, 100]⟩, ⟨#[103, 114, 97, 109]⟩], [⟨#[107, 105, 108, 111]⟩, ⟨#[109, 105, 108, 108, 105]⟩]⟩
def mps : Wd := ⟨#[109, 101, 116, 101, 114, 45, 112, 101, 114, 45, 115, 101, 99, 111, 110, 100]⟩
theorem mps_unit : unitA kS mps = .ok [⟨[⟨⟨#[]⟩, ⟨#[109, 101, 116, 101, 114]⟩, 1⟩], [⟨⟨#[]⟩, ⟨#[115, 101, 99, 111, 110, 100]⟩, 1⟩], 1⟩] := by kernel_rfl
end Go.Proofs.YtgimaioeifnajaaGreatDoorK.TabT
/-
  Package unit: Show, Good: what they compute of units that were read.
-/
namespace Go.Proofs.YtgimaioeifnajaaGreatDoorK.TabT
open AI NatIr Dig NatT LibT Go.Lib
attribute [local irreducible] awp awpOps
attribute [local go_sem] not_true_eq_false not_false_eq_true eq_self decide_true decide_false beq_self_eq_true Int.reduceAdd nl List.getElem?_cons_zero List.getElem?_cons_succ
variable {G : World → Prop}
theorem ptL_get {u : List Pt} {i : Nat} (h : i < u.length) : (u.take (i + 1)).map ptS = (u.take i).map ptS ++ [ptS u[i]] := by
  rw [List.take_succ_eq_append_getElem h, List.map_append]; rfl
theorem pcr_ushow (hG : Stable G) (hT : ∀ w, G w → Lib.TabIs Tryz.prog w "internal/strconv.uint64pow10" .u64 Lib.pow10Tab) (u : List Pt) (hok : ∀ p ∈ u, p.ok ∧ p.fits) (hsz : (unitS u).size ≤ 140737488355328) (hul : u.length ≤ 1000) :
    PCr Tryz.prog G 11 [.agg [.sl u.length (ptsC u)]] (.str (unitS u)) := by
  have hsp : ∀ p ∈ u, PCr Tryz.prog G 22 [.agg (ptC p)] (.str (ptS p)) := fun p hp => pcr_showpt hG hT p (hok p hp).1 (hok p hp).2
  have hjl := lib_join (G := G) (u.map ptS) ⟨#[45, 97, 110, 100, 45]⟩ _ rfl (by rw [List.length_map]; omega) (by
    have := hsz
    unfold unitS at this
    rw [ba_size] at this
    exact this)
  rw [show (⟨(join ((u.map ptS).map (·.data.toList)) (⟨#[45, 97, 110, 100, 45]⟩ : ByteArray).data.toList).toArray⟩ : ByteArray) = unitS u from rfl] at hjl
  have hpl := ptsC_len u
  clear hok hsz
  refine pcr_byq ok11 hG (n := 21) (rv := [.tmp 2]) fun r hr => ?_; unfold c11 st0
  (refine xwalk ?_)
  refine awp_loop (fun j σ => ∃ i v, i ≤ u.length ∧ j = u.length - i ∧ σ = ⟨(putE (putE (putE (putE (putE un0 (some 1) (.ptr 0 0 0)) (some 3) (.own 1 v 0 i)) (some 7) (.sl u.length (ptsC u))) (some 8) (.int .i64 (u.length : Int))) (some 9) (.int .i64 (i : Int))), [some (0, 25, 1, [.sl u.length (ptsC u)]), some (v, 9, 1, ((u.take i).map ptS).map .str)]⟩) u.length ?_ ⟨0, 0, Nat.zero_le _, rfl, rfl⟩ ?_
  · refine Ent.trans (Ent.nils (s := 3) 9 1 rfl) (by simp) ?_
    refine (Ent.cutk 2 (less_put (less_put (less_put (less_put (less_put (less_un0 _) ?_) ?_) ?_) ?_) ?_) (by exact ⟨.inr rfl, .inr rfl, trivial⟩) (kb_put (kb_put (kb_put (kb_put (kb_put (kb_un0 _) (by simp [kb])) (by simp [kb])) (by simp [kb])) (by simp [kb])) (by simp [kb])) (by simp [kbH, kb.kbs, kb, kbs_W, kbs_SS]))
    iterate 5 (· exact xlqi)
  rintro j σ1 ⟨i, v, hi, rfl, rfl⟩
  by_cases hlt : i < u.length
  · have hget := ptsC_get hlt
    have hsi := hsp u[i] (List.getElem_mem hlt)
    have hcl : (((u.take i).map ptS).map D.str).length = i := by rw [List.length_map, List.length_map, List.length_take]; omega
    have hap : ((u.take i).map ptS).map D.str ++ [.str (ptS u[i])] = ((u.take (i + 1)).map ptS).map .str := by rw [ptL_get hlt, List.map_append]; rfl
    clear hsp
    generalize u[i] = p at *
    unfold ptC at hget hsi
    (have we1 := hget; have we2 := hcl; have we3 := hap; refine xwalk3 ?_)
    refine ⟨u.length - (i + 1), _, by omega, ?_, i + 1, v + 1, by omega, rfl, rfl⟩
    refine Ent.cutk 2 (less_put (less_put (less_put (less_put (less_put (less_un0 _) ?_) ?_) ?_) ?_) ?_) ⟨.inr rfl, .inr rfl, trivial⟩ (kb_put (kb_put (kb_put (kb_put (kb_put (kb_un0 _) (by simp [kb])) (by simp [kb])) (by simp [kb])) (by simp [kb])) (by simp [kb])) ⟨by simp [kb.kbs, kb], kbs_of_imm (strs_imm _), trivial⟩
    iterate 5 (· exact xlqi)
  · obtain rfl : i = u.length := by omega
    rw [List.take_length]
    have hln : (u.map ptS).length = u.length := List.length_map ..
    rw [hln] at hjl
    have hcl : ((u.map ptS).map D.str).length = u.length := by rw [List.length_map, hln]
    have htk : ((u.map ptS).map D.str).take u.length = (u.map ptS).map .str := List.take_of_length_le (by omega)
    have hai := strs_imm (u.map ptS)
    clear hsp
    (have we1 := hcl; have we2 := htk; have we3 := hai; exact xwalkd3)
theorem unitA_fits {k : Kn} {s : Wd} {u : List Pt} (h : unitA k s = .ok u) : ∀ p ∈ u, p.fits := by
  have hs := (unitA_ok h).2.2.2.2
  unfold unitA splW at h
  rw [if_neg (by omega)] at h
  by_cases h2 : (words s).all goodW = true
  · rw [if_pos h2] at h
    dsimp only at h
    split at h
    · cases h
    · cases hp : partsA k (cutW wAnd (words s)) with
      | none => rw [hp] at h; cases h
      | some u' =>
        rw [hp] at h
        cases h
        obtain ⟨h5, _⟩ := partsA_words hp
        have hsub : ∀ x ∈ cutW wAnd (words s), ∀ y ∈ x, y.size ≤ 256 := cutA_sub (fun x hx => by cases hx) (fun y hy => by cases hy) (fun y hy => by have := (words_len (s := s)).1 y hy; omega)
        intro p hp'
        have hw : ptW p ∈ cutW wAnd (words s) := by rw [h5]; exact List.mem_map_of_mem hp'
        have key : ∀ a : At, (∀ y ∈ atW a, y ∈ ptW p) → a.pre.size < 2000000 ∧ a.name.size < 2000000 := fun a ha => by
          have := hsub _ hw _ (ha (a.pre ++ a.name) (by unfold atW; simp))
          rw [ByteArray.size_append] at this
          omega
        refine ⟨fun a ha => key a fun y hy => ?_, fun a ha => key a fun y hy => ?_⟩
        · unfold ptW
          exact List.mem_append.2 (.inl (List.mem_flatMap.2 ⟨a, ha, hy⟩))
        · unfold ptW
          exact List.mem_append.2 (.inr (List.mem_append.2 (.inr (List.mem_append.2 (.inr (List.mem_flatMap.2 ⟨a, ha, hy⟩))))))
  · rw [if_neg h2] at h; cases h
theorem pcr_ushowA (hG : Stable G) (hT : ∀ w, G w → Lib.TabIs Tryz.prog w "internal/strconv.uint64pow10" .u64 Lib.pow10Tab) {k : Kn} {s : Wd} {u : List Pt} (h : unitA k s = .ok u) :
    PCr Tryz.prog G 11 [.agg [.sl u.length (ptsC u)]] (.str s) := by
  obtain ⟨h1, h2, _, h4, h5⟩ := unitA_ok h
  have := pcr_ushow hG hT u (fun p hp => ⟨h4 p hp, unitA_fits h p hp⟩) (by rw [h1]; omega) (by omega)
  rwa [h1] at this
/-! ### alike -/
theorem bas_self (x : Wd) : (x == x) = true := by rw [bas_toList, ba_beq]; exact decide_eq_true rfl
theorem pcr_eqatoms (hG : Stable G) (l : List At) (hl : l.length < 1000000) : PCr Tryz.prog G 55 [.sl l.length (atsC l), .sl l.length (atsC l)] (.bool true) := by
  have hal := atsC_len l
  refine pcr_byq ok55 hG (n := 26) (rv := [.tmp 4]) fun r hr => ?_; unfold c55 st0
  (refine xwalk ?_)
  refine awp_loop (fun j σ => ∃ i, i ≤ l.length ∧ j = l.length - i ∧ σ = ⟨(putE (putE (putE (putE un0 (some 0) (.sl l.length (atsC l))) (some 1) (.sl l.length (atsC l))) (some 12) (.int .i64 (l.length : Int))) (some 13) (.int .i64 (i : Int))), []⟩) l.length ?_ ⟨0, Nat.zero_le _, rfl, rfl⟩ ?_
  · refine Ent.env (less_put (less_put (less_put (less_put (less_un0 _) ?_) ?_) ?_) ?_)
    iterate 4 (· exact xlqi)
  rintro j σ1 ⟨i, hi, rfl, rfl⟩
  by_cases hlt : i < l.length
  · have hget := atsC_get hlt
    generalize l[i] = a at *
    have hb1 := bas_self a.pre
    have hb2 := bas_self a.name
    (have we1 := hget; have we2 := hb1; have we3 := hb2; refine xwalk3 ?_)
    refine ⟨l.length - (i + 1), _, by omega, ?_, i + 1, by omega, rfl, rfl⟩
    refine Ent.env (less_put (less_put (less_put (less_put (less_un0 _) ?_) ?_) ?_) ?_)
    iterate 4 (· exact xlqi)
  · (exact xwalkd)
theorem pcr_eqwords (hG : Stable G) (l : List Int) (hl : l.length < 1000000) : PCr Tryz.prog G 56 [.sl l.length (W l), .sl l.length (W l)] (.bool true) := by
  refine pcr_byq ok56 hG (n := 26) (rv := [.tmp 4]) fun r hr => ?_; unfold c56 st0
  (refine xwalk ?_)
  refine awp_loop (fun j σ => ∃ i, i ≤ l.length ∧ j = l.length - i ∧ σ = ⟨(putE (putE (putE (putE un0 (some 0) (.sl l.length (W l))) (some 1) (.sl l.length (W l))) (some 12) (.int .i64 (l.length : Int))) (some 13) (.int .i64 (i : Int))), []⟩) l.length ?_ ⟨0, Nat.zero_le _, rfl, rfl⟩ ?_
  · refine Ent.env (less_put (less_put (less_put (less_put (less_un0 _) ?_) ?_) ?_) ?_)
    iterate 4 (· exact xlqi)
  rintro j σ1 ⟨i, hi, rfl, rfl⟩
  by_cases hlt : i < l.length
  · (refine xwalk ?_)
    refine ⟨l.length - (i + 1), _, by omega, ?_, i + 1, by omega, rfl, rfl⟩
    refine Ent.env (less_put (less_put (less_put (less_put (less_un0 _) ?_) ?_) ?_) ?_)
    iterate 4 (· exact xlqi)
  · (exact xwalkd)
theorem pcr_usame (hG : Stable G) (p : Pt) (h1 : p.num.length < 1000000) (h2 : p.den.length < 1000000) (h3 : p.c < 4294967296 ^ 6) : PCr Tryz.prog G 31 [.agg (ptC p), .agg (ptC p)] (.bool true) := by
  have e1 := pcr_eqatoms (G := G) hG p.num h1
  have e2 := pcr_eqatoms (G := G) hG p.den h2
  have e3 := pcr_eqwords (G := G) hG (wd 4294967296 p.c) (by have := wd_length_le (B := 4294967296) (by omega) h3; omega)
  unfold ptC
  refine pcr_byq ok31 hG (n := 26) (rv := [.tmp 4]) fun r hr => ?_; unfold c31 st0
  (exact xwalkd)
theorem pcr_equnits (hG : Stable G) (u : List Pt) (hu : ∀ p ∈ u, p.ok) (hl : u.length < 1000000) : PCr Tryz.prog G 30 [.sl u.length (ptsC u), .sl u.length (ptsC u), .fn 31 []] (.bool true) := by
  have hal := ptsC_len u
  have hsa : ∀ p ∈ u, PCr Tryz.prog G 31 [.agg (ptC p), .agg (ptC p)] (.bool true) := fun p hp => by
    have h := hu p hp
    exact pcr_usame hG p (by have := h.few; omega) (by have := h.few; omega) (Nat.lt_of_lt_of_le h.c20 (by decide))
  clear hu
  have hokf : okF Tryz.prog 31 = true := by kernel_rfl
  refine pcr_byq ok30 hG (n := 32) (rv := [.tmp 6]) fun r hr => ?_; unfold c30 st0
  (refine xwalk ?_)
  refine awp_loop (fun j σ => ∃ i, i ≤ u.length ∧ j = u.length - i ∧ σ = ⟨(putE (putE (putE (putE (putE un0 (some 1) (.sl u.length (ptsC u))) (some 2) (.fn 31 [])) (some 15) (.sl u.length (ptsC u))) (some 16) (.int .i64 (u.length : Int))) (some 17) (.int .i64 (i : Int))), []⟩) u.length ?_ ⟨0, Nat.zero_le _, rfl, rfl⟩ ?_
  · refine Ent.env (less_put (less_put (less_put (less_put (less_put (less_un0 _) ?_) ?_) ?_) ?_) ?_)
    iterate 5 (· exact xlqi)
  rintro j σ1 ⟨i, hi, rfl, rfl⟩
  by_cases hlt : i < u.length
  · have hget := ptsC_get hlt
    have hsi := hsa u[i] (List.getElem_mem hlt)
    clear hsa
    generalize u[i] = p at *
    unfold ptC at hget hsi
    (have we1 := hget; refine xwalk1 ?_)
    refine ⟨u.length - (i + 1), _, by omega, ?_, i + 1, by omega, rfl, rfl⟩
    refine Ent.cutk 0 (less_put (less_put (less_put (less_put (less_put (less_un0 _) ?_) ?_) ?_) ?_) ?_) trivial (kb_put (kb_put (kb_put (kb_put (kb_put (kb_un0 _) (by simp [kb])) (by simp [kb, kb.kbs])) (by simp [kb])) (by simp [kb])) (by simp [kb])) trivial
    iterate 5 (· exact xlqi)
  · (exact xwalkd)
theorem pcr_ugood (hG : Stable G) (hT : ∀ w, G w → Lib.TabIs Tryz.prog w "internal/strconv.uint64pow10" .u64 Lib.pow10Tab) (hM : ∀ w, G w → gMax w) (k : Kn) {s : Wd} {u : List Pt} (hn : k.names.length < 1000000) (hp : k.prefs.length < 1000000) (h : unitA k s = .ok u) :
    PCr Tryz.prog G 14 [k.D, .agg [.sl u.length (ptsC u)]] (.bool true) := by
  obtain ⟨_, h2, _, h4, h5⟩ := unitA_ok h
  have hs := pcr_ushowA (G := G) hG hT h
  have hpa := pcr_uparse (G := G) hG hT hM k s hn hp (by omega)
  rw [h] at hpa
  unfold rUnit at hpa
  dsimp only at hpa
  have he := pcr_equnits (G := G) hG u h4 (by omega)
  have hui := ptsC_imm u
  have hul := ptsC_len u
  have hni := strs_imm k.names
  have hpi := strs_imm k.prefs
  unfold Kn.D at *
  refine pcr_byq ok14 hG (n := 23) (rv := [.tmp 4]) fun r hr => ?_; unfold c14 st0
  (have we1 := hui; have we2 := hni; have we3 := hpi; exact xwalkd3)
end Go.Proofs.YtgimaioeifnajaaGreatDoorK.TabT
