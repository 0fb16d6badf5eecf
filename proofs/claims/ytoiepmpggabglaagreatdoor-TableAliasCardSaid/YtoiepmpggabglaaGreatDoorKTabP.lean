/-
 Package table: Parse: what it computes.
-/
import Derived.Test.YtoiepmpggabglaaGreatDoorKIrTable
import Derived.Test.YtoiepmpggabglaaGreatDoorKIrX
import Derived.Test.YtoiepmpggabglaaGreatDoorKUi
import Derived.Test.YtoiepmpggabglaaGreatDoorKTa
set_option linter.all false
set_option maxHeartbeats 0
namespace Go.Proofs.YtoiepmpggabglaaGreatDoorK.TabT
open AI NatIr Dig NatT LibT Go.Lib
attribute [local irreducible] awp awpOps
attribute [local go_sem] not_true_eq_false not_false_eq_true eq_self decide_true decide_false beq_self_eq_true Int.reduceAdd nl D.key
variable {G : World → Prop}
theorem pcg_wsplit (hG : Stable G) (hM : ∀ w, G w → gMax w) (s : Wd) (l : List Wd) (h : splW s = .ok l) : PCg Tryz.prog G 13 [.str s] [] (.tup [.own 0 0 0 l.length, .int .i64 0]) [some (0, 9, 1, l.map .str)] := by
 have h256 : ¬ 256 < s.size := fun hc => by unfold splW at h; rw [if_pos hc] at h; cases h
 have hall : (words s).all goodW = true ∧ words s = l := by
  unfold splW at h
  rw [if_neg h256] at h
  split at h
  ·rename_i hc; cases h; exact ⟨hc, rfl⟩
  ·cases h
 obtain ⟨hall, rfl⟩ := hall
 have hsp := pcg_split (G := G) hM s 45 (by omega)
 rw [show (⟨⟨[45]⟩⟩ : ByteArray) = ⟨#[45]⟩ from rfl, show (baL (spl 45 s.data.toList)) = words s from rfl, show (spl 45 s.data.toList).length = (words s).length by simp [words]] at hsp
 have hwl := (words_len (s := s)).1
 have hlb : (words s).length < 1000000 := by have := (words_len (s := s)).2; omega
 clear h
 generalize words s = l at *
 have hgood : ∀ i (h : i < l.length), PCr Tryz.prog G 32 [.str l[i]] (.bool true) := fun i h => by
  have h1 := pcr_wgood (G := G) hG l[i] (by have := hwl l[i] (List.getElem_mem h); omega)
  rwa [List.all_eq_true.1 hall _ (List.getElem_mem h)] at h1
 have hll : (l.map D.str).length = l.length := List.length_map ..
 have hki := kbs_of_imm (k := 1) (strs_imm l)
 have hren : ∀ κ, (l.map D.str).map (D.ren κ) = l.map .str := fun κ => map_imm (strs_imm l)
 refine pcg_by (fn := Tryz.f13) (n := 23) (rv := [.tmp 2, .tmp 3]) (by kernel_rfl) ok13 (by kernel_rfl) (by decide) (by kernel_rfl) (by simp) (by kernel_rfl) (by simp) (fun r hh hr hhe => ?_); unfold c13
 (refine xwalk ?_)
 refine xcr [0] hsp rfl (by simp [kb]) rfl trivial (by simp only [D.ren, List.getD_cons_zero]; rfl) (by simp only [List.map_cons, List.map_nil, renB, rens_map, hren]; rfl) ?_
 (refine xwalk ?_)
 refine awp_loop (fun k σ => ∃ i, i ≤ l.length ∧ k = l.length - i ∧ σ = ⟨(putE (putE (putE (putE un0 (some 4) (.own 0 0 0 l.length)) (some 12) (.own 0 0 0 l.length)) (some 13) (.int .i64 (l.length : Int))) (some 14) (.int .i64 (i : Int))), [some (0, 9, 1, l.map .str)]⟩) l.length ?_ ⟨0, Nat.zero_le _, rfl, rfl⟩ ?_
 ·refine Ent.env (less_put (less_put (less_put (less_put (less_un0 _) ?_) ?_) ?_) ?_)
  iterate 4 (· exact xlqi)
 rintro k σ1 ⟨i, hi, rfl, rfl⟩
 by_cases hlt : i < l.length
 ·have hgi := hgood i hlt
  have hget : (l.map D.str).getD i .un = .str l[i] := by simp [List.getD_eq_getElem?_getD, hlt]
  clear hgood hwl
  generalize l[i] = w at *
  (have we1 := hget; refine xwalk1 ?_)
  refine ⟨l.length - (i + 1), _, by omega, ?_, i + 1, by omega, rfl, rfl⟩
  refine Ent.env (less_put (less_put (less_put (less_put (less_un0 _) ?_) ?_) ?_) ?_)
  iterate 4 (· exact xlqi)
 ·clear hgood hwl
  (refine xwalk ?_)
  subst hr hhe
  exact resg_ret (l := []) rfl rfl (by simp [kb, kb.kbs]) ⟨hki, trivial⟩
def Tab.repl (t : Tab) (w : Wd) : Wd := (getS w t.old).getD w
def Tab.kn (t : Tab) : Kn := ⟨t.names, t.prefs⟩
def tabA (t : Tab) (s : Wd) : Except Int (List Pt) := match splW s with
 | .error e => .error e
 | .ok l => unitA t.kn (J (l.map t.repl))
theorem pcr_tparse (hG : Stable G) (hT : ∀ w, G w → Lib.TabIs Tryz.prog w "internal/strconv.uint64pow10" .u64 Lib.pow10Tab) (hM : ∀ w, G w → gMax w) (t : Tab) (s : Wd) (hs : s.size < 100000) (hn : t.names.length < 1000000) (hp : t.prefs.length < 1000000) (ho : ∀ p ∈ t.old, p.2.size ≤ 256) :
  PCr Tryz.prog G 7 [t.D, .str s] (rUnit (tabA t s)) := by
 unfold tabA
 cases hw : splW s with
 | error e =>
  have he : e ≠ 0 := by
   unfold splW at hw
   split at hw
   ·cases hw; decide
   ·split at hw
    ·cases hw
    ·cases hw; decide
  have hsp := pcr_wsplit (G := G) hG hM s (by omega)
  rw [hw] at hsp
  unfold rSpl at hsp
  unfold rUnit
  dsimp only at hsp ⊢
  obtain ⟨cs, hcs⟩ : ∃ cs, t.D = .rp cs := ⟨_, rfl⟩
  rw [hcs]
  refine pcr_byq ok7 hG (n := 52) (rv := [.cell 4 true 1, .tmp 5]) fun r hr => ?_; unfold c7 st0
  (exact xwalkd)
 | ok l =>
  have hsp := pcg_wsplit (G := G) hG hM s l hw
  have hl2 : l = words s ∧ s.size ≤ 256 := by
   unfold splW at hw
   split at hw
   ·cases hw
   ·split at hw
    ·cases hw; exact ⟨rfl, by omega⟩
    ·cases hw
  have hwl := words_len (s := s)
  rw [← hl2.1] at hwl
  have hrs : ∀ w ∈ l, (t.repl w).size ≤ 256 := fun w hw => by
   unfold Tab.repl
   cases hg : getS w t.old with
   | none => have := hwl.1 w hw; rw [Option.getD_none]; omega
   | some x => exact ho _ (getS_mem hg)
  have hjl : (jn (l.map t.repl)).length ≤ 66049 := by
   have h1 := jn_len (M := 256) (l := l.map t.repl) (fun x hx => by
    obtain ⟨w, hw, rfl⟩ := List.mem_map.1 hx
    exact hrs w hw)
   rw [List.length_map] at h1
   have h2 : l.length * (256 + 1) ≤ 257 * (256 + 1) := Nat.mul_le_mul_right _ (by omega)
   omega
  have hjo := lib_join (G := G) (l.map t.repl) ⟨#[45]⟩ l.length (by rw [List.length_map]) (by rw [List.length_map]; omega) (Nat.le_trans hjl (by omega))
  rw [J_lib] at hjo
  have hpa := pcr_uparse (G := G) hG hT hM t.kn (J (l.map t.repl)) hn hp (by unfold J; rw [ba_size]; omega)
  dsimp only
  have hlk : ∀ w, lookD (.str w) (kvS (t.old.map fun p => (p.1, D.str p.2))) = some ((getS w t.old).map D.str) := fun w => by rw [look_kvS, getS_map (fun _ x => D.str x)]
  have hrp : ∀ w, t.repl w = (getS w t.old).getD w := fun _ => rfl
  have hll : l.length < 1000000 := by omega
  clear hw hwl hl2 hrs hjl ho
  generalize unitA t.kn (J (l.map t.repl)) = ur at *
  unfold Tab.kn Kn.D at hpa
  dsimp only at hpa
  unfold Tab.D
  generalize kvS (t.old.map fun p => (p.1, D.str p.2)) = kvs at *
  generalize kvS (t.E.map fun p => (p.1, entD p.1 p.2)) = k1 at *
  generalize kvS (t.E.map fun p => (p.1, sumE p.2)) = k2 at *
  generalize kvS (t.P.map fun p => (p.1, RatT.QD p.2)) = k3 at *
  have hni := strs_imm t.names
  have hpi := strs_imm t.prefs
  generalize t.names.map D.str = cN at *
  generalize t.prefs.map D.str = cP at *
  refine pcr_byq ok7 hG (n := 52) (rv := [.cell 4 true 1, .tmp 5]) fun r hr => ?_; unfold c7 st0
  (refine xwalk ?_)
  have hren : ∀ κ, (l.map D.str).map (D.ren κ) = l.map .str := fun κ => map_imm (strs_imm l)
  refine xcr [1] hsp rfl (by simp [kb]) rfl trivial (by simp only [D.ren, D.ren.rens, List.getD_cons_zero]; rfl) (by simp only [List.map_cons, List.map_nil, renB, rens_map, hren]; rfl) ?_
  (refine xwalk ?_)
  refine awp_loop (fun j σ => ∃ i, i ≤ l.length ∧ j = l.length - i ∧ σ = ⟨(putE (putE (putE (putE (putE (putE un0 (some 0) (.rp [.sl t.names.length cN, .sl t.prefs.length cP, .mf k1, .mf k2, .mf k3, .mf kvs, t.nm, t.cl, .int .i64 t.bases])) (some 4) (.ptr 0 0 0)) (some 6) (.own 1 0 0 l.length)) (some 21) (.own 1 0 0 l.length)) (some 22) (.int .i64 (l.length : Int))) (some 23) (.int .i64 (i : Int))), [some (0, 30, 1, [.nils]), some (0, 9, 1, ((l.take i).map t.repl ++ l.drop i).map .str)]⟩) l.length ?_ ⟨0, Nat.zero_le _, rfl, rfl⟩ ?_
  ·rw [List.take_zero, List.map_nil, List.nil_append, List.drop_zero]
   refine Ent.cutk 2 (less_put (less_put (less_put (less_put (less_put (less_put (less_un0 _) ?_) ?_) ?_) ?_) ?_) ?_) ⟨.inr rfl, .inr rfl, trivial⟩ (kb_put (kb_put (kb_put (kb_put (kb_put (kb_put (kb_un0 _) (by simp [kb])) (by simp [kb])) (by simp [kb])) (by simp [kb])) (by simp [kb])) (by simp [kb])) ⟨by simp [kb.kbs, kb], kbs_of_imm (strs_imm _), trivial⟩
   iterate 6 (· exact xlqi)
  rintro j σ1 ⟨i, hi, rfl, rfl⟩
  by_cases hlt : i < l.length
  ·have hd : l.drop i = l[i] :: l.drop (i + 1) := List.drop_eq_getElem_cons hlt
   have hti : ((l.take i).map t.repl).length = i := by rw [List.length_map, List.length_take]; omega
   have hnx : (l.take (i + 1)).map t.repl ++ l.drop (i + 1) = (l.take i).map t.repl ++ (t.repl l[i] :: l.drop (i + 1)) := by rw [List.take_succ_eq_append_getElem hlt, List.map_append, List.append_assoc]; rfl
   have hLl : (((l.take i).map t.repl ++ l.drop i).map D.str).length = l.length := by rw [List.length_map, List.length_append, hti, List.length_drop]; omega
   rw [hd] at hLl ⊢
   have hlw := hlk l[i]
   have hrw := hrp l[i]
   generalize l[i] = w at *
   generalize hA : (l.take i).map t.repl = A at *
   generalize hB : l.drop (i + 1) = B at *
   have hget : ((A ++ w :: B).map D.str).getD i .un = .str w := by
    rw [List.getD_eq_getElem?_getD, List.getElem?_map, ← hti, List.getElem?_append_right (Nat.le_refl _), Nat.sub_self]; rfl
   have hset : ∀ x, ((A ++ w :: B).map D.str).set i (.str x) = (A ++ x :: B).map .str := fun x => by
    rw [List.map_append, List.set_append_right _ _ (by rw [List.length_map]; omega), List.length_map, hti, Nat.sub_self, List.map_append]; rfl
   cases hg : getS w t.old with
   | none =>
    rw [hg] at hlw hrw
    rw [Option.getD_none] at hrw
    simp only [Option.map_none] at hlw
    clear hlk hrp hpa hjo
    (have we1 := hget; have we2 := hlw; have we3 := hLl; refine xwalk3 ?_)
    refine ⟨l.length - (i + 1), _, by omega, ?_, i + 1, by omega, rfl, rfl⟩
    rw [hB, hnx, hrw]
    refine Ent.cutk 2 (less_put (less_put (less_put (less_put (less_put (less_put (less_un0 _) ?_) ?_) ?_) ?_) ?_) ?_) ⟨.inr rfl, .inr rfl, trivial⟩ (kb_put (kb_put (kb_put (kb_put (kb_put (kb_put (kb_un0 _) (by simp [kb])) (by simp [kb])) (by simp [kb])) (by simp [kb])) (by simp [kb])) (by simp [kb])) ⟨by simp [kb.kbs, kb], kbs_of_imm (strs_imm _), trivial⟩
    iterate 6 (· exact xlqi)
   | some x =>
    have hsx := hset x
    rw [hg] at hlw hrw
    rw [Option.getD_some] at hrw
    simp only [Option.map_some] at hlw
    clear hlk hrp hpa hjo hset
    (have we1 := hget; have we2 := hlw; have we3 := hLl; have we4 := hsx; refine xwalk4 ?_)
    refine ⟨l.length - (i + 1), _, by omega, ?_, i + 1, by omega, rfl, rfl⟩
    rw [hB, hnx, hrw]
    refine Ent.cutk 2 (less_put (less_put (less_put (less_put (less_put (less_put (less_un0 _) ?_) ?_) ?_) ?_) ?_) ?_) ⟨.inr rfl, .inr rfl, trivial⟩ (kb_put (kb_put (kb_put (kb_put (kb_put (kb_put (kb_un0 _) (by simp [kb])) (by simp [kb])) (by simp [kb])) (by simp [kb])) (by simp [kb])) (by simp [kb])) ⟨by simp [kb.kbs, kb], kbs_of_imm (strs_imm _), trivial⟩
    iterate 6 (· exact xlqi)
  ·obtain rfl : i = l.length := by omega
   rw [List.take_length, List.drop_length, List.append_nil]
   have hln : ((l.map t.repl).map D.str).length = l.length := by rw [List.length_map, List.length_map]
   have htk : ((l.map t.repl).map D.str).take l.length = (l.map t.repl).map .str := List.take_of_length_le (by omega)
   have hai := strs_imm (l.map t.repl)
   clear hlk hrp
   cases ur with
   | error e =>
    unfold rUnit at hpa hr
    dsimp only at hpa hr
    (have we1 := hln; have we2 := htk; have we3 := hai; have we4 := hni; have we5 := hpi; exact xwalkd5)
   | ok u =>
    have hui := ptsC_imm u
    unfold rUnit at hpa hr
    dsimp only at hpa hr
    (have we1 := hln; have we2 := htk; have we3 := hai; have we4 := hui; have we5 := hni; have we6 := hpi; exact xwalkd6)
end Go.Proofs.YtoiepmpggabglaaGreatDoorK.TabT
