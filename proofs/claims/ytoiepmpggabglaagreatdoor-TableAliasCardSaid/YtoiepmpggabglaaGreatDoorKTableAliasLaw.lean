/-
 cubitlaw11.TableAlias answers true.
-/
import Derived.Test.YtoiepmpggabglaaGreatDoorKIrLTableAlias
import Derived.Test.YtoiepmpggabglaaGreatDoorKIrLaw11
import Derived.Test.YtoiepmpggabglaaGreatDoorKAwakeS11
import Derived.Test.YtoiepmpggabglaaGreatDoorKMm
import Derived.Test.YtoiepmpggabglaaGreatDoorKMetC
import Derived.Test.YtoiepmpggabglaaGreatDoorKRm
import Derived.Test.YtoiepmpggabglaaGreatDoorKTabP
set_option linter.all false
set_option maxHeartbeats 0
namespace Go.Proofs.YtoiepmpggabglaaGreatDoorK.LawT11
open AI NatIr Dig NatT LibT TabT EvT Go.Lib
attribute [local irreducible] awp awpOps
attribute [local go_sem] not_true_eq_false not_false_eq_true eq_self decide_true decide_false beq_self_eq_true Int.reduceAdd nl
variable {G : World → Prop}
theorem metR_sl : ∃ n cs, metR = .sl n cs := ⟨_, _, rfl⟩
theorem metT_str : ∃ s, metT = .str s := ⟨_, rfl⟩
def tblT : FuncId → FnE := BT.get (.n .e 6 (.ir c6 1 [.tmp 0]) .e)
theorem tblT_ok (hG : Stable G) (hT : ∀ w, G w → Lib.TabIs Tryz.prog w "internal/strconv.uint64pow10" .u64 Lib.pow10Tab) (hM : ∀ w, G w → LibT.gMax w) (f : FuncId) : (tblT f).ok Tryz.prog G f :=
 BT.get_ok (BT.ok_n BT.ok_e (irk ok6) BT.ok_e) f
theorem pcr_metric (hG : Stable G) (hT : ∀ w, G w → Lib.TabIs Tryz.prog w "internal/strconv.uint64pow10" .u64 Lib.pow10Tab) (hM : ∀ w, G w → LibT.gMax w) : PCr Tryz.prog G 6 [] metT :=
 evFR_ok (N := 1000) hG (tblT_ok hG hT hM) 30 _ _ _ (by kernel_rfl)
theorem pcr_load (hG : Stable G) (hT : ∀ w, G w → Lib.TabIs Tryz.prog w "internal/strconv.uint64pow10" .u64 Lib.pow10Tab) (hM : ∀ w, G w → LibT.gMax w) : PCr Tryz.prog G 5 [metT] (.tup [mtab.D, .int .i64 0, .int .i64 0]) := by
 have h1 := pcr_MetA hG hT hM
 have h2 := pcr_MetC hG hT hM
 rw [mtab_D] at h2
 obtain ⟨n, cs, hR⟩ := metR_sl
 obtain ⟨ts, hts⟩ := metT_str
 obtain ⟨ds, hds⟩ : ∃ ds, mtab.D = .rp ds := ⟨_, rfl⟩
 generalize metR = mr at *
 generalize metT = mt at *
 generalize mtab.D = md at *
 subst hR hts hds
 refine pcr_byq ok5 hG (n := 22) (rv := [.tmp 2, .tmp 3, .tmp 4]) fun r hr => ?_; unfold c5 st0
 (exact xwalkd)
/-! ### the same words -/
def kphD : Wd := ⟨#[107, 112, 104, 45]⟩
def kpsD : Wd := ⟨#[107, 105, 108, 111, 109, 101, 116, 101, 114, 45, 112, 101, 114, 45, 115, 101, 99, 111, 110, 100, 45]⟩
def kph : Wd := ⟨⟨[107, 112, 104]⟩⟩
def kilometer : Wd := ⟨⟨[107, 105, 108, 111, 109, 101, 116, 101, 114]⟩⟩
def per : Wd := ⟨⟨[112, 101, 114]⟩⟩
def second : Wd := ⟨⟨[115, 101, 99, 111, 110, 100]⟩⟩
theorem spl_cons {c x : UInt8} {l : List UInt8} (h : Nat.beq x.toNat c.toNat = false) {a : List UInt8} {t : List (List UInt8)} (hs : spl c l = a :: t) : spl c (x :: l) = (x :: a) :: t := by
 rw [spl, h, hs]
theorem spl_eq {c x : UInt8} {l : List UInt8} (h : Nat.beq x.toNat c.toNat = true) : spl c (x :: l) = [] :: spl c l := by rw [spl, h]
theorem spl_pre {c : UInt8} : ∀ {p : List UInt8}, (∀ x ∈ p, Nat.beq x.toNat c.toNat = false) → ∀ l, spl c (p ++ c :: l) = p :: spl c l
 | [], _, l => spl_eq (Nat.beq_refl _)
 | x :: p, h, l => by
  rw [List.cons_append]
  exact spl_cons (h x List.mem_cons_self) (spl_pre (fun y hy => h y (List.mem_cons_of_mem _ hy)) l)
theorem words_kph (r : Wd) : words (kphD ++ r) = kph :: words r := by
 unfold words
 have e : (kphD ++ r).data.toList = [107, 112, 104] ++ 45 :: r.data.toList := by rw [ByteArray.data_append, Array.toList_append]; rfl
 rw [e, spl_pre (by decide)]
 rfl
theorem words_kps (r : Wd) : words (kpsD ++ r) = kilometer :: per :: second :: words r := by
 unfold words
 have e : (kpsD ++ r).data.toList = [107, 105, 108, 111, 109, 101, 116, 101, 114] ++ 45 :: ([112, 101, 114] ++ 45 :: ([115, 101, 99, 111, 110, 100] ++ 45 :: r.data.toList)) := by rw [ByteArray.data_append, Array.toList_append]; rfl
 rw [e, spl_pre (by decide), spl_pre (by decide), spl_pre (by decide)]
 rfl
theorem repl_kph : mtab.repl kph = J [kilometer, per, second] := by kernel_rfl
theorem repl_kps : mtab.repl kilometer = kilometer ∧ mtab.repl per = per ∧ mtab.repl second = second := by
 refine ⟨by kernel_rfl, by kernel_rfl, by kernel_rfl⟩
theorem alias_same (r : Wd) (hr : r.size ≤ 150) : tabA mtab (kphD ++ r) = tabA mtab (kpsD ++ r) := by
 have h1 : (kphD ++ r).size ≤ 154 := by rw [ByteArray.size_append, show kphD.size = 4 from rfl]; omega
 have h2 : (kpsD ++ r).size ≤ 171 := by rw [ByteArray.size_append, show kpsD.size = 21 from rfl]; omega
 unfold tabA splW
 rw [if_neg (show ¬ 256 < (kphD ++ r).size by omega), if_neg (show ¬ 256 < (kpsD ++ r).size by omega), words_kph, words_kps]
 have g1 : goodW kph = true := by decide
 have g2 : goodW kilometer = true ∧ goodW per = true ∧ goodW second = true := by decide
 simp only [List.all_cons, g1, g2, Bool.true_and]
 have hne := words_ne r
 by_cases hg : (words r).all goodW = true
 ·rw [if_pos hg, if_pos hg]
  dsimp only
  rw [List.map_cons, List.map_cons, List.map_cons, List.map_cons, repl_kph, repl_kps.1, repl_kps.2.1, repl_kps.2.2]
  have hm : (words r).map mtab.repl ≠ [] := by simpa using hne
  have : J (J [kilometer, per, second] :: (words r).map mtab.repl) = J (kilometer :: per :: second :: (words r).map mtab.repl) := by
   refine ba_ext ?_
   rw [J_data, J_data, show J [kilometer, per, second] :: (words r).map mtab.repl = [J [kilometer, per, second]] ++ (words r).map mtab.repl from rfl, jn_app (by simp) hm, jn_one, J_data,
    show kilometer :: per :: second :: (words r).map mtab.repl = [kilometer, per, second] ++ (words r).map mtab.repl from rfl, jn_app (by simp) hm]
  rw [this]
 ·rw [if_neg hg, if_neg hg]
theorem tabA_unit {t : Tab} {s : Wd} {u : List Pt} (h : tabA t s = .ok u) : ∃ x, unitA t.kn x = .ok u := by
 unfold tabA at h
 split at h
 ·cases h
 ·exact ⟨_, h⟩
theorem mtab_small : mtab.names.length < 1000000 ∧ mtab.prefs.length < 1000000 ∧ ∀ p ∈ mtab.old, p.2.size ≤ 256 := by
 refine ⟨by decide, by decide, ?_⟩
 have : mtab.old.all (fun p => decide (p.2.size ≤ 256)) = true := by decide
 exact fun p hp => of_decide_eq_true (List.all_eq_true.1 this p hp)
theorem pcr_alias_law (hG : Stable G) (hT : ∀ w, G w → Lib.TabIs Tryz.prog w "internal/strconv.uint64pow10" .u64 Lib.pow10Tab) (hM : ∀ w, G w → LibT.gMax w) (r0 : ByteArray) (hs : r0.size ≤ 9223372036854775807) :
  PCr Tryz.prog G 3 [.str r0] (.bool true) := by
 have haw := pcr_awake hG hT hM
 by_cases h150 : 150 < r0.size
 ·refine pcr_byq ok3 hG (n := 51) (rv := [.tmp 2]) fun r hr => ?_; unfold c3 st0
  (exact xwalkd)
 have hme := pcr_metric (G := G) hG hT hM
 have hlo := pcr_load hG hT hM
 have h1 : (kphD ++ r0).size = 4 + r0.size := ByteArray.size_append
 have h2 : (kpsD ++ r0).size = 21 + r0.size := ByteArray.size_append
 have ha := pcr_tparse (G := G) hG hT hM mtab (kphD ++ r0) (by omega) mtab_small.1 mtab_small.2.1 mtab_small.2.2
 have hb := pcr_tparse (G := G) hG hT hM mtab (kpsD ++ r0) (by omega) mtab_small.1 mtab_small.2.1 mtab_small.2.2
 rw [alias_same r0 (by omega)] at ha
 have hz1 : (#[107, 112, 104, 45] : Array UInt8).size = 4 := rfl
 have hz2 : (#[107, 105, 108, 111, 109, 101, 116, 101, 114, 45, 112, 101, 114, 45, 115, 101, 99, 111, 110, 100, 45] : Array UInt8).size = 21 := rfl
 obtain ⟨ts, hts⟩ := metT_str
 obtain ⟨ds, hds⟩ : ∃ ds, mtab.D = .rp ds := ⟨_, rfl⟩
 cases hu : tabA mtab (kpsD ++ r0) with
 | error e =>
  have hsh := pcr_ushow (G := G) hG hT [] (fun p hp => by cases hp) (by decide) (by decide)
  rw [hu] at ha hb
  unfold rUnit at ha hb
  dsimp only at ha hb
  rw [show ptsC [] = [] from rfl, List.length_nil] at hsh
  generalize unitS [] = us at *
  clear hu
  unfold kphD at ha
  unfold kpsD at hb
  generalize metT = mt at *
  generalize mtab.D = md at *
  subst hts hds
  refine pcr_byq ok3 hG (n := 51) (rv := [.tmp 2]) fun r hr => ?_; unfold c3 st0
  (exact xwalkd)
 | ok u =>
  obtain ⟨x, hx⟩ := tabA_unit hu
  have hsh := pcr_ushowA (G := G) hG hT hx
  have hui := ptsC_imm u
  rw [hu] at ha hb
  unfold rUnit at ha hb
  dsimp only at ha hb
  clear hu hx
  unfold kphD at ha
  unfold kpsD at hb
  generalize metT = mt at *
  generalize mtab.D = md at *
  subst hts hds
  refine pcr_byq ok3 hG (n := 51) (rv := [.tmp 2]) fun r hr => ?_; unfold c3 st0
  (have we1 := hui; exact xwalkd1)
end Go.Proofs.YtoiepmpggabglaaGreatDoorK.LawT11
