/-
  strings.Split, ReplaceAll, IndexByte, ContainsFunc: their contracts, out of the shelf's.
-/
import Derived.Test.YtgimaioeifnajaaGreatDoorKLb
import Derived.Test.YtgimaioeifnajaaGreatDoorKP
import Derived.Shelf.Strings.Split
import Derived.Shelf.Strings.Replace
import Derived.Shelf.Strings.FuncGrows
import Derived.Shelf.Small.Strs
import Derived.Shelf.Strings.PiecesUse
set_option linter.all false
set_option maxHeartbeats 4000000
namespace Go.Proofs.YtgimaioeifnajaaGreatDoorK.LibT
open AI Go.RowKit Go.Shelf Dig
variable {G : World → Prop}
def baL (l : List (List UInt8)) : List ByteArray := l.map fun x => ⟨⟨x⟩⟩
theorem baL_of {l : List ByteArray} {m : List (List UInt8)} (h : l.map (·.data.toList) = m) : l = baL m := by
  subst h
  rw [baL, List.map_map]
  refine (List.map_id'' (fun x => ?_) l).symm
  obtain ⟨⟨x⟩⟩ := x
  rfl
theorem lib_split (hM : ∀ w, G w → gMax w) (s : ByteArray) (c : UInt8) (hs : s.size < 1000000) :
    PCr Tryz.prog G 46 [.str s, .str ⟨⟨[c]⟩⟩] (.sl (spl c s.data.toList).length ((baL (spl c s.data.toList)).map .str)) := by
  intro w S vs hg hS hsz hvs
  rw [vs2 hsz, str_v (hvs 0 _ rfl), str_v (hvs 1 _ rfl)]
  obtain ⟨m, hm⟩ := hM w hg
  have hsp : Lib.splitB ⟨⟨[c]⟩⟩ 0 (Lib.countB s ⟨⟨[c]⟩⟩) s = baL (spl c s.data.toList) := baL_of ((Lib.splitB_data _ _ _ _).trans (splitK_spl c s.data.toList))
  have hl : Lib.countB s ⟨⟨[c]⟩⟩ + 1 = (spl c s.data.toList).length := by
    have := Lib.splitB_all ⟨⟨[c]⟩⟩ (Nat.le_refl 1) 0 _ s rfl
    rw [hsp, baL, List.length_map] at this
    exact this.symm
  have hle := Lib.countB_le ⟨⟨[c]⟩⟩ (Nat.le_refl 1) s.size s (Nat.le_refl _)
  refine (Any.strings_Split Tryz.lays146 (by kernel_rfl) s ⟨⟨[c]⟩⟩ m w (by omega) hm (Nat.le_refl 1)).mono ?_
  rintro e w' ⟨rfl, rfl⟩
  rw [hsp, hl]
  have hmx : maxLen = 9223372036854775807 := rfl
  refine ⟨_, rfl, .sl _ _ _ _ w.heap.size 0 (fun j => .string ((baL (spl c s.data.toList)).getD j ByteArray.empty)) (Nat.le_refl _) (by omega) (fun _ => rfl) (fun _ h => by have := hS _ h; omega) (fun j d hj => ?_) (fun j d hj => ?_), (Below.refl _ w).alloc (Nat.le_refl _) _⟩
  · rw [List.getElem?_map] at hj
    obtain ⟨x, hx, rfl⟩ := Option.map_eq_some_iff.1 hj
    rw [Nat.zero_add, cellv_of_block (heap_alloc_new w _)]
    simp [List.getD_eq_getElem?_getD, hx]
  · rw [List.getElem?_map] at hj
    obtain ⟨x, hx, rfl⟩ := Option.map_eq_some_iff.1 hj
    rw [List.getD_eq_getElem?_getD, hx]
    exact .str x
theorem pcg_split (hM : ∀ w, G w → gMax w) (s : ByteArray) (c : UInt8) (hs : s.size < 1000000) :
    PCg Tryz.prog G 46 [.str s, .str ⟨⟨[c]⟩⟩] [] (.own 0 0 0 (spl c s.data.toList).length) [some (0, 9, 1, (baL (spl c s.data.toList)).map .str)] := by
  intro R S K w vs hrel hK hG hfr hsz hvs
  rw [vs2 hsz, (hvs 0 _ rfl).str_inv, (hvs 1 _ rfl).str_inv]
  obtain ⟨m, hm⟩ := hM w (hG w (BelowK.refl _ _))
  have hsp : Lib.splitB ⟨⟨[c]⟩⟩ 0 (Lib.countB s ⟨⟨[c]⟩⟩) s = baL (spl c s.data.toList) := baL_of ((Lib.splitB_data _ _ _ _).trans (splitK_spl c s.data.toList))
  have hl : Lib.countB s ⟨⟨[c]⟩⟩ + 1 = (spl c s.data.toList).length := by
    have := Lib.splitB_all ⟨⟨[c]⟩⟩ (Nat.le_refl 1) 0 _ s rfl
    rw [hsp, baL, List.length_map] at this
    exact this.symm
  have hle := Lib.countB_le ⟨⟨[c]⟩⟩ (Nat.le_refl 1) s.size s (Nat.le_refl _)
  refine (Any.strings_Split Tryz.lays146 (by kernel_rfl) s ⟨⟨[c]⟩⟩ m w (by omega) hm (Nat.le_refl 1)).mono ?_
  rintro e w' ⟨rfl, rfl⟩
  rw [hsp, hl]
  have hmx : maxLen = 9223372036854775807 := rfl
  obtain ⟨l, hll⟩ : ∃ l, baL (spl c s.data.toList) = l := ⟨_, rfl⟩
  have hln : l.length = (spl c s.data.toList).length := by rw [← hll, baL, List.length_map]
  rw [hll]
  generalize (spl c s.data.toList).length = n at *
  subst hln
  obtain ⟨p1, p2⟩ := hrel_upd (R' := bindR R 0 0 (.at w.heap.size l.length 1)) (w' := w.alloc (.cells (l.map Value.string).toArray 9)) (b0 := 0) (ver := 0) (t := 9) (sz := 1) (cs := l.map .str) hrel
    (fun b v h => bindR_other (hfr 0 0 (Nat.zero_le _)) h) (fun b h => bindR_key h) (fun v' h => by unfold bindR; rw [if_neg (fun h => by omega)]; exact hfr 0 v' (Nat.zero_le _))
    (fun v g cap s' h => by
      unfold bindR at h
      split at h
      · cases h; simp
      · rw [hfr 0 v (Nat.zero_le _)] at h; cases h)
    (.inr (.inl ⟨w.heap.size, l.length, _, bindR_same, (fun h => by have := hK _ h; omega), heap_alloc_new w _, by simp, by omega, by simp, fun j d hj => by
      rw [List.getElem?_map] at hj
      obtain ⟨x, hx, rfl⟩ := Option.map_eq_some_iff.1 hj
      rw [Array.getD_eq_getD_getElem?]
      simp only [List.getElem?_toArray, List.getElem?_map, hx, Option.map_some, Option.getD_some]
      exact .imm (.str x), .inl (Nat.le_refl _)⟩)) (by simp) (fun k hk _ => Below.heap_alloc _ _ _ hk)
  refine ⟨_, _, rfl, ?_, .own 0 0 0 l.length w.heap.size l.length 1 0 bindR_same (by omega) (.inl (by simp)) (by omega), fun b ver h => bindR_other (hfr 0 0 (Nat.zero_le _)) h, fun b v hb => ?_, (BelowK.refl _ _).alloc hK _⟩
  · have e : updB (hv []) 0 (some (0, 9, 1, l.map .str)) = hv [some (0, 9, 1, l.map .str)] := by
      funext b
      unfold updB hv
      cases b <;> simp
    rw [← e]
    exact p1
  · have : b ≠ 0 := by simp at hb; omega
    rw [bindR_key this]
    exact hfr b v (Nat.zero_le _)
theorem rpl_same (c : UInt8) : ∀ l, rpl c [c] l = l
  | [] => rfl
  | x :: l => by
    rw [rpl, rpl_same c l]
    split
    · rename_i h
      have := UInt8.toNat_inj.1 (Nat.eq_of_beq_eq_true h)
      rw [this]; rfl
    · rfl
theorem lib_indexbyte (s : ByteArray) (c : Int) : PCr Tryz.prog G 172 [.str s, .int .u8 c] (.int .i64 (Lib.indexByte s.data.toList c.toNat.toUInt8)) := by
  intro w S vs hg hS hsz hvs
  rw [vs2 hsz, str_v (hvs 0 _ rfl), int_v (hvs 1 _ rfl)]
  refine (Any.strings_IndexByte Tryz.lays137 s c w).mono ?_
  rintro e w' ⟨rfl, rfl⟩
  exact ⟨_, rfl, .int _ _, Below.refl _ _⟩
theorem idx_ascii {p : Nat → Bool} {s : ByteArray} (ha : ∀ (i : Nat) (b : UInt8), s.data.toList[i]? = some b → b.toNat < 128) : ∀ (f pos : Nat), s.size ≤ pos + f → decide (0 ≤ Lib.idxFuncFrom p true s f pos) = (s.data.toList.drop pos).any fun b => p b.toNat
  | 0, pos, h => by
    have hl : s.data.toList.length = s.size := rfl
    rw [Lib.idxFuncFrom, List.drop_eq_nil_of_le (by omega)]
    rfl
  | f + 1, pos, h => by
    have hl : s.data.toList.length = s.size := rfl
    rw [Lib.idxFuncFrom]
    split
    · rename_i hp
      obtain ⟨b, hb⟩ : ∃ b, s.data.toList[pos]? = some b := ⟨_, List.getElem?_eq_getElem (by omega)⟩
      have hlt := ha pos b hb
      have hd : Utf8.decode s pos = (b.toNat, 1) := by
        have h0 : (s.get! (pos + 0)).toNat = b.toNat := by
          obtain ⟨⟨l⟩⟩ := s
          have hb' : l[pos]? = some b := hb
          show (l.toArray[pos]!).toNat = _
          simp [hb']
        unfold Utf8.decode
        simp only [h0]
        rw [if_pos (by omega)]
      have hdr : s.data.toList.drop pos = b :: s.data.toList.drop (pos + 1) := by
        rw [List.drop_eq_getElem_cons (by omega)]
        congr 1
        rw [List.getElem?_eq_getElem (by omega)] at hb
        exact Option.some.inj hb
      rw [hd, hdr, List.any_cons]
      dsimp only
      cases hpb : p b.toNat with
      | true => simp
      | false =>
        rw [if_neg (by simp), idx_ascii ha f (pos + 1) (by omega)]
        rfl
    · rw [List.drop_eq_nil_of_le (by omega)]
      rfl
end Go.Proofs.YtgimaioeifnajaaGreatDoorK.LibT
