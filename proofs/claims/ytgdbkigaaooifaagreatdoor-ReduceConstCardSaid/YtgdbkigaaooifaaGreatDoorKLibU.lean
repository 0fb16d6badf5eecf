/-
 strings.Split, ReplaceAll, IndexByte, ContainsFunc: their contracts, out of the shelf's.
-/
import Derived.Test.YtgdbkigaaooifaaGreatDoorKLb
import Derived.Test.YtgdbkigaaooifaaGreatDoorKP
import Derived.Shelf.Strings.Split
import Derived.Shelf.Strings.Replace
import Derived.Shelf.Strings.FuncGrows
import Derived.Shelf.Small.Strs
import Derived.Shelf.Strings.PiecesUse
set_option linter.all false
set_option maxHeartbeats 4000000
namespace Go.Proofs.YtgdbkigaaooifaaGreatDoorK.LibT
open AI Go.RowKit Go.Shelf Dig
variable {G : World → Prop}
def baL (l : List (List UInt8)) : List ByteArray := l.map fun x => ⟨⟨x⟩⟩
theorem baL_of {l : List ByteArray} {m : List (List UInt8)} (h : l.map (·.data.toList) = m) : l = baL m := by
 subst h
 rw [baL, List.map_map]
 refine (List.map_id'' (fun x => ?_) l).symm
 obtain ⟨⟨x⟩⟩ := x
 rfl
theorem lib_split (hM : ∀ w, G w → gMax w) (s : ByteArray) (c : UInt8) (hs : s.size < 1000000) :
  PCr Tryz.prog G 47 [.str s, .str ⟨⟨[c]⟩⟩] (.sl (spl c s.data.toList).length ((baL (spl c s.data.toList)).map .str)) := by
 intro w S vs hg hS hsz hvs
 rw [vs2 hsz, str_v (hvs 0 _ rfl), str_v (hvs 1 _ rfl)]
 obtain ⟨m, hm⟩ := hM w hg
 have hsp : Lib.splitB ⟨⟨[c]⟩⟩ 0 (Lib.countB s ⟨⟨[c]⟩⟩) s = baL (spl c s.data.toList) := baL_of ((Lib.splitB_data _ _ _ _).trans (splitK_spl c s.data.toList))
 have hl : Lib.countB s ⟨⟨[c]⟩⟩ + 1 = (spl c s.data.toList).length := by
  have := Lib.splitB_all ⟨⟨[c]⟩⟩ (Nat.le_refl 1) 0 _ s rfl
  rw [hsp, baL, List.length_map] at this
  exact this.symm
 have hle := Lib.countB_le ⟨⟨[c]⟩⟩ (Nat.le_refl 1) s.size s (Nat.le_refl _)
 refine (Any.strings_Split Tryz.lays146 (by kernel_rfl) s ⟨⟨[c]⟩⟩ m w (by omega) hm (Nat.le_refl 1)).mono ?_
 rintro e w' ⟨rfl, rfl⟩
 rw [hsp, hl]
 have hmx : maxLen = 9223372036854775807 := rfl
 refine ⟨_, rfl, .sl _ _ _ _ w.heap.size 0 (fun j => .string ((baL (spl c s.data.toList)).getD j ByteArray.empty)) (Nat.le_refl _) (by omega) (fun _ => rfl) (fun _ h => by have := hS _ h; omega) (fun j d hj => ?_) (fun j d hj => ?_), (Below.refl _ w).alloc (Nat.le_refl _) _⟩
 ·rw [List.getElem?_map] at hj
  obtain ⟨x, hx, rfl⟩ := Option.map_eq_some_iff.1 hj
  rw [Nat.zero_add, cellv_of_block (heap_alloc_new w _)]
  simp [List.getD_eq_getElem?_getD, hx]
 ·rw [List.getElem?_map] at hj
  obtain ⟨x, hx, rfl⟩ := Option.map_eq_some_iff.1 hj
  rw [List.getD_eq_getElem?_getD, hx]
  exact .str x
theorem idx_ascii {p : Nat → Bool} {s : ByteArray} (ha : ∀ (i : Nat) (b : UInt8), s.data.toList[i]? = some b → b.toNat < 128) : ∀ (f pos : Nat), s.size ≤ pos + f → decide (0 ≤ Lib.idxFuncFrom p true s f pos) = (s.data.toList.drop pos).any fun b => p b.toNat
 | 0, pos, h => by
  have hl : s.data.toList.length = s.size := rfl
  rw [Lib.idxFuncFrom, List.drop_eq_nil_of_le (by omega)]
  rfl
 | f + 1, pos, h => by
  have hl : s.data.toList.length = s.size := rfl
  rw [Lib.idxFuncFrom]
  split
  ·rename_i hp
   obtain ⟨b, hb⟩ : ∃ b, s.data.toList[pos]? = some b := ⟨_, List.getElem?_eq_getElem (by omega)⟩
   have hlt := ha pos b hb
   have hd : Utf8.decode s pos = (b.toNat, 1) := by
    have h0 : (s.get! (pos + 0)).toNat = b.toNat := by
     obtain ⟨⟨l⟩⟩ := s
     have hb' : l[pos]? = some b := hb
     show (l.toArray[pos]!).toNat = _
     simp [hb']
    unfold Utf8.decode
    simp only [h0]
    rw [if_pos (by omega)]
   have hdr : s.data.toList.drop pos = b :: s.data.toList.drop (pos + 1) := by
    rw [List.drop_eq_getElem_cons (by omega)]
    congr 1
    rw [List.getElem?_eq_getElem (by omega)] at hb
    exact Option.some.inj hb
   rw [hd, hdr, List.any_cons]
   dsimp only
   cases hpb : p b.toNat with
   | true => simp
   | false =>
    rw [if_neg (by simp), idx_ascii ha f (pos + 1) (by omega)]
    rfl
  ·rw [List.drop_eq_nil_of_le (by omega)]
   rfl
theorem lib_containsf (hG : Stable G) {g : FuncId} {p : Nat → Bool} (hg : okF Tryz.prog g = true) (hp : ∀ x : Nat, x ≤ 1114111 → PCr Tryz.prog G g [.int .i32 x] (.bool (p x))) (s : ByteArray) (ha : ∀ (i : Nat) (b : UInt8), s.data.toList[i]? = some b → b.toNat < 128) :
  PCr Tryz.prog G 49 [.str s, .fn g []] (.bool (s.data.toList.any fun b => p b.toNat)) := by
 intro w S vs hg' hS hsz hvs
 obtain ⟨caps, hv, hcl, _⟩ := (Rep.imm (R := fun _ _ => .no) (hvs 1 _ rfl)).fn_inv
 have hc0 : caps = #[] := by simpa using hcl
 subst hc0
 rw [vs2 hsz, str_v (hvs 0 _ rfl), hv]
 refine (Any.strings_ContainsFunc_grows Tryz.laysGw17 g #[] (fun args w => run_callFunc hg) p s w (fun W x hx hb => ?_)).mono ?_
 ·refine (hp x hx W (fun _ => False) _ (hG _ _ hg' hb) (fun _ h => h.elim) rfl (fun i d hi => ?_)).mono ?_
  ·cases i with
   | zero => cases hi; exact .int _ _
   | succ i => simp at hi
  ·rintro e w' ⟨v, rfl, hr, hb'⟩
   cases hr
   exact ⟨rfl, hb'⟩
 ·rintro e w' ⟨rfl, hb⟩
  refine ⟨_, rfl, ?_, hb⟩
  rw [Lib.idxFunc, idx_ascii ha _ _ (by omega), List.drop_zero]
  exact .bool _
end Go.Proofs.YtgdbkigaaooifaaGreatDoorK.LibT
