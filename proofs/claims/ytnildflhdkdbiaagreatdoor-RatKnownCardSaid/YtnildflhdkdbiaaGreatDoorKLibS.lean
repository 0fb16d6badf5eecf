/-
  strings.CutPrefix, strings.Cut: their contracts, out of the shelf's.
-/
import Derived.Test.YtnildflhdkdbiaaGreatDoorKLib
import Derived.Shelf.Small.Wraps
import Derived.Shelf.Strings.Cut
import Derived.Test.YtnildflhdkdbiaaGreatDoorKP
set_option linter.all false
set_option linter.unusedVariables false
set_option linter.unusedSimpArgs false
set_option maxHeartbeats 4000000
namespace Go.Proofs.YtnildflhdkdbiaaGreatDoorK.LibT
open Go.Proofs.YtnildflhdkdbiaaGreatDoorK.AI Go.RowKit Go.Shelf
variable {G : World → Prop}
theorem lib_cutprefix (s p : ByteArray) : PCr Tryz.prog G 102 [.str s, .str p] (.tup [.str ⟨(Lib.trimPrefix s.data.toList p.data.toList).toArray⟩, .bool (Lib.hasPrefix s.data.toList p.data.toList)]) := by
  intro w S vs hg hS hsz hvs
  rw [vs2 hsz, str_v (hvs 0 _ rfl), str_v (hvs 1 _ rfl)]
  refine (Any.strings_CutPrefix Tryz.lays103 s p w).mono ?_
  rintro e w' ⟨rfl, rfl⟩
  refine ⟨_, rfl, .tup _ _ rfl (fun j d hj => ?_), Below.refl _ _⟩
  match j, hj with
  | 0, hj => cases hj; exact .str _
  | 1, hj => cases hj; exact .bool _
/-- The library's own variable holds a number. -/
def gMax (w : World) : Prop := ∃ m, w.cell? ⟨Tryz.lays145_ren.g 1, 0, none⟩ = some (.int .i64 m)
theorem gMax_stable : Stable gMax := by
  rintro w w' ⟨m, hm⟩ hB
  have hlt := World.block_lt_of_cell? w _ hm
  refine ⟨m, ?_⟩
  rw [← hm]
  simp only [World.cell?]
  rw [hB.block _ hlt]
theorem lib_cut (hM : ∀ w, G w → gMax w) (s sep : ByteArray) (hs : s.size < 4294967281) :
    PCr Tryz.prog G 114 [.str s, .str sep] (.tup [.str ⟨(Lib.cut s.data.toList sep.data.toList).1.toArray⟩, .str ⟨(Lib.cut s.data.toList sep.data.toList).2.1.toArray⟩, .bool (Lib.cut s.data.toList sep.data.toList).2.2]) := by
  intro w S vs hg hS hsz hvs
  rw [vs2 hsz, str_v (hvs 0 _ rfl), str_v (hvs 1 _ rfl)]
  obtain ⟨m, hm⟩ := hM w hg
  refine (Any.strings_Cut Tryz.lays145 s sep m w hs hm).mono ?_
  rintro e w' ⟨rfl, n, rfl⟩
  refine ⟨_, rfl, .tup _ _ rfl (fun j d hj => ?_), ⟨rfl, rfl, rfl, Nat.le_refl _, fun _ _ => rfl⟩⟩
  match j, hj with
  | 0, hj => cases hj; exact .str _
  | 1, hj => cases hj; exact .str _
  | 2, hj => cases hj; exact .bool _
end Go.Proofs.YtnildflhdkdbiaaGreatDoorK.LibT
