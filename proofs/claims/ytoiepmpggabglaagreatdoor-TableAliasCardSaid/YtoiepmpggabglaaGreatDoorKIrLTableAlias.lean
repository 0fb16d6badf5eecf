/-
 The compiled bodies, printed: IrLTableAlias.
-/
import Derived.Test.YtoiepmpggabglaaGreatDoorKSh
import Derived.Test.YtoiepmpggabglaaGreatDoorProg
set_option linter.all false
set_option maxHeartbeats 4000000
namespace Go.Proofs.YtoiepmpggabglaaGreatDoorK.NatIr
open AI Go.Proofs
def c3 : IR :=
 (xr [xkb 2 false]
 (.seq (xr [xc0 10 4, xn 11 10]
 (
 xd 11
 (xr [xkb 2 false]
 .ret)
 .skip))
 (.seq (xr [xm 12 0, xS 13 12, xbk 14 .gtr 13 150]
 (
 xd 14
 (xr [xkb 2 true]
 .ret)
 .skip))
 (xr [xc0 16 6, xc1 17 5 16, xm 15 17, xe 18 15 0, xe 19 15 1, xe 20 15 2, xm 3 18, xm 4 19, xm 5 20]
 (.seq (xr [xm 21 5, xbk 22 .neq 21 0, xm 23 22, xmg 24 3 23 false, ⟨(some 25), .isnil false 0 (.t 24), (some ((some 23), false))⟩, xpb 26 23 true 25]
 (
 xd 26
 (xr [xkb 2 false]
 .ret)
 .skip))
 (xr [xm 28 3, xm 29 0, ⟨(some 30), .bin .add (.c (.str ⟨#[107, 112, 104, 45]⟩)) (.t 29), none⟩, xc2 31 7 28 30, xm 27 31, xe 32 27 0, xe 33 27 1, ⟨(some 6), .new 30 1 [.nils], none⟩, xs 1 6 32, xm 7 33]
 (xr [xm 35 3, xm 36 0, ⟨(some 37), .bin .add (.c (.str ⟨#[107, 105, 108, 111, 109, 101, 116, 101, 114, 45, 112, 101, 114, 45, 115, 101, 99, 111, 110, 100, 45]⟩)) (.t 36), none⟩, xc2 38 7 35 37, xm 34 38, xe 39 34 0, xe 40 34 1, ⟨(some 8), .new 30 1 [.nils], none⟩, xs 1 8 39, xm 9 40]
 (.seq (.reg true [xm 41 7, xm 42 9, xb 43 .eql 41 42, xm 44 43, ⟨(some 45), .load true 1 (.t 6), (some ((some 44), true))⟩, ⟨(some 46), .call 8 [(.t 45)], (some ((some 44), true))⟩, ⟨(some 47), .load true 1 (.t 8), (some ((some 44), true))⟩, ⟨(some 48), .call 8 [(.t 47)], (some ((some 44), true))⟩, ⟨(some 49), .bin .eql (.t 46) (.t 48), (some ((some 44), true))⟩, xp 50 44 49 false, xm 2 50] [0, 0, 3, 7, 15, 31, 15, 127, 255, 511, 1023])
 .ret))))))))
theorem ok3 : Tryz.f3.body.bind (comp Tryz.prog) = some c3 := by kernel_rfl
end Go.Proofs.YtoiepmpggabglaaGreatDoorK.NatIr
