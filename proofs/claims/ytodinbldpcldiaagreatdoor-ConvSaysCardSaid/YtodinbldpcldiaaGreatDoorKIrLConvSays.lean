/-
 The compiled bodies, printed: IrLConvSays.
-/
import Derived.Test.YtodinbldpcldiaaGreatDoorKSh
import Derived.Test.YtodinbldpcldiaaGreatDoorProg
set_option linter.all false
set_option maxHeartbeats 4000000
namespace Go.Proofs.YtodinbldpcldiaaGreatDoorK.NatIr
open AI Go.Proofs
def c3 : IR :=
 (xr [⟨(some 3), .box 28 3 (.t 0), none⟩, ⟨(some 4), .box 31 14 (.t 1), none⟩, ⟨(some 5), .box 31 14 (.t 2), none⟩, xkb 6 false]
 (.seq (xr [xc0 20 6, xn 21 20]
 (
 xd 21
 (xr [xkb 6 false]
 .ret)
 .skip))
 (xr [xg 23 14 4, xc1 24 7 23, xm 22 24, xe 25 22 0, xe 26 22 1, xe 27 22 2, ⟨(some 7), .new 35 15 [(.int .i64 0), (.int .i64 0), (.int .i64 0), (.int .i64 0), (.int .i64 0), (.int .i64 0), (.int .i64 0), (.int .i64 0), (.bool false), .nils, .nils, (.bool false), .nils, .nils, (.bool false)], none⟩, ⟨(some 8), .new 44 15 [(.int .i64 0), (.int .i64 0), (.int .i64 0), (.int .i64 0), (.int .i64 0), (.int .i64 0), (.int .i64 0), (.int .i64 0), (.bool false), .nils, .nils, (.bool false), .nils, .nils, (.bool false)], none⟩, xs 15 7 25, xs 15 8 26, xm 9 27]
 (xr [xg 29 14 5, xc1 30 7 29, xm 28 30, xe 31 28 0, xe 32 28 1, xe 33 28 2, ⟨(some 10), .new 35 15 [(.int .i64 0), (.int .i64 0), (.int .i64 0), (.int .i64 0), (.int .i64 0), (.int .i64 0), (.int .i64 0), (.int .i64 0), (.bool false), .nils, .nils, (.bool false), .nils, .nils, (.bool false)], none⟩, ⟨(some 11), .new 44 15 [(.int .i64 0), (.int .i64 0), (.int .i64 0), (.int .i64 0), (.int .i64 0), (.int .i64 0), (.int .i64 0), (.int .i64 0), (.bool false), .nils, .nils, (.bool false), .nils, .nils, (.bool false)], none⟩, xs 15 10 31, xs 15 11 32, xm 12 33]
 (.seq (xr [xm 34 9, xn 35 34, xm 36 35, xmg 37 12 36 false, xng 38 37 36 false, xpb 39 36 true 38, xm 40 39, ⟨(some 41), .load true 3 (.t 3), (some ((some 40), false))⟩, ⟨(some 42), .call 8 [(.t 41)], (some ((some 40), false))⟩, xpb 43 40 true 42]
 (
 xd 43
 (xr [xkb 6 true]
 .ret)
 .skip))
 (xr [xg 45 15 7, xg 46 15 10, xc2 47 9 45 46, xm 44 47, xe 48 44 0, xe 49 44 1, xm 13 48, xm 14 49]
 (xr [xg 50 15 8, xg 51 15 11, xc2 52 10 50 51, xm 15 52]
 (xr [xg 54 3 3, xg 55 15 7, xg 56 15 10, xc3 57 11 54 55 56, xm 53 57, xe 58 53 0, xe 59 53 1, ⟨(some 16), .new 28 3 [(.bool false), .nils, .nils], none⟩, xs 3 16 58, xm 17 59]
 (.seq (.reg true [xg 61 3 3, xc1 62 13 61, xg 63 15 8, xg 64 15 11, xc3 65 12 62 63 64, xm 60 65, xe 66 60 0, xe 67 60 1, ⟨(some 18), .new 42 3 [(.bool false), .nils, .nils], none⟩, xs 3 18 66, xm 19 67] [0, 1, 0, 0, 15, 31, 63, 63, 0, 383, 1023])
 (xr [xm 68 13, xm 69 15, xb 70 .eql 68 69, xm 71 70, xmg 72 14 71 true, xmg 73 15 71 true, xbg 74 .neq 73 0 71 true, ⟨(some 75), .beq false (.t 72) (.t 74), (some ((some 71), true))⟩, xp 76 71 75 false, xm 77 76, xmg 78 17 77 true, xmg 79 19 77 true, ⟨(some 80), .bin .eql (.t 78) (.t 79), (some ((some 77), true))⟩, xp 81 77 80 false, xm 82 81, xmg 83 17 82 true, xbg 84 .neq 83 0 82 true, xmg 85 84 82 true, ⟨(some 86), .load true 3 (.t 16), (some ((some 85), false))⟩, ⟨(some 87), .load true 3 (.t 18), (some ((some 85), false))⟩, ⟨(some 88), .call 14 [(.t 86), (.t 87)], (some ((some 85), false))⟩, ⟨(some 89), .pick (.t 85) (.c (.bool true)) (.t 88), (some ((some 82), true))⟩, xp 90 82 89 false, xm 6 90]
 .ret))))))))))
theorem ok3 : Tryz.f3.body.bind (comp Tryz.prog) = some c3 := by kernel_rfl
end Go.Proofs.YtodinbldpcldiaaGreatDoorK.NatIr
