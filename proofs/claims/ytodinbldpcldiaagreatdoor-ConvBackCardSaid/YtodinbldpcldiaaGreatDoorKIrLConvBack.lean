/-
 The compiled bodies, printed: IrLConvBack.
-/
import Derived.Test.YtodinbldpcldiaaGreatDoorKSh
import Derived.Test.YtodinbldpcldiaaGreatDoorProg
set_option linter.all false
set_option maxHeartbeats 4000000
namespace Go.Proofs.YtodinbldpcldiaaGreatDoorK.NatIr
open AI Go.Proofs
def c4 : IR :=
 (xr [⟨(some 4), .box 28 3 (.t 0), none⟩, ⟨(some 5), .box 31 14 (.t 1), none⟩, ⟨(some 6), .box 31 14 (.t 2), none⟩, ⟨(some 7), .box 31 14 (.t 3), none⟩, xkb 8 false]
 (.seq (xr [xc0 26 6, xn 27 26]
 (
 xd 27
 (xr [xkb 8 false]
 .ret)
 .skip))
 (xr [xg 29 14 5, xc1 30 7 29, xm 28 30, xe 31 28 0, xe 32 28 1, xe 33 28 2, ⟨(some 9), .new 35 15 [(.int .i64 0), (.int .i64 0), (.int .i64 0), (.int .i64 0), (.int .i64 0), (.int .i64 0), (.int .i64 0), (.int .i64 0), (.bool false), .nils, .nils, (.bool false), .nils, .nils, (.bool false)], none⟩, ⟨(some 10), .new 44 15 [(.int .i64 0), (.int .i64 0), (.int .i64 0), (.int .i64 0), (.int .i64 0), (.int .i64 0), (.int .i64 0), (.int .i64 0), (.bool false), .nils, .nils, (.bool false), .nils, .nils, (.bool false)], none⟩, xs 15 9 31, xs 15 10 32, xm 11 33]
 (xr [xg 35 14 6, xc1 36 7 35, xm 34 36, xe 37 34 0, xe 38 34 1, xe 39 34 2, ⟨(some 12), .new 35 15 [(.int .i64 0), (.int .i64 0), (.int .i64 0), (.int .i64 0), (.int .i64 0), (.int .i64 0), (.int .i64 0), (.int .i64 0), (.bool false), .nils, .nils, (.bool false), .nils, .nils, (.bool false)], none⟩, ⟨(some 13), .new 44 15 [(.int .i64 0), (.int .i64 0), (.int .i64 0), (.int .i64 0), (.int .i64 0), (.int .i64 0), (.int .i64 0), (.int .i64 0), (.bool false), .nils, .nils, (.bool false), .nils, .nils, (.bool false)], none⟩, xs 15 12 37, xs 15 13 38, xm 14 39]
 (xr [xg 41 14 7, xc1 42 7 41, xm 40 42, xe 43 40 0, xe 44 40 1, xe 45 40 2, ⟨(some 15), .new 35 15 [(.int .i64 0), (.int .i64 0), (.int .i64 0), (.int .i64 0), (.int .i64 0), (.int .i64 0), (.int .i64 0), (.int .i64 0), (.bool false), .nils, .nils, (.bool false), .nils, .nils, (.bool false)], none⟩, ⟨(some 16), .new 44 15 [(.int .i64 0), (.int .i64 0), (.int .i64 0), (.int .i64 0), (.int .i64 0), (.int .i64 0), (.int .i64 0), (.int .i64 0), (.bool false), .nils, .nils, (.bool false), .nils, .nils, (.bool false)], none⟩, xs 15 15 43, xs 15 16 44, xm 17 45]
 (.seq (xr [xm 46 11, xn 47 46, xm 48 47, xmg 49 14 48 false, xng 50 49 48 false, xpb 51 48 true 50, xm 52 51, xmg 53 17 52 false, xng 54 53 52 false, xpb 55 52 true 54, xm 56 55, ⟨(some 57), .load true 3 (.t 4), (some ((some 56), false))⟩, ⟨(some 58), .call 8 [(.t 57)], (some ((some 56), false))⟩, xpb 59 56 true 58, xm 60 59, ⟨(some 61), .load true 3 (.t 4), (some ((some 60), false))⟩, ⟨(some 62), .call 15 [(.t 61)], (some ((some 60), false))⟩, xng 63 62 60 false, xpb 64 60 true 63]
 (
 xd 64
 (xr [xkb 8 true]
 .ret)
 .skip))
 (xr [xg 66 3 4, xg 67 15 9, xg 68 15 12, xc3 69 11 66 67 68, xm 65 69, xe 70 65 0, xe 71 65 1, ⟨(some 18), .new 28 3 [(.bool false), .nils, .nils], none⟩, xs 3 18 70, xm 19 71]
 (.seq (xr [xm 72 19, xbk 73 .neq 72 0]
 (
 xd 73
 (xr [xkb 8 true]
 .ret)
 .skip))
 (xr [xg 75 3 18, xg 76 15 12, xg 77 15 9, xc3 78 11 75 76 77, xm 74 78, xe 79 74 0, xe 80 74 1, ⟨(some 20), .new 28 3 [(.bool false), .nils, .nils], none⟩, xs 3 20 79, xm 21 80]
 (.seq (xr [xm 81 21, xbk 82 .neq 81 0, xm 83 82, ⟨(some 84), .load true 3 (.t 20), (some ((some 83), false))⟩, ⟨(some 85), .load true 3 (.t 4), (some ((some 83), false))⟩, ⟨(some 86), .call 16 [(.t 84), (.t 85)], (some ((some 83), false))⟩, xbg 87 .neq 86 0 83 false, xpb 88 83 true 87]
 (
 xd 88
 (xr [xkb 8 false]
 .ret)
 .skip))
 (xr [xg 90 3 18, xg 91 15 12, xg 92 15 15, xc3 93 11 90 91 92, xm 89 93, xe 94 89 0, xe 95 89 1, ⟨(some 22), .new 28 3 [(.bool false), .nils, .nils], none⟩, xs 3 22 94, xm 23 95]
 (xr [xg 97 3 4, xg 98 15 9, xg 99 15 15, xc3 100 11 97 98 99, xm 96 100, xe 101 96 0, xe 102 96 1, ⟨(some 24), .new 28 3 [(.bool false), .nils, .nils], none⟩, xs 3 24 101, xm 25 102]
 (xr [xm 103 23, xbk 104 .neq 103 0, xm 105 104, xmg 106 25 105 false, xbg 107 .neq 106 0 105 false, xpb 108 105 true 107, xm 109 108, ⟨(some 110), .load true 3 (.t 22), (some ((some 109), false))⟩, ⟨(some 111), .load true 3 (.t 24), (some ((some 109), false))⟩, ⟨(some 112), .call 16 [(.t 110), (.t 111)], (some ((some 109), false))⟩, xbg 113 .eql 112 0 109 false, xpb 114 109 true 113, xm 8 114]
 .ret)))))))))))))
theorem ok4 : Tryz.f4.body.bind (comp Tryz.prog) = some c4 := by kernel_rfl
end Go.Proofs.YtodinbldpcldiaaGreatDoorK.NatIr
