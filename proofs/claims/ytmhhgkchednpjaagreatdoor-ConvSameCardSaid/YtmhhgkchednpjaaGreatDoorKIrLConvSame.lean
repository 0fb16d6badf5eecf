/-
 The compiled bodies, printed: IrLConvSame.
-/
import Derived.Test.YtmhhgkchednpjaaGreatDoorKSh
import Derived.Test.YtmhhgkchednpjaaGreatDoorProg
set_option linter.all false
set_option maxHeartbeats 4000000
namespace Go.Proofs.YtmhhgkchednpjaaGreatDoorK.NatIr
open AI Go.Proofs
def c11 : IR :=
 (xr [⟨(some 2), .box 28 3 (.t 0), none⟩, ⟨(some 3), .box 91 14 (.t 1), none⟩, xkb 4 false]
 (.seq (xr [xc0 15 41, xn 16 15]
 (
 xd 16
 (xr [xkb 4 false]
 .ret)
 .skip))
 (xr [xg 18 14 3, xc1 19 43 18, xm 17 19, xe 20 17 0, xe 21 17 1, xe 22 17 2, ⟨(some 5), .new 63 15 [(.int .i64 0), (.int .i64 0), (.int .i64 0), (.int .i64 0), (.int .i64 0), (.int .i64 0), (.int .i64 0), (.int .i64 0), (.bool false), .nils, .nils, (.bool false), .nils, .nils, (.bool false)], none⟩, ⟨(some 6), .new 100 15 [(.int .i64 0), (.int .i64 0), (.int .i64 0), (.int .i64 0), (.int .i64 0), (.int .i64 0), (.int .i64 0), (.int .i64 0), (.bool false), .nils, .nils, (.bool false), .nils, .nils, (.bool false)], none⟩, xs 15 5 20, xs 15 6 21, xm 7 22]
 (.seq (xr [xm 23 7, xn 24 23, xm 25 24, ⟨(some 26), .load true 3 (.t 2), (some ((some 25), false))⟩, ⟨(some 27), .call 44 [(.t 26)], (some ((some 25), false))⟩, xpb 28 25 true 27, xm 29 28, ⟨(some 30), .load true 3 (.t 2), (some ((some 29), false))⟩, ⟨(some 31), .call 50 [(.t 30)], (some ((some 29), false))⟩, xng 32 31 29 false, xpb 33 29 true 32]
 (
 xd 33
 (xr [xkb 4 true]
 .ret)
 .skip))
 (xr [xg 35 3 2, xg 36 15 5, xg 37 15 5, xc3 38 46 35 36 37, xm 34 38, xe 39 34 0, xe 40 34 1, ⟨(some 8), .new 28 3 [(.bool false), .nils, .nils], none⟩, xs 3 8 39, xm 9 40]
 (xr [xg 41 15 5, ⟨(some 10), .new 63 15 [(.int .i64 0), (.int .i64 0), (.int .i64 0), (.int .i64 0), (.int .i64 0), (.int .i64 0), (.int .i64 0), (.int .i64 0), (.bool false), .nils, .nils, (.bool false), .nils, .nils, (.bool false)], none⟩, xs 15 10 41]
 (.seq (.reg true [xf 42 8 5, xg 43 3 42, ⟨(some 44), .call 25 [(.c (.int .i64 2))], none⟩, xc2 45 33 43 44, xf 46 8 10, xs 3 46 45] [0, 1, 0, 7, 15, 31])
 (xr [xg 48 3 2, xg 49 15 5, xg 50 15 10, xc3 51 46 48 49 50, xm 47 51, xe 52 47 0, xe 53 47 1, ⟨(some 11), .new 28 3 [(.bool false), .nils, .nils], none⟩, xs 3 11 52, xm 12 53]
 (xr [xg 55 15 5, xg 56 15 5, xc2 57 42 55 56, xm 54 57, xe 58 54 0, xe 59 54 1, xm 13 58, xm 14 59]
 (.seq (.reg true [xm 60 9, xbk 61 .eql 60 0, xm 62 61, xmg 63 12 62 true, xbg 64 .eql 63 0 62 true, xp 65 62 64 false, xm 66 65, ⟨(some 67), .load true 3 (.t 8), (some ((some 66), true))⟩, ⟨(some 68), .load true 3 (.t 2), (some ((some 66), true))⟩, ⟨(some 69), .call 23 [(.t 67), (.t 68)], (some ((some 66), true))⟩, xbg 70 .eql 69 0 66 true, xp 71 66 70 false, xm 72 71, ⟨(some 73), .load true 3 (.t 11), (some ((some 72), true))⟩, ⟨(some 74), .call 25 [(.c (.int .i64 2))], (some ((some 72), true))⟩, ⟨(some 75), .call 33 [(.t 73), (.t 74)], (some ((some 72), true))⟩, ⟨(some 76), .load true 3 (.t 2), (some ((some 72), true))⟩, ⟨(some 77), .call 23 [(.t 75), (.t 76)], (some ((some 72), true))⟩, xbg 78 .eql 77 0 72 true, xp 79 72 78 false, xm 80 79, xmg 81 14 80 true, xp 82 80 81 false, xm 83 82, xmg 84 13 83 true, xbg 85 .eql 84 1 83 true, xp 86 83 85 false, xm 4 86] [0, 1, 3, 7, 15, 31, 63, 127, 127, 511, 1023, 2047, 4095, 8191, 8191, 32767, 8191, 131071, 262143, 524287, 1048575, 2097151, 4194303, 8388607, 16777215, 33554431, 67108863, 134217727])
 .ret))))))))))
theorem ok11 : Tryz.f11.body.bind (comp Tryz.prog) = some c11 := by kernel_rfl
end Go.Proofs.YtmhhgkchednpjaaGreatDoorK.NatIr
