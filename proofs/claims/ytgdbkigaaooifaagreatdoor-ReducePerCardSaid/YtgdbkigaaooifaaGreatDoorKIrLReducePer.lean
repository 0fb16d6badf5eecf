/-
 The compiled bodies, printed: IrLReducePer.
-/
import Derived.Test.YtgdbkigaaooifaaGreatDoorKSh
import Derived.Test.YtgdbkigaaooifaaGreatDoorProg
set_option linter.all false
set_option maxHeartbeats 4000000
namespace Go.Proofs.YtgdbkigaaooifaaGreatDoorK.NatIr
open AI Go.Proofs
def c5 : IR :=
 (xr [xkb 2 false]
 (.seq (xr [xc0 11 7, xn 12 11]
 (
 xd 12
 (xr [xkb 2 false]
 .ret)
 .skip))
 (xr [xc0 14 9, xc1 15 8 14, xm 13 15, xe 16 13 0, xe 17 13 1, xm 3 16, xm 4 17]
 (.seq (xr [xm 18 3, ⟨(some 19), .isnil false 0 (.t 18), none⟩, xm 20 19, xmg 21 0 20 false, ⟨(some 22), .lenL (.t 21), (some ((some 20), false))⟩, xbg 23 .lss 22 1 20 false, xpb 24 20 true 23, xm 25 24, xmg 26 0 25 false, ⟨(some 27), .lenL (.t 26), (some ((some 25), false))⟩, xbg 28 .gtr 27 6 25 false, xpb 29 25 true 28]
 (
 xd 29
 (xr [xm 30 3, ⟨(some 31), .isnil true 0 (.t 30), none⟩, xm 2 31]
 .ret)
 .skip))
 (xr [xm 33 3, xm 34 0, ⟨(some 35), .call 15 [(.c (.int .u64 1))], none⟩, ⟨(some 36), .build [.nils, .nils, .nils] [(0, 1, (.t 34)), (2, 1, (.t 35))], none⟩, xc2 37 16 33 36, xm 32 37, xe 38 32 0, xe 39 32 1, ⟨(some 5), .new 38 15 [(.int .i64 0), (.int .i64 0), (.int .i64 0), (.int .i64 0), (.int .i64 0), (.int .i64 0), (.int .i64 0), (.int .i64 0), (.bool false), .nils, .nils, (.bool false), .nils, .nils, (.bool false)], none⟩, xs 15 5 38, xm 6 39]
 (xr [xm 41 3, xm 42 0, ⟨(some 43), .call 15 [(.c (.int .u64 1))], none⟩, ⟨(some 44), .build [.nils, .nils, .nils] [(1, 1, (.t 42)), (2, 1, (.t 43))], none⟩, xc2 45 16 41 44, xm 40 45, xe 46 40 0, xe 47 40 1, ⟨(some 7), .new 38 15 [(.int .i64 0), (.int .i64 0), (.int .i64 0), (.int .i64 0), (.int .i64 0), (.int .i64 0), (.int .i64 0), (.int .i64 0), (.bool false), .nils, .nils, (.bool false), .nils, .nils, (.bool false)], none⟩, xs 15 7 46, xm 8 47]
 (.seq (xr [xm 48 6, xbk 49 .neq 48 0, xm 50 49, xfg 51 14 5 50 false, xlg 52 51 50 false, xpb 53 50 true 52]
 (
 xd 53
 (xr [xm 54 6, xm 55 8, xb 56 .eql 54 55, xm 57 56, xfg 58 14 5 57 false, xlg 59 58 57 false, xmg 60 59 57 false, xmg 61 8 60 true, xbg 62 .eql 61 6 60 true, ⟨(some 63), .pick (.t 60) (.t 62) (.c (.bool false)), (some ((some 57), false))⟩, xpb 64 57 true 63, xm 2 64]
 .ret)
 .skip))
 (xr [xf 66 8 5, xg 67 3 66, xc1 68 19 67, xm 65 68, xe 69 65 0, xe 70 65 1, ⟨(some 9), .new 36 3 [(.bool false), .nils, .nils], none⟩, xs 3 9 69, xm 10 70]
 (.seq (.reg true [xm 71 8, xbk 72 .eql 71 0, xm 73 72, xmg 74 10 73 true, xp 75 73 74 false, xm 76 75, ⟨(some 77), .load true 3 (.t 9), (some ((some 76), true))⟩, xfg 78 8 7 76 true, ⟨(some 79), .load true 3 (.t 78), (some ((some 76), true))⟩, ⟨(some 80), .call 13 [(.t 77), (.t 79)], (some ((some 76), true))⟩, xbg 81 .eql 80 0 76 true, xp 82 76 81 false, xm 83 82, xfg 84 0 5 83 true, ⟨(some 85), .load true 8 (.t 84), (some ((some 83), true))⟩, ⟨(some 86), .call 20 [(.t 85)], (some ((some 83), true))⟩, xfg 87 0 7 83 true, ⟨(some 88), .load true 8 (.t 87), (some ((some 83), true))⟩, ⟨(some 89), .aeq 8 false (.t 86) (.t 88), (some ((some 83), true))⟩, xp 90 83 89 false, xm 2 90] [0, 1, 3, 7, 15, 31, 63, 63, 191, 511, 1023, 2047, 4095, 8191, 16383, 32767, 8191, 73727, 262143, 524287, 1048575])
 .ret)))))))))
theorem ok5 : Tryz.f5.body.bind (comp Tryz.prog) = some c5 := by kernel_rfl
end Go.Proofs.YtgdbkigaaooifaaGreatDoorK.NatIr
