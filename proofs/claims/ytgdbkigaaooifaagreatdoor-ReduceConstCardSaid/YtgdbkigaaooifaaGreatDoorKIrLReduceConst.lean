/-
 The compiled bodies, printed: IrLReduceConst.
-/
import Derived.Test.YtgdbkigaaooifaaGreatDoorKSh
import Derived.Test.YtgdbkigaaooifaaGreatDoorProg
set_option linter.all false
set_option maxHeartbeats 4000000
namespace Go.Proofs.YtgdbkigaaooifaaGreatDoorK.NatIr
open AI Go.Proofs
def c6 : IR :=
 (xr [xkb 4 false]
 (.seq (xr [xc0 11 7, xn 12 11]
 (
 xd 12
 (xr [xkb 4 false]
 .ret)
 .skip))
 (xr [xc0 14 9, xc1 15 8 14, xm 13 15, xe 16 13 0, xe 17 13 1, xm 5 16, xm 6 17]
 (.seq (xr [xm 18 5, ⟨(some 19), .isnil false 0 (.t 18), none⟩, xm 20 19, xmg 21 0 20 false, ⟨(some 22), .lenL (.t 21), (some ((some 20), false))⟩, xbg 23 .gtr 22 6 20 false, xpb 24 20 true 23, xm 25 24, xmg 26 1 25 false, ⟨(some 27), .bin .lss (.t 26) (.c (.int .u64 2)), (some ((some 25), false))⟩, xpb 28 25 true 27]
 (
 xd 28
 (xr [xm 29 5, ⟨(some 30), .isnil true 0 (.t 29), none⟩, xm 4 30]
 .ret)
 .skip))
 (xr [xm 32 5, xm 33 0, ⟨(some 34), .call 15 [(.c (.int .u64 1))], none⟩, ⟨(some 35), .build [.nils, .nils, .nils] [(0, 1, (.t 33)), (2, 1, (.t 34))], none⟩, xc2 36 16 32 35, xm 31 36, xe 37 31 0, xe 38 31 1, ⟨(some 7), .new 38 15 [(.int .i64 0), (.int .i64 0), (.int .i64 0), (.int .i64 0), (.int .i64 0), (.int .i64 0), (.int .i64 0), (.int .i64 0), (.bool false), .nils, .nils, (.bool false), .nils, .nils, (.bool false)], none⟩, xs 15 7 37, xm 8 38]
 (xr [xm 40 5, xm 41 0, xm 42 1, xc1 43 15 42, ⟨(some 44), .build [.nils, .nils, .nils] [(0, 1, (.t 41)), (2, 1, (.t 43))], none⟩, xc2 45 16 40 44, xm 39 45, xe 46 39 0, xe 47 39 1, ⟨(some 9), .new 38 15 [(.int .i64 0), (.int .i64 0), (.int .i64 0), (.int .i64 0), (.int .i64 0), (.int .i64 0), (.int .i64 0), (.int .i64 0), (.bool false), .nils, .nils, (.bool false), .nils, .nils, (.bool false)], none⟩, xs 15 9 46, xm 10 47]
 (.seq (xr [xm 48 8, xbk 49 .neq 48 0, xm 50 49, xfg 51 14 7 50 false, xlg 52 51 50 false, xpb 53 50 true 52]
 (
 xd 53
 (xr [xm 54 8, xm 55 10, xb 56 .eql 54 55, xm 57 56, xfg 58 14 7 57 false, xlg 59 58 57 false, xmg 60 59 57 false, xmg 61 10 60 true, xbg 62 .eql 61 6 60 true, ⟨(some 63), .pick (.t 60) (.t 62) (.c (.bool false)), (some ((some 57), false))⟩, xpb 64 57 true 63, xm 4 64]
 .ret)
 .skip))
 (.seq (.reg true [xm 65 10, xbk 66 .eql 65 0, xm 67 66, xfg 68 0 7 67 true, ⟨(some 69), .load true 8 (.t 68), (some ((some 67), true))⟩, xfg 70 0 9 67 true, ⟨(some 71), .load true 8 (.t 70), (some ((some 67), true))⟩, ⟨(some 72), .aeq 8 false (.t 69) (.t 71), (some ((some 67), true))⟩, xp 73 67 72 false, xm 74 73, xfg 75 8 7 74 true, ⟨(some 76), .load true 3 (.t 75), (some ((some 74), true))⟩, xfg 77 8 9 74 true, ⟨(some 78), .load true 3 (.t 77), (some ((some 74), true))⟩, xmg 79 1 74 true, ⟨(some 80), .call 21 [(.t 79)], (some ((some 74), true))⟩, ⟨(some 81), .call 14 [(.t 78), (.t 80)], (some ((some 74), true))⟩, ⟨(some 82), .call 13 [(.t 76), (.t 81)], (some ((some 74), true))⟩, xbg 83 .eql 82 0 74 true, xp 84 74 83 false, xm 4 84] [0, 1, 3, 7, 15, 7, 39, 127, 255, 511, 1023, 2047, 1023, 5119, 1023, 17407, 62463, 131071, 262143, 524287, 1048575])
 .ret))))))))
theorem ok6 : Tryz.f6.body.bind (comp Tryz.prog) = some c6 := by kernel_rfl
end Go.Proofs.YtgdbkigaaooifaaGreatDoorK.NatIr
