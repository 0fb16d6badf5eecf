/-
 The compiled bodies, printed: IrLReducePrefix.
-/
import Derived.Test.YtgdbkigaaooifaaGreatDoorKSh
import Derived.Test.YtgdbkigaaooifaaGreatDoorProg
set_option linter.all false
set_option maxHeartbeats 4000000
namespace Go.Proofs.YtgdbkigaaooifaaGreatDoorK.NatIr
open AI Go.Proofs
def c3 : IR :=
 (xr [xkb 6 false]
 (.seq (xr [xc0 17 7, xn 18 17]
 (
 xd 18
 (xr [xkb 6 false]
 .ret)
 .skip))
 (xr [xc0 20 9, xc1 21 8 20, xm 19 21, xe 22 19 0, xe 23 19 1, xm 7 22, xm 8 23]
 (.seq (xr [xm 24 7, ⟨(some 25), .isnil false 0 (.t 24), none⟩]
 (
 xd 25
 (xr [xkb 6 false]
 .ret)
 .skip))
 (xr [xm 27 7, xm 28 1, xm 29 2, ⟨(some 30), .build [(.str ⟨#[]⟩), (.str ⟨#[]⟩), (.int .i64 0)] [(1, 1, (.t 28)), (2, 1, (.t 29))], none⟩, xc2 31 10 27 30, xm 26 31, xe 32 26 0, xe 33 26 1, ⟨(some 9), .new 38 15 [(.int .i64 0), (.int .i64 0), (.int .i64 0), (.int .i64 0), (.int .i64 0), (.int .i64 0), (.int .i64 0), (.int .i64 0), (.bool false), .nils, .nils, (.bool false), .nils, .nils, (.bool false)], none⟩, xs 15 9 32, xm 10 33]
 (xr [xm 35 7, xm 36 0, xm 37 1, xm 38 2, ⟨(some 39), .build [(.str ⟨#[]⟩), (.str ⟨#[]⟩), (.int .i64 0)] [(0, 1, (.t 36)), (1, 1, (.t 37)), (2, 1, (.t 38))], none⟩, xc2 40 10 35 39, xm 34 40, xe 41 34 0, xe 42 34 1, ⟨(some 11), .new 38 15 [(.int .i64 0), (.int .i64 0), (.int .i64 0), (.int .i64 0), (.int .i64 0), (.int .i64 0), (.int .i64 0), (.int .i64 0), (.bool false), .nils, .nils, (.bool false), .nils, .nils, (.bool false)], none⟩, xs 15 11 41, xm 12 42]
 (xr [xm 44 7, xm 45 0, xc2 46 11 44 45, xm 43 46, xe 47 43 0, xe 48 43 1, ⟨(some 13), .new 36 3 [(.bool false), .nils, .nils], none⟩, xs 3 13 47, xm 14 48]
 (.seq (xr [xm 49 10, xbk 50 .neq 49 0, xm 51 50, xmg 52 12 51 false, xbg 53 .neq 52 0 51 false, xpb 54 51 true 53, xm 55 54, xmg 56 14 55 false, xng 57 56 55 false, xpb 58 55 true 57]
 (
 xd 58
 (xr [xm 59 10, xbk 60 .eql 59 0, xm 61 60, xmg 62 12 61 false, xbg 63 .neq 62 0 61 false, xpb 64 61 true 63, xm 65 64, xmg 66 0 65 false, ⟨(some 67), .bin .eql (.t 66) (.c (.str ⟨#[]⟩)), (some ((some 65), false))⟩, xpb 68 65 true 67, xm 6 68]
 .ret)
 .skip))
 (xr [xg 70 3 13, xm 71 2, xc2 72 12 70 71, xm 69 72, xe 73 69 0, xe 74 69 1, ⟨(some 15), .new 36 3 [(.bool false), .nils, .nils], none⟩, xs 3 15 73, xm 16 74]
 (.seq (.reg true [xm 75 16, xm 76 75, xfg 77 0 9 76 true, ⟨(some 78), .load true 8 (.t 77), (some ((some 76), true))⟩, xfg 79 0 11 76 true, ⟨(some 80), .load true 8 (.t 79), (some ((some 76), true))⟩, ⟨(some 81), .aeq 8 false (.t 78) (.t 80), (some ((some 76), true))⟩, xp 82 76 81 false, xm 83 82, xfg 84 8 11 83 true, ⟨(some 85), .load true 3 (.t 84), (some ((some 83), true))⟩, xfg 86 8 9 83 true, ⟨(some 87), .load true 3 (.t 86), (some ((some 83), true))⟩, ⟨(some 88), .load true 3 (.t 15), (some ((some 83), true))⟩, ⟨(some 89), .call 14 [(.t 87), (.t 88)], (some ((some 83), true))⟩, ⟨(some 90), .call 13 [(.t 85), (.t 89)], (some ((some 83), true))⟩, xbg 91 .eql 90 0 83 true, xp 92 83 91 false, xm 6 92] [0, 1, 3, 7, 3, 19, 63, 127, 255, 511, 1023, 511, 2559, 511, 14847, 32767, 65535, 131071, 262143])
 .ret))))))))))
theorem ok3 : Tryz.f3.body.bind (comp Tryz.prog) = some c3 := by kernel_rfl
end Go.Proofs.YtgdbkigaaooifaaGreatDoorK.NatIr
