/-
 The compiled bodies, printed: IrLConvWays.
-/
import Derived.Test.YtmhhgkchednpjaaGreatDoorKSh
import Derived.Test.YtmhhgkchednpjaaGreatDoorProg
set_option linter.all false
set_option maxHeartbeats 4000000
namespace Go.Proofs.YtmhhgkchednpjaaGreatDoorK.NatIr
open AI Go.Proofs
def c8 : IR :=
 (xr [⟨(some 2), .box 60 8 (.t 0), none⟩, ⟨(some 3), .box 60 8 (.t 1), none⟩, xkb 4 false]
 (.seq (xr [xc0 13 41, xn 14 13]
 (
 xd 14
 (xr [xkb 4 false]
 .ret)
 .skip))
 (.seq (.reg true [xg 15 8 2, ⟨(some 16), .build [(.int .i64 0), (.int .i64 0), (.int .i64 0), (.int .i64 0), (.int .i64 0), (.int .i64 0), (.int .i64 0), (.int .i64 0), (.bool false), .nils, .nils, (.bool false), .nils, .nils, (.bool false)] [(0, 8, (.t 15))], none⟩, xg 17 8 3, ⟨(some 18), .build [(.int .i64 0), (.int .i64 0), (.int .i64 0), (.int .i64 0), (.int .i64 0), (.int .i64 0), (.int .i64 0), (.int .i64 0), (.bool false), .nils, .nils, (.bool false), .nils, .nils, (.bool false)] [(0, 8, (.t 17))], none⟩, ⟨(some 5), .new 63 15 [(.int .i64 0), (.int .i64 0), (.int .i64 0), (.int .i64 0), (.int .i64 0), (.int .i64 0), (.int .i64 0), (.int .i64 0), (.bool false), .nils, .nils, (.bool false), .nils, .nils, (.bool false)], none⟩, ⟨(some 6), .new 63 15 [(.int .i64 0), (.int .i64 0), (.int .i64 0), (.int .i64 0), (.int .i64 0), (.int .i64 0), (.int .i64 0), (.int .i64 0), (.bool false), .nils, .nils, (.bool false), .nils, .nils, (.bool false)], none⟩, xs 15 5 16, xs 15 6 18] [0, 1, 0, 4, 0, 0, 51, 127])
 (xr [xg 20 15 5, xg 21 15 6, xc2 22 42 20 21, xm 19 22, xe 23 19 0, xe 24 19 1, xm 7 23, xm 8 24]
 (xr [xg 26 15 6, xg 27 15 5, xc2 28 42 26 27, xm 25 28, xe 29 25 0, xe 30 25 1, xm 9 29, xm 10 30]
 (xr [xkb 11 true]
 (.seq (xr [xk 12 0]
 (.block 0 (.loop (.seq (xr [xm 31 12, xbk 32 .lss 31 8]
  (
  xd 32
  .skip
  (.exit 0)))
  (.seq (.block 1 (xR [xm 35 11, xm 36 35, xmg 37 12 36 true, ⟨(some 38), .iaddrA 8 1 (.t 2) (.t 37), (some ((some 36), true))⟩, xlg 39 38 36 true, xbg 40 .geq 39 (-100) 36 true, xp 41 36 40 false, xm 42 41, xmg 43 12 42 true, ⟨(some 44), .iaddrA 8 1 (.t 2) (.t 43), (some ((some 42), true))⟩, xlg 45 44 42 true, xbg 46 .leq 45 100 42 true, xp 47 42 46 false, xm 48 47, xmg 49 12 48 true, ⟨(some 50), .iaddrA 8 1 (.t 3) (.t 49), (some ((some 48), true))⟩, xlg 51 50 48 true, xbg 52 .geq 51 (-100) 48 true, xp 53 48 52 false, xm 54 53, xmg 55 12 54 true, ⟨(some 56), .iaddrA 8 1 (.t 3) (.t 55), (some ((some 54), true))⟩, xlg 57 56 54 true, xbg 58 .leq 57 100 54 true, xp 59 54 58 false, xm 11 59]))
  (xR [xm 33 12, xbk 34 .add 33 1, xm 12 34]))))))
 (xr [xm 60 11, xn 61 60, xm 62 61, xmg 63 8 62 false, xmg 64 10 62 false, ⟨(some 65), .beq false (.t 63) (.t 64), (some ((some 62), false))⟩, xmg 66 65 62 false, xmg 67 7 66 true, xmg 68 9 66 true, ⟨(some 69), .bin .eql (.t 67) (.t 68), (some ((some 66), true))⟩, ⟨(some 70), .pick (.t 66) (.t 69) (.c (.bool false)), (some ((some 62), false))⟩, xmg 71 70 62 false, xmg 72 8 71 true, xmg 73 7 71 true, xbg 74 .neq 73 0 71 true, ⟨(some 75), .beq false (.t 72) (.t 74), (some ((some 71), true))⟩, ⟨(some 76), .pick (.t 71) (.t 75) (.c (.bool false)), (some ((some 62), false))⟩, xpb 77 62 true 76, xm 4 77]
 .ret))))))))
theorem ok8 : Tryz.f8.body.bind (comp Tryz.prog) = some c8 := by kernel_rfl
end Go.Proofs.YtmhhgkchednpjaaGreatDoorK.NatIr
