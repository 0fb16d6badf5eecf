/-
  The compiled bodies, printed: IrLUnitSays.
-/
import Derived.Test.YtgimaioeifnajaaGreatDoorKSh
import Derived.Test.YtgimaioeifnajaaGreatDoorProg
set_option linter.all false
set_option maxHeartbeats 4000000
namespace Go.Proofs.YtgimaioeifnajaaGreatDoorK.NatIr
open AI Go.Proofs
def c5 : IR :=
 (xr [⟨(some 3), .box 25 1 (.t 1), none⟩, xkb 4 false]
 (.seq (xr [xc0 15 8, xn 16 15]
 (xd 16
  (xr [xkb 4 false]
  .ret)
  .skip))
 (.seq (xr [xm 17 0, xS 18 17, xbk 19 .gtr 18 300, xm 20 19, ⟨(some 21), .load true 1 (.t 3), (some ((some 20), false))⟩, ⟨(some 22), .call 15 [(.t 21)], (some ((some 20), false))⟩, xng 23 22 20 false, xpb 24 20 true 23]
 (xd 24
  (xr [xkb 4 true]
  .ret)
  .skip))
 (xr [xc0 26 10, xm 27 0, xc2 28 9 26 27, xm 25 28, xe 29 25 0, xe 30 25 1, ⟨(some 5), .new 25 1 [.nils], none⟩, xs 1 5 29, xm 6 30]
 (xr [xc0 32 10, xc1 33 17 32, xm 34 0, xc2 35 16 33 34, xm 31 35, xe 36 31 0, xe 37 31 1, xm 7 36, xm 8 37]
 (.seq (xr [xm 38 6, xm 39 8, xb 40 .neq 38 39, xm 41 40, ⟨(some 42), .load true 1 (.t 5), (some ((some 41), false))⟩, ⟨(some 43), .call 13 [(.t 42)], (some ((some 41), false))⟩, xmg 44 7 41 false, ⟨(some 45), .call 12 [(.t 43), (.t 44)], (some ((some 41), false))⟩, xng 46 45 41 false, xpb 47 41 true 46, xm 48 47, xmg 49 6 48 false, xbg 50 .neq 49 0 48 false, xmg 51 50 48 false, xfg 52 0 5 51 true, xlg 53 52 51 true, ⟨(some 54), .lenL (.t 53), (some ((some 51), true))⟩, xbg 55 .neq 54 0 51 true, ⟨(some 56), .pick (.t 51) (.t 55) (.c (.bool false)), (some ((some 48), false))⟩, xpb 57 48 true 56]
 (xd 57
  (xr [xkb 4 false]
  .ret)
  .skip))
 (xr [xg 58 1 3, xc1 59 13 58, xm 9 59]
 (xr [xg 60 1 3, xc1 61 11 60, xm 10 61]
 (.seq (xr [xm 62 10, xm 63 9, xc1 64 18 63, xb 65 .neq 62 64]
 (xd 65
  (xr [xkb 4 false]
  .ret)
  .skip))
 (xr [xc0 67 10, xc1 68 17 67, xm 69 10, xc2 70 16 68 69, xm 66 70, xe 71 66 0, xe 72 66 1, xm 11 71, xm 12 72]
 (xr [xm 73 12, xbk 74 .eql 73 0, xm 75 74, xmg 76 11 75 true, xmg 77 9 75 true, ⟨(some 78), .call 12 [(.t 76), (.t 77)], (some ((some 75), true))⟩, xp 79 75 78 false, xm 13 79]
 (.seq (xr [xk 14 0]
 (.block 0 (.loop (.seq (xr [xm 80 14, xf 81 0 3, xl 82 81, xL 83 82, xb 84 .lss 80 83]
   (xd 84
    .skip
    (.exit 0)))
   (.seq (.block 1 (xR [xm 87 13, xm 88 87, xfg 89 0 3 88 true, xlg 90 89 88 true, xmg 91 14 88 true, ⟨(some 92), .iaddrS 3 (.t 90) (.t 91), (some ((some 88), true))⟩, xfg 93 2 92 88 true, ⟨(some 94), .load true 1 (.t 93), (some ((some 88), true))⟩, ⟨(some 95), .call 19 [(.t 94)], (some ((some 88), true))⟩, xp 96 88 95 false, xm 13 96]))
   (xR [xm 85 14, xbk 86 .add 85 1, xm 14 86]))))))
 (.seq (.reg true [xc0 97 10, xg 98 1 3, xc2 99 14 97 98, xm 100 13, ⟨(some 101), .beq false (.t 99) (.t 100), none⟩, xm 4 101] [0, 0, 3, 0, 15, 31])
 .ret)))))))))))))
theorem ok5 : Tryz.f5.body.bind (comp Tryz.prog) = some c5 := by kernel_rfl
end Go.Proofs.YtgimaioeifnajaaGreatDoorK.NatIr
