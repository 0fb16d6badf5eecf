/-
  The compiled bodies, printed: IrLUnitShown.
-/
import Derived.Test.YtgimaioeifnajaaGreatDoorKSh
import Derived.Test.YtgimaioeifnajaaGreatDoorProg
set_option linter.all false
set_option maxHeartbeats 4000000
namespace Go.Proofs.YtgimaioeifnajaaGreatDoorK.NatIr
open AI Go.Proofs
def c3 : IR :=
 (xr [xkb 4 false]
 (.seq (xr [xc0 9 8, xn 10 9]
 (xd 10
  (xr [xkb 4 false]
  .ret)
  .skip))
 (.seq (xr [xm 11 0, xS 12 11, xbk 13 .gtr 12 200, xm 14 13, xmg 15 1 14 false, ⟨(some 16), .lenS (.t 15), (some ((some 14), false))⟩, xbg 17 .gtr 16 200 14 false, xpb 18 14 true 17]
 (xd 18
  (xr [xkb 4 true]
  .ret)
  .skip))
 (xr [xc0 20 10, xm 21 0, xc2 22 9 20 21, xm 19 22, xe 23 19 0, xe 24 19 1, ⟨(some 5), .new 25 1 [.nils], none⟩, xs 1 5 23, xm 6 24]
 (xr [xc0 26 10, xm 27 1, xc2 28 9 26 27, xm 25 28, xe 29 25 0, xe 30 25 1, ⟨(some 7), .new 25 1 [.nils], none⟩, xs 1 7 29, xm 8 30]
 (.seq (xr [xm 31 6, xbk 32 .neq 31 0, xm 33 32, xmg 34 8 33 false, xbg 35 .neq 34 0 33 false, xpb 36 33 true 35]
 (xd 36
  (xr [xkb 4 true]
  .ret)
  .skip))
 (.seq (.reg true [xg 37 1 5, xc1 38 11 37, xg 39 1 7, xc1 40 11 39, xb 41 .eql 38 40, xg 42 1 5, xc1 43 13 42, xg 44 1 7, xc1 45 13 44, xc2 46 12 43 45, ⟨(some 47), .beq false (.t 41) (.t 46), none⟩, xm 48 47, xmg 49 0 48 true, xmg 50 1 48 true, ⟨(some 51), .bin .eql (.t 49) (.t 50), (some ((some 48), true))⟩, ⟨(some 52), .load true 1 (.t 5), (some ((some 48), true))⟩, ⟨(some 53), .call 13 [(.t 52)], (some ((some 48), true))⟩, ⟨(some 54), .load true 1 (.t 7), (some ((some 48), true))⟩, ⟨(some 55), .call 13 [(.t 54)], (some ((some 48), true))⟩, ⟨(some 56), .call 12 [(.t 53), (.t 55)], (some ((some 48), true))⟩, ⟨(some 57), .beq false (.t 51) (.t 56), (some ((some 48), true))⟩, xp 58 48 57 false, xm 4 58] [0, 1, 0, 7, 15, 0, 47, 0, 239, 495, 1023, 2047, 4095, 4095, 16383, 4095, 36863, 4095, 233471, 495615, 1048575, 2097151, 4194303])
 .ret)))))))
theorem ok3 : Tryz.f3.body.bind (comp Tryz.prog) = some c3 := by kernel_rfl
end Go.Proofs.YtgimaioeifnajaaGreatDoorK.NatIr
