/-
  The compiled bodies, printed: IrLUnitBack.
-/
import Derived.Test.YtgimaioeifnajaaGreatDoorKSh
import Derived.Test.YtgimaioeifnajaaGreatDoorProg
set_option linter.all false
set_option maxHeartbeats 4000000
namespace Go.Proofs.YtgimaioeifnajaaGreatDoorK.NatIr
open AI Go.Proofs
def c4 : IR :=
 (xr [xkb 2 false]
 (.seq (xr [xc0 7 8, xn 8 7]
 (xd 8
  (xr [xkb 2 false]
  .ret)
  .skip))
 (.seq (xr [xm 9 0, xS 10 9, xbk 11 .gtr 10 300]
 (xd 11
  (xr [xkb 2 true]
  .ret)
  .skip))
 (xr [xc0 13 10, xm 14 0, xc2 15 9 13 14, xm 12 15, xe 16 12 0, xe 17 12 1, ⟨(some 3), .new 25 1 [.nils], none⟩, xs 1 3 16, xm 4 17]
 (.seq (xr [xm 18 4, xbk 19 .neq 18 0]
 (xd 19
  (xr [xkb 2 true]
  .ret)
  .skip))
 (.seq (.reg true [xc0 21 10, xg 22 1 3, xc1 23 11 22, xc2 24 9 21 23, xm 20 24, xe 25 20 0, xe 26 20 1, ⟨(some 5), .new 25 1 [.nils], none⟩, xs 1 5 25, xm 6 26] [0, 0, 3, 7, 15, 31, 31, 0, 191, 511])
 (.seq (.reg true [xm 27 6, xbk 28 .eql 27 0, xm 29 28, ⟨(some 30), .load true 1 (.t 5), (some ((some 29), true))⟩, ⟨(some 31), .call 13 [(.t 30)], (some ((some 29), true))⟩, ⟨(some 32), .load true 1 (.t 3), (some ((some 29), true))⟩, ⟨(some 33), .call 13 [(.t 32)], (some ((some 29), true))⟩, ⟨(some 34), .call 12 [(.t 31), (.t 33)], (some ((some 29), true))⟩, xp 35 29 34 false, xm 36 35, ⟨(some 37), .load true 1 (.t 3), (some ((some 36), true))⟩, ⟨(some 38), .call 11 [(.t 37)], (some ((some 36), true))⟩, xmg 39 0 36 true, ⟨(some 40), .bin .eql (.t 38) (.t 39), (some ((some 36), true))⟩, xp 41 36 40 false, xm 42 41, ⟨(some 43), .call 10 [], (some ((some 42), true))⟩, ⟨(some 44), .load true 1 (.t 3), (some ((some 42), true))⟩, ⟨(some 45), .call 14 [(.t 43), (.t 44)], (some ((some 42), true))⟩, xp 46 42 45 false, xm 2 46] [0, 1, 3, 7, 15, 7, 63, 127, 255, 511, 1023, 2047, 1023, 8191, 16383, 32767, 65535, 65535, 262143, 524287, 1048575])
 .ret)))))))
theorem ok4 : Tryz.f4.body.bind (comp Tryz.prog) = some c4 := by kernel_rfl
end Go.Proofs.YtgimaioeifnajaaGreatDoorK.NatIr
