/-
 The compiled bodies, printed: IrRound.
-/
import Derived.Test.YtmhhgkchednpjaaGreatDoorKSh
import Derived.Test.YtmhhgkchednpjaaGreatDoorProg
set_option linter.all false
set_option maxHeartbeats 4000000
namespace Go.Proofs.YtmhhgkchednpjaaGreatDoorK.NatIr
open AI Go.Proofs
def c21 : IR :=
 (xr [⟨(some 3), .box 28 3 (.t 0), none⟩, ⟨(some 6), .new 48 3 [(.bool false), .nils, (.int .i64 0)], none⟩, xk 7 0]
 (.seq (xr [xm 10 1, xbk 11 .lss 10 0, xm 12 11, xmg 13 1 12 false, xbg 14 .gtr 13 60 12 false, xpb 15 12 true 14]
 (
 xd 15
 (xr [⟨(some 16), .build [(.bool false), .nils, (.int .i64 0)] [], none⟩, xs 3 6 16, xk 7 1]
 .ret)
 .skip))
 (.seq (.reg true [xg 18 3 3, xm 19 1, xc1 20 74 19, xc2 21 33 18 20, xm 22 2, xc2 23 73 21 22, xm 17 23, xe 24 17 0, xe 25 17 1, ⟨(some 8), .new 26 2 [(.bool false), .nils], none⟩, xs 2 8 24, xm 9 25] [0, 0, 2, 7, 0, 31, 63, 127, 127, 0, 767, 2047])
 (.seq (xr [xm 26 9, xbk 27 .neq 26 0]
 (
 xd 27
 (xr [⟨(some 28), .build [(.bool false), .nils, (.int .i64 0)] [], none⟩, xm 29 9, xs 3 6 28, xm 7 29]
 .ret)
 .skip))
 (xr [xg 30 2 8, xm 31 1, xc2 32 75 30 31, xs 3 6 32, xk 7 0]
 .ret)))))
theorem ok21 : Tryz.f21.body.bind (comp Tryz.prog) = some c21 := by kernel_rfl
def c73 : IR :=
 (xr [⟨(some 2), .box 28 3 (.t 0), none⟩, ⟨(some 4), .new 26 2 [(.bool false), .nils], none⟩, xk 5 0]
 (.seq (xr [xm 10 1, xc1 11 141 10, xn 12 11]
 (
 xd 12
 (xr [⟨(some 13), .build [(.bool false), .nils] [], none⟩, xs 2 4 13, xk 5 1]
 .ret)
 .skip))
 (xr [xg 14 3 2, xc1 15 66 14, ⟨(some 6), .new 26 2 [(.bool false), .nils], none⟩, xs 2 6 15]
 (.seq (.reg true [xg 17 2 6, ⟨(some 18), .call 34 [(.c (.int .u64 1))], none⟩, xc2 19 67 17 18, xm 16 19, xe 20 16 0, xe 21 16 1, ⟨(some 7), .new 28 3 [(.bool false), .nils, .nils], none⟩, xs 3 7 20, xm 8 21] [0, 0, 3, 7, 15, 15, 0, 95, 255])
 (.seq (.reg true [xg 22 3 2, xg 23 3 7, xc1 24 69 23, xc2 25 68 22 24, ⟨(some 9), .new 28 3 [(.bool false), .nils, .nils], none⟩, xs 3 9 25] [0, 0, 2, 7, 0, 31])
 (.seq (xr [xg 26 3 9, xc1 27 77 26, xbk 28 .neq 27 0, xm 29 28, ⟨(some 30), .load true 3 (.t 2), (some ((some 29), true))⟩, ⟨(some 31), .load true 2 (.t 6), (some ((some 29), true))⟩, ⟨(some 32), .load true 3 (.t 9), (some ((some 29), true))⟩, xmg 33 1 29 true, ⟨(some 34), .call 142 [(.t 30), (.t 31), (.t 32), (.t 33)], (some ((some 29), true))⟩, xp 35 29 34 false]
 (
 xd 35
 (.reg true [xg 36 2 6, ⟨(some 37), .call 76 [(.c (.int .i64 1))], none⟩, xc2 38 137 36 37, xs 2 6 38] [0, 0, 3, 7])
 .skip))
 (xr [xg 39 2 6, xs 2 4 39, xk 5 0]
 .ret)))))))
theorem ok73 : Tryz.f73.body.bind (comp Tryz.prog) = some c73 := by kernel_rfl
def c74 : IR :=
 (xr [⟨(some 2), .new 28 3 [(.bool false), .nils, .nils], none⟩]
 (xr [⟨(some 6), .call 25 [(.c (.int .i64 10))], none⟩, xm 7 0, xc2 8 32 6 7, xm 5 8, xe 9 5 0, xe 10 5 1, ⟨(some 3), .new 28 3 [(.bool false), .nils, .nils], none⟩, xs 3 3 9, xm 4 10]
 (xr [xg 11 3 3, xs 3 2 11]
 .ret)))
theorem ok74 : Tryz.f74.body.bind (comp Tryz.prog) = some c74 := by kernel_rfl
def c75 : IR :=
 (xr [⟨(some 2), .box 26 2 (.t 0), none⟩, ⟨(some 4), .new 48 3 [(.bool false), .nils, (.int .i64 0)], none⟩]
 (xr [xf 5 0 2, xl 6 5, xf 7 1 2, xg 8 1 7, xm 9 1, ⟨(some 10), .build [(.bool false), .nils, (.int .i64 0)] [(0, 1, (.t 6)), (1, 1, (.t 8)), (2, 1, (.t 9))], none⟩, xs 3 4 10]
 .ret))
theorem ok75 : Tryz.f75.body.bind (comp Tryz.prog) = some c75 := by kernel_rfl
def c141 : IR :=
 (xr [xkb 2 false]
 (xr [xm 3 0, xbk 4 .geq 3 1, xm 5 4, xmg 6 0 5 true, xbg 7 .leq 6 7 5 true, xp 8 5 7 false, xm 2 8]
 .ret))
theorem ok141 : Tryz.f141.body.bind (comp Tryz.prog) = some c141 := by kernel_rfl
def c142 : IR :=
 (xr [⟨(some 4), .box 28 3 (.t 0), none⟩, ⟨(some 5), .box 26 2 (.t 1), none⟩, ⟨(some 6), .box 28 3 (.t 2), none⟩, xkb 8 false]
 (xr [xg 14 3 4, xc1 15 77 14, xbk 16 .lss 15 0, xm 9 16]
 (xr [xg 17 3 6, xg 18 3 6, xc2 19 68 17 18, ⟨(some 20), .call 25 [(.c (.int .i64 1))], none⟩, xc2 21 23 19 20, xm 10 21]
 (.seq (xr [xm 22 3]
 (
 .block 0 (xr [xbk 24 .eql 22 1, xm 23 24]
 (
  xd 23
  (xr [xm 25 9, xm 8 25]
  .ret)
  (xr [xbk 27 .eql 22 2, xm 26 27]
  (
  xd 26
  (xr [xm 28 9, xn 29 28, xm 8 29]
  .ret)
  (xr [xbk 31 .eql 22 3, xm 30 31]
  (
   xd 30
   (xr [xkb 8 false]
   .ret)
   (xr [xbk 33 .eql 22 4, xm 32 33]
   (
   xd 32
   (xr [xkb 8 true]
   .ret)
   .skip))))))))))
 (.seq (xr [xm 34 10, xbk 35 .neq 34 0]
 (
 xd 35
 (xr [xm 36 10, xbk 37 .gtr 36 0, xm 8 37]
 .ret)
 .skip))
 (.seq (xr [xm 38 3]
 (
 .block 1 (xr [xbk 40 .eql 38 5, xm 39 40]
 (
  xd 39
  (xr [xm 41 9, xm 8 41]
  .ret)
  (xr [xbk 43 .eql 38 6, xm 42 43]
  (
  xd 42
  (xr [xm 44 9, xn 45 44, xm 8 45]
  .ret)
  .skip))))))
 (.seq (.reg true [xg 47 2 5, ⟨(some 48), .call 76 [(.c (.int .i64 2))], none⟩, xc2 49 135 47 48, xm 46 49, xe 50 46 0, xe 51 46 1, xe 52 46 2, ⟨(some 11), .new 26 2 [(.bool false), .nils], none⟩, ⟨(some 12), .new 26 2 [(.bool false), .nils], none⟩, xs 2 11 50, xs 2 12 51, xm 13 52] [0, 0, 3, 7, 15, 15, 15, 0, 0, 415, 959, 2047])
 (xr [xg 53 2 12, xc1 54 144 53, xbk 55 .neq 54 0, xm 8 55]
 .ret))))))))
theorem ok142 : Tryz.f142.body.bind (comp Tryz.prog) = some c142 := by kernel_rfl
end Go.Proofs.YtmhhgkchednpjaaGreatDoorK.NatIr
