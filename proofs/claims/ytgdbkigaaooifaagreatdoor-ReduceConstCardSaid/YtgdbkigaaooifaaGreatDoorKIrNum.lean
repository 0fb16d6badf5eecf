/-
 The compiled bodies, printed: IrNum.
-/
import Derived.Test.YtgdbkigaaooifaaGreatDoorKSh
import Derived.Test.YtgdbkigaaooifaaGreatDoorProg
set_option linter.all false
set_option maxHeartbeats 4000000
namespace Go.Proofs.YtgdbkigaaooifaaGreatDoorK.NatIr
open AI Go.Proofs
def c36 : IR :=
 (xr [⟨(some 2), .box 34 2 (.t 0), none⟩, ⟨(some 3), .box 34 2 (.t 1), none⟩, ⟨(some 4), .new 34 2 [(.bool false), .nils], none⟩]
 (.seq (.reg true [xf 5 0 2, xl 6 5, xf 7 0 3, xl 8 7, ⟨(some 9), .beq true (.t 6) (.t 8), none⟩, xf 10 1 2, xg 11 1 10, xf 12 1 3, xg 13 1 12, xc2 14 37 11 13, xc2 15 65 9 14, xs 2 4 15] [0, 1, 0, 4, 15, 0, 32, 0, 128, 480, 1023, 2047])
 .ret))
theorem ok36 : Tryz.f36.body.bind (comp Tryz.prog) = some c36 := by kernel_rfl
def c43 : IR :=
 (xr [⟨(some 2), .new 34 2 [(.bool false), .nils], none⟩]
 (.seq (xr [xm 3 0, xbk 4 .lss 3 0]
 (
 xd 4
 (xr [xm 5 0, ⟨(some 6), .conv .u64 (.t 5), none⟩, ⟨(some 7), .neg (.t 6), none⟩, xc1 8 15 7, ⟨(some 9), .call 65 [(.c (.bool true)), (.t 8)], none⟩, xs 2 2 9]
 .ret)
 .skip))
 (xr [xm 10 0, ⟨(some 11), .conv .u64 (.t 10), none⟩, xc1 12 15 11, ⟨(some 13), .call 65 [(.c (.bool false)), (.t 12)], none⟩, xs 2 2 13]
 .ret)))
theorem ok43 : Tryz.f43.body.bind (comp Tryz.prog) = some c43 := by kernel_rfl
def c45 : IR :=
 (xr [⟨(some 1), .box 34 2 (.t 0), none⟩, ⟨(some 2), .mv (.c (.str ⟨#[]⟩)), none⟩]
 (.seq (xr [xg 3 2 1, xc1 4 61 3, xbk 5 .lss 4 0]
 (
 xd 5
 (xr [xf 6 1 1, xg 7 1 6, xc1 8 46 7, ⟨(some 9), .bin .add (.c (.str ⟨#[45]⟩)) (.t 8), none⟩, xm 2 9]
 .ret)
 .skip))
 (xr [xf 10 1 1, xg 11 1 10, xc1 12 46 11, xm 2 12]
 .ret)))
theorem ok45 : Tryz.f45.body.bind (comp Tryz.prog) = some c45 := by kernel_rfl
def c61 : IR :=
 (xr [⟨(some 1), .box 34 2 (.t 0), none⟩, xk 2 0]
 (
 .seq (.block 0 (xr [xf 4 1 1, xg 5 1 4, xc1 6 100 5, xm 3 6]
 (
  xd 3
  (xr [xk 2 0]
  .ret)
  (xr [xf 8 0 1, xl 9 8, xm 7 9]
  (
  xd 7
  (xr [xk 2 (-1)]
  .ret)
  .skip)))))
 (xr [xk 2 1]
 .ret)))
theorem ok61 : Tryz.f61.body.bind (comp Tryz.prog) = some c61 := by kernel_rfl
def c62 : IR :=
 (xr [⟨(some 2), .box 34 2 (.t 0), none⟩, ⟨(some 3), .box 34 2 (.t 1), none⟩, ⟨(some 4), .new 34 2 [(.bool false), .nils], none⟩]
 (.seq (xr [xf 9 0 2, xl 10 9, xf 11 0 3, xl 12 11, ⟨(some 13), .beq false (.t 10) (.t 12), none⟩]
 (
 xd 13
 (.seq (.reg true [xf 14 0 2, xl 15 14, xf 16 1 2, xg 17 1 16, xf 18 1 3, xg 19 1 18, xc2 20 101 17 19, xc2 21 65 15 20, xs 2 4 21] [0, 1, 0, 4, 0, 16, 60, 127, 255])
 .ret)
 .skip))
 (.seq (xr [xf 23 1 2, xg 24 1 23, xf 25 1 3, xg 26 1 25, xc2 27 102 24 26, xm 22 27, xe 28 22 0, xe 29 22 1, ⟨(some 5), .new 32 1 [.nils], none⟩, xs 1 5 28, xm 6 29]
 (xr [xm 30 6]
 (
 xd 30
 (xr [xf 31 0 2, xl 32 31, xg 33 1 5, xc2 34 65 32 33, xs 2 4 34]
 .ret)
 .skip)))
 (xr [xf 36 1 3, xg 37 1 36, xf 38 1 2, xg 39 1 38, xc2 40 102 37 39, xm 35 40, xe 41 35 0, xe 42 35 1, ⟨(some 7), .new 32 1 [.nils], none⟩, xs 1 7 41, xm 8 42]
 (xr [xf 43 0 3, xl 44 43, xg 45 1 7, xc2 46 65 44 45, xs 2 4 46]
 .ret)))))
theorem ok62 : Tryz.f62.body.bind (comp Tryz.prog) = some c62 := by kernel_rfl
def c64 : IR :=
 (xr [⟨(some 1), .box 34 2 (.t 0), none⟩, ⟨(some 2), .new 34 2 [(.bool false), .nils], none⟩]
 (xr [xf 3 0 1, xl 4 3, xn 5 4, xf 6 1 1, xg 7 1 6, xc2 8 65 5 7, xs 2 2 8]
 .ret))
theorem ok64 : Tryz.f64.body.bind (comp Tryz.prog) = some c64 := by kernel_rfl
def c65 : IR :=
 (xr [⟨(some 3), .box 32 1 (.t 1), none⟩, ⟨(some 4), .new 34 2 [(.bool false), .nils], none⟩]
 (xr [xg 5 1 3, ⟨(some 6), .build [.nils] [], none⟩, xc2 7 101 5 6, xs 1 3 7]
 (.seq (.reg true [xm 8 0, xm 9 8, ⟨(some 10), .load true 1 (.t 3), (some ((some 9), true))⟩, ⟨(some 11), .call 100 [(.t 10)], (some ((some 9), true))⟩, xng 12 11 9 true, xp 13 9 12 false, xg 14 1 3, ⟨(some 15), .build [(.bool false), .nils] [(0, 1, (.t 13)), (1, 1, (.t 14))], none⟩, xs 2 4 15] [0, 1, 3, 7, 15, 31, 0, 127, 255])
 .ret)))
theorem ok65 : Tryz.f65.body.bind (comp Tryz.prog) = some c65 := by kernel_rfl
def c85 : IR :=
 (xr [⟨(some 2), .new 34 2 [(.bool false), .nils], none⟩, xkb 3 false]
 (xr [xm 9 0, ⟨(some 10), .call 122 [(.t 9), (.c (.str ⟨#[45]⟩))], none⟩, xm 8 10, xe 11 8 0, xe 12 8 1, xm 4 11, xm 5 12]
 (xr [xm 14 4, xc1 15 123 14, xm 13 15, xe 16 13 0, xe 17 13 1, ⟨(some 6), .new 32 1 [.nils], none⟩, xs 1 6 16, xm 7 17]
 (.seq (xr [xm 18 7, xn 19 18]
 (
 xd 19
 (xr [⟨(some 20), .build [(.bool false), .nils] [], none⟩, xs 2 2 20, xkb 3 false]
 .ret)
 .skip))
 (xr [xm 21 5, xg 22 1 6, xc2 23 65 21 22, xs 2 2 23, xkb 3 true]
 .ret)))))
theorem ok85 : Tryz.f85.body.bind (comp Tryz.prog) = some c85 := by kernel_rfl
def c100 : IR :=
 (xr [⟨(some 1), .box 32 1 (.t 0), none⟩, xkb 2 false]
 (xr [xg 3 1 1, ⟨(some 4), .build [.nils] [], none⟩, xc2 5 39 3 4, xbk 6 .eql 5 0, xm 2 6]
 .ret))
theorem ok100 : Tryz.f100.body.bind (comp Tryz.prog) = some c100 := by kernel_rfl
end Go.Proofs.YtgdbkigaaooifaaGreatDoorK.NatIr
