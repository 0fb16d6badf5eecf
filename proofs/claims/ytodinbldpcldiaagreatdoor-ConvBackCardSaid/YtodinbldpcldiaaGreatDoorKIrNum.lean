/-
 The compiled bodies, printed: IrNum.
-/
import Derived.Test.YtodinbldpcldiaaGreatDoorKSh
import Derived.Test.YtodinbldpcldiaaGreatDoorProg
set_option linter.all false
set_option maxHeartbeats 4000000
namespace Go.Proofs.YtodinbldpcldiaaGreatDoorK.NatIr
open AI Go.Proofs
def c26 : IR :=
 (xr [⟨(some 2), .new 26 2 [(.bool false), .nils], none⟩]
 (.seq (xr [xm 3 0, xbk 4 .lss 3 0]
 (
 xd 4
 (xr [xm 5 0, ⟨(some 6), .conv .u64 (.t 5), none⟩, ⟨(some 7), .neg (.t 6), none⟩, xc1 8 27 7, ⟨(some 9), .call 70 [(.c (.bool true)), (.t 8)], none⟩, xs 2 2 9]
 .ret)
 .skip))
 (xr [xm 10 0, ⟨(some 11), .conv .u64 (.t 10), none⟩, xc1 12 27 11, ⟨(some 13), .call 70 [(.c (.bool false)), (.t 12)], none⟩, xs 2 2 13]
 .ret)))
theorem ok26 : Tryz.f26.body.bind (comp Tryz.prog) = some c26 := by kernel_rfl
def c49 : IR :=
 (xr [⟨(some 1), .box 26 2 (.t 0), none⟩, xkb 2 false]
 (xr [xf 3 1 1, xg 4 1 3, xc1 5 50 4, xm 6 5, xfg 7 0 1 6 true, xlg 8 7 6 true, xmg 9 8 6 true, xfg 10 1 1 9 true, ⟨(some 11), .load true 1 (.t 10), (some ((some 9), true))⟩, ⟨(some 12), .call 88 [(.t 11)], (some ((some 9), true))⟩, ⟨(some 13), .pick (.t 9) (.t 12) (.c (.bool false)), (some ((some 6), true))⟩, xng 14 13 6 true, xp 15 6 14 false, xm 2 15]
 .ret))
theorem ok49 : Tryz.f49.body.bind (comp Tryz.prog) = some c49 := by kernel_rfl
def c66 : IR :=
 (xr [⟨(some 1), .box 26 2 (.t 0), none⟩, ⟨(some 2), .mv (.c (.str ⟨#[]⟩)), none⟩]
 (.seq (xr [xg 3 2 1, xc1 4 91 3, xbk 5 .lss 4 0]
 (
 xd 5
 (xr [xf 6 1 1, xg 7 1 6, xc1 8 67 7, ⟨(some 9), .bin .add (.c (.str ⟨#[45]⟩)) (.t 8), none⟩, xm 2 9]
 .ret)
 .skip))
 (xr [xf 10 1 1, xg 11 1 10, xc1 12 67 11, xm 2 12]
 .ret)))
theorem ok66 : Tryz.f66.body.bind (comp Tryz.prog) = some c66 := by kernel_rfl
def c70 : IR :=
 (xr [⟨(some 3), .box 24 1 (.t 1), none⟩, ⟨(some 4), .new 26 2 [(.bool false), .nils], none⟩]
 (xr [xg 5 1 3, ⟨(some 6), .build [.nils] [], none⟩, xc2 7 119 5 6, xs 1 3 7]
 (.seq (.reg true [xm 8 0, xm 9 8, ⟨(some 10), .load true 1 (.t 3), (some ((some 9), true))⟩, ⟨(some 11), .call 88 [(.t 10)], (some ((some 9), true))⟩, xng 12 11 9 true, xp 13 9 12 false, xg 14 1 3, ⟨(some 15), .build [(.bool false), .nils] [(0, 1, (.t 13)), (1, 1, (.t 14))], none⟩, xs 2 4 15] [0, 1, 3, 7, 15, 31, 0, 127, 255])
 .ret)))
theorem ok70 : Tryz.f70.body.bind (comp Tryz.prog) = some c70 := by kernel_rfl
def c77 : IR :=
 (xr [⟨(some 2), .box 26 2 (.t 0), none⟩, ⟨(some 3), .box 26 2 (.t 1), none⟩, ⟨(some 4), .new 26 2 [(.bool false), .nils], none⟩]
 (.seq (.reg true [xf 5 0 2, xl 6 5, xf 7 0 3, xl 8 7, ⟨(some 9), .beq true (.t 6) (.t 8), none⟩, xf 10 1 2, xg 11 1 10, xf 12 1 3, xg 13 1 12, xc2 14 78 11 13, xc2 15 70 9 14, xs 2 4 15] [0, 1, 0, 4, 15, 0, 32, 0, 128, 480, 1023, 2047])
 .ret))
theorem ok77 : Tryz.f77.body.bind (comp Tryz.prog) = some c77 := by kernel_rfl
def c79 : IR :=
 (xr [⟨(some 2), .box 26 2 (.t 0), none⟩, ⟨(some 3), .box 26 2 (.t 1), none⟩, ⟨(some 4), .new 26 2 [(.bool false), .nils], none⟩]
 (.seq (xr [xf 9 0 2, xl 10 9, xf 11 0 3, xl 12 11, ⟨(some 13), .beq false (.t 10) (.t 12), none⟩]
 (
 xd 13
 (.seq (.reg true [xf 14 0 2, xl 15 14, xf 16 1 2, xg 17 1 16, xf 18 1 3, xg 19 1 18, xc2 20 119 17 19, xc2 21 70 15 20, xs 2 4 21] [0, 1, 0, 4, 0, 16, 60, 127, 255])
 .ret)
 .skip))
 (.seq (xr [xf 23 1 2, xg 24 1 23, xf 25 1 3, xg 26 1 25, xc2 27 125 24 26, xm 22 27, xe 28 22 0, xe 29 22 1, ⟨(some 5), .new 24 1 [.nils], none⟩, xs 1 5 28, xm 6 29]
 (xr [xm 30 6]
 (
 xd 30
 (xr [xf 31 0 2, xl 32 31, xg 33 1 5, xc2 34 70 32 33, xs 2 4 34]
 .ret)
 .skip)))
 (xr [xf 36 1 3, xg 37 1 36, xf 38 1 2, xg 39 1 38, xc2 40 125 37 39, xm 35 40, xe 41 35 0, xe 42 35 1, ⟨(some 7), .new 24 1 [.nils], none⟩, xs 1 7 41, xm 8 42]
 (xr [xf 43 0 3, xl 44 43, xg 45 1 7, xc2 46 70 44 45, xs 2 4 46]
 .ret)))))
theorem ok79 : Tryz.f79.body.bind (comp Tryz.prog) = some c79 := by kernel_rfl
def c81 : IR :=
 (xr [⟨(some 1), .box 26 2 (.t 0), none⟩, ⟨(some 2), .new 26 2 [(.bool false), .nils], none⟩]
 (xr [xf 3 0 1, xl 4 3, xn 5 4, xf 6 1 1, xg 7 1 6, xc2 8 70 5 7, xs 2 2 8]
 .ret))
theorem ok81 : Tryz.f81.body.bind (comp Tryz.prog) = some c81 := by kernel_rfl
def c88 : IR :=
 (xr [⟨(some 1), .box 24 1 (.t 0), none⟩, xkb 2 false]
 (xr [xg 3 1 1, ⟨(some 4), .build [.nils] [], none⟩, xc2 5 52 3 4, xbk 6 .eql 5 0, xm 2 6]
 .ret))
theorem ok88 : Tryz.f88.body.bind (comp Tryz.prog) = some c88 := by kernel_rfl
def c91 : IR :=
 (xr [⟨(some 1), .box 26 2 (.t 0), none⟩, xk 2 0]
 (
 .seq (.block 0 (xr [xf 4 1 1, xg 5 1 4, xc1 6 88 5, xm 3 6]
 (
  xd 3
  (xr [xk 2 0]
  .ret)
  (xr [xf 8 0 1, xl 9 8, xm 7 9]
  (
  xd 7
  (xr [xk 2 (-1)]
  .ret)
  .skip)))))
 (xr [xk 2 1]
 .ret)))
theorem ok91 : Tryz.f91.body.bind (comp Tryz.prog) = some c91 := by kernel_rfl
def c135 : IR :=
 (xr [⟨(some 2), .new 26 2 [(.bool false), .nils], none⟩, xkb 3 false]
 (xr [xm 9 0, ⟨(some 10), .call 174 [(.t 9), (.c (.str ⟨#[45]⟩))], none⟩, xm 8 10, xe 11 8 0, xe 12 8 1, xm 4 11, xm 5 12]
 (xr [xm 14 4, xc1 15 154 14, xm 13 15, xe 16 13 0, xe 17 13 1, ⟨(some 6), .new 24 1 [.nils], none⟩, xs 1 6 16, xm 7 17]
 (.seq (xr [xm 18 7, xn 19 18]
 (
 xd 19
 (xr [⟨(some 20), .build [(.bool false), .nils] [], none⟩, xs 2 2 20, xkb 3 false]
 .ret)
 .skip))
 (xr [xm 21 5, xg 22 1 6, xc2 23 70 21 22, xs 2 2 23, xkb 3 true]
 .ret)))))
theorem ok135 : Tryz.f135.body.bind (comp Tryz.prog) = some c135 := by kernel_rfl
end Go.Proofs.YtodinbldpcldiaaGreatDoorK.NatIr
