/-
 The compiled bodies, printed: IrNum.
-/
import Derived.Test.YtoiepmpggabglaaGreatDoorKSh
import Derived.Test.YtoiepmpggabglaaGreatDoorProg
set_option linter.all false
set_option maxHeartbeats 4000000
namespace Go.Proofs.YtoiepmpggabglaaGreatDoorK.NatIr
open AI Go.Proofs
def c20 : IR :=
 (xr [⟨(some 1), .box 39 2 (.t 0), none⟩, ⟨(some 2), .mv (.c (.str ⟨#[]⟩)), none⟩]
 (.seq (xr [xg 3 2 1, xc1 4 44 3, xbk 5 .lss 4 0]
 (
 xd 5
 (xr [xf 6 1 1, xg 7 1 6, xc1 8 21 7, ⟨(some 9), .bin .add (.c (.str ⟨#[45]⟩)) (.t 8), none⟩, xm 2 9]
 .ret)
 .skip))
 (xr [xf 10 1 1, xg 11 1 10, xc1 12 21 11, xm 2 12]
 .ret)))
theorem ok20 : Tryz.f20.body.bind (comp Tryz.prog) = some c20 := by kernel_rfl
def c44 : IR :=
 (xr [⟨(some 1), .box 39 2 (.t 0), none⟩, xk 2 0]
 (
 .seq (.block 0 (xr [xf 4 1 1, xg 5 1 4, xc1 6 81 5, xm 3 6]
 (
  xd 3
  (xr [xk 2 0]
  .ret)
  (xr [xf 8 0 1, xl 9 8, xm 7 9]
  (
  xd 7
  (xr [xk 2 (-1)]
  .ret)
  .skip)))))
 (xr [xk 2 1]
 .ret)))
theorem ok44 : Tryz.f44.body.bind (comp Tryz.prog) = some c44 := by kernel_rfl
def c59 : IR :=
 (xr [⟨(some 2), .new 39 2 [(.bool false), .nils], none⟩, xkb 3 false]
 (xr [xm 9 0, ⟨(some 10), .call 93 [(.t 9), (.c (.str ⟨#[45]⟩))], none⟩, xm 8 10, xe 11 8 0, xe 12 8 1, xm 4 11, xm 5 12]
 (xr [xm 14 4, xc1 15 74 14, xm 13 15, xe 16 13 0, xe 17 13 1, ⟨(some 6), .new 37 1 [.nils], none⟩, xs 1 6 16, xm 7 17]
 (.seq (xr [xm 18 7, xn 19 18]
 (
 xd 19
 (xr [⟨(some 20), .build [(.bool false), .nils] [], none⟩, xs 2 2 20, xkb 3 false]
 .ret)
 .skip))
 (xr [xm 21 5, xg 22 1 6, xc2 23 94 21 22, xs 2 2 23, xkb 3 true]
 .ret)))))
theorem ok59 : Tryz.f59.body.bind (comp Tryz.prog) = some c59 := by kernel_rfl
def c81 : IR :=
 (xr [⟨(some 1), .box 37 1 (.t 0), none⟩, xkb 2 false]
 (xr [xg 3 1 1, ⟨(some 4), .build [.nils] [], none⟩, xc2 5 18 3 4, xbk 6 .eql 5 0, xm 2 6]
 .ret))
theorem ok81 : Tryz.f81.body.bind (comp Tryz.prog) = some c81 := by kernel_rfl
def c91 : IR :=
 (xr [⟨(some 2), .new 39 2 [(.bool false), .nils], none⟩]
 (.seq (xr [xm 3 0, xbk 4 .lss 3 0]
 (
 xd 4
 (xr [xm 5 0, ⟨(some 6), .conv .u64 (.t 5), none⟩, ⟨(some 7), .neg (.t 6), none⟩, xc1 8 43 7, ⟨(some 9), .call 94 [(.c (.bool true)), (.t 8)], none⟩, xs 2 2 9]
 .ret)
 .skip))
 (xr [xm 10 0, ⟨(some 11), .conv .u64 (.t 10), none⟩, xc1 12 43 11, ⟨(some 13), .call 94 [(.c (.bool false)), (.t 12)], none⟩, xs 2 2 13]
 .ret)))
theorem ok91 : Tryz.f91.body.bind (comp Tryz.prog) = some c91 := by kernel_rfl
def c94 : IR :=
 (xr [⟨(some 3), .box 37 1 (.t 1), none⟩, ⟨(some 4), .new 39 2 [(.bool false), .nils], none⟩]
 (xr [xg 5 1 3, ⟨(some 6), .build [.nils] [], none⟩, xc2 7 130 5 6, xs 1 3 7]
 (.seq (.reg true [xm 8 0, xm 9 8, ⟨(some 10), .load true 1 (.t 3), (some ((some 9), true))⟩, ⟨(some 11), .call 81 [(.t 10)], (some ((some 9), true))⟩, xng 12 11 9 true, xp 13 9 12 false, xg 14 1 3, ⟨(some 15), .build [(.bool false), .nils] [(0, 1, (.t 13)), (1, 1, (.t 14))], none⟩, xs 2 4 15] [0, 1, 3, 7, 15, 31, 0, 127, 255])
 .ret)))
theorem ok94 : Tryz.f94.body.bind (comp Tryz.prog) = some c94 := by kernel_rfl
def c103 : IR :=
 (xr [⟨(some 2), .box 39 2 (.t 0), none⟩, ⟨(some 3), .box 39 2 (.t 1), none⟩, ⟨(some 4), .new 39 2 [(.bool false), .nils], none⟩]
 (.seq (.reg true [xf 5 0 2, xl 6 5, xf 7 0 3, xl 8 7, ⟨(some 9), .beq true (.t 6) (.t 8), none⟩, xf 10 1 2, xg 11 1 10, xf 12 1 3, xg 13 1 12, xc2 14 104 11 13, xc2 15 94 9 14, xs 2 4 15] [0, 1, 0, 4, 15, 0, 32, 0, 128, 480, 1023, 2047])
 .ret))
theorem ok103 : Tryz.f103.body.bind (comp Tryz.prog) = some c103 := by kernel_rfl
end Go.Proofs.YtoiepmpggabglaaGreatDoorK.NatIr
