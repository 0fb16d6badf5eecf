/-
 The compiled bodies, printed: IrRat.
-/
import Derived.Test.YtoiepmpggabglaaGreatDoorKSh
import Derived.Test.YtoiepmpggabglaaGreatDoorProg
set_option linter.all false
set_option maxHeartbeats 4000000
namespace Go.Proofs.YtoiepmpggabglaaGreatDoorK.NatIr
open AI Go.Proofs
def c10 : IR :=
 (xr [⟨(some 1), .box 41 3 (.t 0), none⟩, ⟨(some 2), .mv (.c (.str ⟨#[]⟩)), none⟩]
 (xr [xg 3 3 1, xc1 4 17 3, xs 3 1 4]
 (.seq (.seq (.reg true [xf 5 2 1, xg 6 1 5, xc0 7 19, xc2 8 18 6 7, xbk 9 .eql 8 0] [0, 1, 0, 7, 15])
 (
 xd 9
 (xr [xf 10 0 1, xg 11 2 10, xc1 12 20 11, xm 2 12]
 .ret)
 .skip))
 (.seq (.reg true [xf 13 0 1, xg 14 2 13, xc1 15 20 14, ⟨(some 16), .bin .add (.t 15) (.c (.str ⟨#[47]⟩)), none⟩, xf 17 2 1, xg 18 1 17, xc1 19 21 18, xb 20 .add 16 19, xm 2 20] [0, 1, 3, 7, 0, 16, 55, 127, 255])
 .ret))))
theorem ok10 : Tryz.f10.body.bind (comp Tryz.prog) = some c10 := by kernel_rfl
def c17 : IR :=
 (xr [⟨(some 1), .box 41 3 (.t 0), none⟩, ⟨(some 2), .new 41 3 [(.bool false), .nils, .nils], none⟩]
 (xr [xf 6 0 1, xg 7 2 6, xf 8 2 1, xg 9 1 8, xc2 10 40 7 9, xm 5 10, xe 11 5 0, xe 12 5 1, ⟨(some 3), .new 41 3 [(.bool false), .nils, .nils], none⟩, xs 3 3 11, xm 4 12]
 (xr [xg 13 3 3, xs 3 2 13]
 .ret)))
theorem ok17 : Tryz.f17.body.bind (comp Tryz.prog) = some c17 := by kernel_rfl
def c19 : IR :=
 (xr [⟨(some 0), .new 37 1 [.nils], none⟩]
 (xr [⟨(some 1), .call 43 [(.c (.int .u64 1))], none⟩, xs 1 0 1]
 .ret))
theorem ok19 : Tryz.f19.body.bind (comp Tryz.prog) = some c19 := by kernel_rfl
def c40 : IR :=
 (xr [⟨(some 2), .box 39 2 (.t 0), none⟩, ⟨(some 3), .box 37 1 (.t 1), none⟩, ⟨(some 4), .new 41 3 [(.bool false), .nils, .nils], none⟩, xkb 5 false]
 (.seq (xr [xg 13 1 3, xc1 14 77 13]
 (
 xd 14
 (xr [xc0 15 78, xs 3 4 15, xkb 5 false]
 .ret)
 .skip))
 (xr [xf 16 1 2, xg 17 1 16, xg 18 1 3, xc2 19 79 17 18, ⟨(some 6), .new 37 1 [.nils], none⟩, xs 1 6 19]
 (xr [xf 21 1 2, xg 22 1 21, xg 23 1 6, xc2 24 80 22 23, xm 20 24, xe 25 20 0, xe 26 20 1, xe 27 20 2, ⟨(some 7), .new 37 1 [.nils], none⟩, ⟨(some 8), .new 37 1 [.nils], none⟩, xs 1 7 25, xs 1 8 26, xm 9 27]
 (xr [xg 29 1 3, xg 30 1 6, xc2 31 80 29 30, xm 28 31, xe 32 28 0, xe 33 28 1, xe 34 28 2, ⟨(some 10), .new 37 1 [.nils], none⟩, ⟨(some 11), .new 37 1 [.nils], none⟩, xs 1 10 32, xs 1 11 33, xm 12 34]
 (.seq (.reg true [xf 35 0 2, xl 36 35, xm 37 36, ⟨(some 38), .load true 1 (.t 7), (some ((some 37), true))⟩, ⟨(some 39), .call 77 [(.t 38)], (some ((some 37), true))⟩, xng 40 39 37 true, xp 41 37 40 false, xg 42 1 7, ⟨(some 43), .build [(.bool false), .nils] [(0, 1, (.t 41)), (1, 1, (.t 42))], none⟩, xg 44 1 10, ⟨(some 45), .build [(.bool false), .nils, .nils] [(0, 2, (.t 43)), (2, 1, (.t 44))], none⟩, xs 3 4 45, xkb 5 true] [0, 1, 3, 7, 15, 31, 63, 0, 255, 0, 1023, 2047, 4095])
 .ret))))))
theorem ok40 : Tryz.f40.body.bind (comp Tryz.prog) = some c40 := by kernel_rfl
def c57 : IR :=
 (xr [⟨(some 2), .new 41 3 [(.bool false), .nils, .nils], none⟩]
 (xr [xm 3 0, xc1 4 91 3, xc0 5 19, ⟨(some 6), .build [(.bool false), .nils, .nils] [(0, 2, (.t 4)), (2, 1, (.t 5))], none⟩, xs 3 2 6]
 .ret))
theorem ok57 : Tryz.f57.body.bind (comp Tryz.prog) = some c57 := by kernel_rfl
def c61 : IR :=
 (xr [⟨(some 2), .box 41 3 (.t 0), none⟩, ⟨(some 4), .new 41 3 [(.bool false), .nils, .nils], none⟩, xkb 5 false]
 (xr [xg 10 3 2, xc1 11 17 10, xs 3 2 11]
 (.seq (xr [xm 12 1, xbk 13 .lss 12 0]
 (
 xd 13
 (xr [xg 15 3 2, xc1 16 95 15, xm 14 16, xe 17 14 0, xe 18 14 1, ⟨(some 6), .new 41 3 [(.bool false), .nils, .nils], none⟩, xs 3 6 17, xm 7 18]
 (.seq (xr [xm 19 7, xn 20 19]
 (
  xd 20
  (xr [xc0 21 78, xs 3 4 21, xkb 5 false]
  .ret)
  .skip))
 (xr [xg 23 3 6, xm 24 1, xbk 25 .add 24 1, ⟨(some 26), .neg (.t 25), none⟩, xc2 27 61 23 26, xm 22 27, xe 28 22 0, xe 29 22 1, ⟨(some 8), .new 41 3 [(.bool false), .nils, .nils], none⟩, xs 3 8 28, xm 9 29]
 (xr [xg 30 3 6, xg 31 3 8, xc2 32 69 30 31, xs 3 4 32, xkb 5 true]
 .ret))))
 .skip))
 (.seq (.reg true [xf 33 0 2, xf 34 0 33, xl 35 34, xm 36 35, xmg 37 1 36 true, xbg 38 .rem 37 2 36 true, xbg 39 .eql 38 1 36 true, xp 40 36 39 false, xf 41 0 2, xf 42 1 41, xg 43 1 42, xm 44 1, xc2 45 96 43 44, ⟨(some 46), .build [(.bool false), .nils] [(0, 1, (.t 40)), (1, 1, (.t 45))], none⟩, xf 47 2 2, xg 48 1 47, xm 49 1, xc2 50 96 48 49, ⟨(some 51), .build [(.bool false), .nils, .nils] [(0, 2, (.t 46)), (2, 1, (.t 50))], none⟩, xs 3 4 51, xkb 5 true] [0, 1, 3, 7, 15, 31, 63, 127, 0, 256, 768, 0, 3855, 8191, 0, 16384, 0, 122639, 262143, 524287, 1048575])
 .ret))))
theorem ok61 : Tryz.f61.body.bind (comp Tryz.prog) = some c61 := by kernel_rfl
def c63 : IR :=
 (xr [⟨(some 1), .box 41 3 (.t 0), none⟩, xk 2 0]
 (xr [xg 3 3 1, xc1 4 17 3, ⟨(some 5), .fld true 0 2 (.t 4), none⟩, xc1 6 44 5, xm 2 6]
 .ret))
theorem ok63 : Tryz.f63.body.bind (comp Tryz.prog) = some c63 := by kernel_rfl
def c69 : IR :=
 (xr [⟨(some 2), .box 41 3 (.t 0), none⟩, ⟨(some 3), .box 41 3 (.t 1), none⟩, ⟨(some 4), .new 41 3 [(.bool false), .nils, .nils], none⟩]
 (.seq (.reg true [xg 5 3 2, xc1 6 17 5, xg 7 3 3, xc1 8 17 7, xs 3 2 6, xs 3 3 8] [0, 1, 0, 7, 15, 31])
 (.seq (.reg true [xf 9 0 2, xg 10 2 9, xf 11 0 3, xg 12 2 11, xc2 13 103 10 12, xf 14 2 2, xg 15 1 14, xf 16 2 3, xg 17 1 16, xc2 18 104 15 17, ⟨(some 19), .build [(.bool false), .nils, .nils] [(0, 2, (.t 13)), (2, 1, (.t 18))], none⟩, xc1 20 17 19, xs 3 4 20] [0, 1, 0, 4, 15, 0, 32, 0, 128, 511, 1023, 2047, 4095])
 .ret)))
theorem ok69 : Tryz.f69.body.bind (comp Tryz.prog) = some c69 := by kernel_rfl
def c77 : IR :=
 (xr [⟨(some 1), .box 37 1 (.t 0), none⟩, xkb 2 false]
 (xr [xg 3 1 1, ⟨(some 4), .build [.nils] [], none⟩, xc2 5 18 3 4, xbk 6 .eql 5 0, xm 2 6]
 .ret))
theorem ok77 : Tryz.f77.body.bind (comp Tryz.prog) = some c77 := by kernel_rfl
def c78 : IR :=
 (xr [⟨(some 0), .new 41 3 [(.bool false), .nils, .nils], none⟩]
 (xr [xc0 1 19, ⟨(some 2), .build [(.bool false), .nils, .nils] [(2, 1, (.t 1))], none⟩, xs 3 0 2]
 .ret))
theorem ok78 : Tryz.f78.body.bind (comp Tryz.prog) = some c78 := by kernel_rfl
def c95 : IR :=
 (xr [⟨(some 1), .box 41 3 (.t 0), none⟩, ⟨(some 2), .new 41 3 [(.bool false), .nils, .nils], none⟩, xkb 3 false]
 (xr [xg 4 3 1, xc1 5 17 4, xs 3 1 5]
 (xr [xf 6 0 1, xf 7 0 6, xl 8 7, xf 9 2 1, xg 10 1 9, ⟨(some 11), .build [(.bool false), .nils] [(0, 1, (.t 8)), (1, 1, (.t 10))], none⟩, xf 12 0 1, xf 13 1 12, xg 14 1 13, xc2 15 40 11 14, xe 16 15 0, xe 17 15 1, xs 3 2 16, xm 3 17]
 .ret)))
theorem ok95 : Tryz.f95.body.bind (comp Tryz.prog) = some c95 := by kernel_rfl
def c97 : IR :=
 (xr [⟨(some 2), .new 41 3 [(.bool false), .nils, .nils], none⟩, xkb 3 false]
 (xr [xm 11 0, ⟨(some 12), .call 131 [(.t 11), (.c (.str ⟨#[47]⟩))], none⟩, xm 10 12, xe 13 10 0, xe 14 10 1, xe 15 10 2, xm 4 13, xm 5 14, xm 6 15]
 (xr [xm 17 4, xc1 18 59 17, xm 16 18, xe 19 16 0, xe 20 16 1, ⟨(some 7), .new 39 2 [(.bool false), .nils], none⟩, xs 2 7 19, xm 8 20]
 (xr [xc0 21 19, ⟨(some 9), .new 37 1 [.nils], none⟩, xs 1 9 21]
 (.seq (xr [xm 22 6, xm 23 22, xmg 24 8 23 true, xp 25 23 24 false]
 (
 xd 25
 (xR [xm 27 5, xc1 28 74 27, xm 26 28, xe 29 26 0, xe 30 26 1, xs 1 9 29, xm 8 30])
 .skip))
 (.seq (xr [xm 31 8, xn 32 31]
 (
 xd 32
 (xr [xc0 33 78, xs 3 2 33, xkb 3 false]
 .ret)
 .skip))
 (xr [xg 34 2 7, xg 35 1 9, xc2 36 40 34 35, xe 37 36 0, xe 38 36 1, xs 3 2 37, xm 3 38]
 .ret)))))))
theorem ok97 : Tryz.f97.body.bind (comp Tryz.prog) = some c97 := by kernel_rfl
end Go.Proofs.YtoiepmpggabglaaGreatDoorK.NatIr
