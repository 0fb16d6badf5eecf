/-
 The compiled bodies, printed: IrRefZ.
-/
import Derived.Test.YtodinbldpcldiaaGreatDoorKSh
import Derived.Test.YtodinbldpcldiaaGreatDoorProg
set_option linter.all false
set_option maxHeartbeats 4000000
namespace Go.Proofs.YtodinbldpcldiaaGreatDoorK.NatIr
open AI Go.Proofs
def c29 : IR :=
 (xr [⟨(some 2), .new 40 2 [(.bool false), .nils], none⟩]
 (.seq (xr [xm 3 0, xbk 4 .lss 3 0]
 (
 xd 4
 (xr [xm 5 0, xbk 6 .add 5 1, ⟨(some 7), .neg (.t 6), none⟩, ⟨(some 8), .conv .u64 (.t 7), none⟩, xc1 9 30 8, ⟨(some 10), .call 30 [(.c (.int .u64 1))], none⟩, xc2 11 74 9 10, ⟨(some 12), .build [(.bool false), .nils] [(0, 1, (.c (.bool true))), (1, 1, (.t 11))], none⟩, xs 2 2 12]
 .ret)
 .skip))
 (xr [xm 13 0, ⟨(some 14), .conv .u64 (.t 13), none⟩, xc1 15 30 14, ⟨(some 16), .build [(.bool false), .nils] [(0, 1, (.c (.bool false))), (1, 1, (.t 15))], none⟩, xs 2 2 16]
 .ret)))
theorem ok29 : Tryz.f29.body.bind (comp Tryz.prog) = some c29 := by kernel_rfl
def c46 : IR :=
 (xr [⟨(some 4), .new 40 2 [(.bool false), .nils], none⟩]
 (xr [xm 5 0, xm 6 5, xmg 7 1 6 true, ⟨(some 8), .lenL (.t 7), (some ((some 6), true))⟩, xbg 9 .gtr 8 0 6 true, xp 10 6 9 false, xm 11 1, ⟨(some 12), .build [(.bool false), .nils] [(0, 1, (.t 10)), (1, 1, (.t 11))], none⟩, xs 2 4 12]
 .ret))
theorem ok46 : Tryz.f46.body.bind (comp Tryz.prog) = some c46 := by kernel_rfl
def c82 : IR :=
 (xr [⟨(some 2), .box 40 2 (.t 0), none⟩, ⟨(some 3), .box 40 2 (.t 1), none⟩, ⟨(some 4), .new 40 2 [(.bool false), .nils], none⟩]
 (.seq (.reg true [xf 5 0 2, xl 6 5, xf 7 0 3, xl 8 7, ⟨(some 9), .beq true (.t 6) (.t 8), none⟩, xf 10 1 2, xl 11 10, xf 12 1 3, xl 13 12, xc2 14 83 11 13, xc2 15 46 9 14, xs 2 4 15] [0, 1, 0, 4, 15, 0, 32, 0, 128, 480, 1023, 2047])
 .ret))
theorem ok82 : Tryz.f82.body.bind (comp Tryz.prog) = some c82 := by kernel_rfl
def c84 : IR :=
 (xr [⟨(some 2), .box 40 2 (.t 0), none⟩, ⟨(some 3), .box 40 2 (.t 1), none⟩, ⟨(some 4), .new 40 2 [(.bool false), .nils], none⟩]
 (.seq (xr [xf 5 0 2, xl 6 5, xf 7 0 3, xl 8 7, ⟨(some 9), .beq false (.t 6) (.t 8), none⟩]
 (
 xd 9
 (.seq (.reg true [xf 10 0 2, xl 11 10, xf 12 1 2, xl 13 12, xf 14 1 3, xl 15 14, xc2 16 74 13 15, xc2 17 46 11 16, xs 2 4 17] [0, 1, 0, 4, 0, 16, 60, 127, 255])
 .ret)
 .skip))
 (.seq (xr [xf 18 1 2, xl 19 18, xf 20 1 3, xl 21 20, xc2 22 87 19 21, xbk 23 .geq 22 0]
 (
 xd 23
 (.seq (.reg true [xf 24 0 2, xl 25 24, xf 26 1 2, xl 27 26, xf 28 1 3, xl 29 28, xc2 30 121 27 29, xc2 31 46 25 30, xs 2 4 31] [0, 1, 0, 4, 0, 16, 60, 127, 255])
 .ret)
 .skip))
 (.seq (.reg true [xf 32 0 3, xl 33 32, xf 34 1 3, xl 35 34, xf 36 1 2, xl 37 36, xc2 38 121 35 37, xc2 39 46 33 38, xs 2 4 39] [0, 1, 0, 4, 0, 16, 60, 127, 255])
 .ret))))
theorem ok84 : Tryz.f84.body.bind (comp Tryz.prog) = some c84 := by kernel_rfl
def c85 : IR :=
 (xr [⟨(some 1), .box 40 2 (.t 0), none⟩, ⟨(some 2), .new 40 2 [(.bool false), .nils], none⟩]
 (xr [xf 3 0 1, xl 4 3, xn 5 4, xf 6 1 1, xl 7 6, xc2 8 46 5 7, xs 2 2 8]
 .ret))
theorem ok85 : Tryz.f85.body.bind (comp Tryz.prog) = some c85 := by kernel_rfl
def c86 : IR :=
 (xr [⟨(some 1), .box 40 2 (.t 0), none⟩, xk 2 0]
 (.seq (xr [xf 3 0 1, xl 4 3]
 (
 xd 4
 (xr [xk 2 (-1)]
 .ret)
 .skip))
 (.seq (xr [xf 5 1 1, xl 6 5, xL 7 6, xbk 8 .gtr 7 0]
 (
 xd 8
 (xr [xk 2 1]
 .ret)
 .skip))
 (xr [xk 2 0]
 .ret))))
theorem ok86 : Tryz.f86.body.bind (comp Tryz.prog) = some c86 := by kernel_rfl
def c221 : IR :=
 (xr [⟨(some 1), .box 40 2 (.t 0), none⟩, ⟨(some 2), .mv (.c (.str ⟨#[]⟩)), none⟩]
 (.seq (xr [xf 3 0 1, xl 4 3]
 (
 xd 4
 (xr [xf 5 1 1, xl 6 5, xc1 7 192 6, ⟨(some 8), .bin .add (.c (.str ⟨#[45]⟩)) (.t 7), none⟩, xm 2 8]
 .ret)
 .skip))
 (xr [xf 9 1 1, xl 10 9, xc1 11 192 10, xm 2 11]
 .ret)))
theorem ok221 : Tryz.f221.body.bind (comp Tryz.prog) = some c221 := by kernel_rfl
def c222 : IR :=
 (xr [⟨(some 2), .new 40 2 [(.bool false), .nils], none⟩, xkb 3 false]
 (xr [xm 7 0, xS 8 7, xbk 9 .gtr 8 0, xm 10 9, xmg 11 0 10 true, ⟨(some 12), .idxs (.t 11) (.c (.int .i64 0)), (some ((some 10), true))⟩, ⟨(some 13), .bin .eql (.t 12) (.c (.int .u8 45)), (some ((some 10), true))⟩, xp 14 10 13 false, xm 4 14]
 (.seq (xr [xm 15 4]
 (
 xd 15
 (xR [xm 16 0, ⟨(some 17), .slcS (.t 16) (some (.c (.int .i64 1))) none, none⟩, xm 0 17])
 .skip))
 (xr [xm 19 0, xc1 20 223 19, xm 18 20, xe 21 18 0, xe 22 18 1, xm 5 21, xm 6 22]
 (.seq (xr [xm 23 6, xn 24 23]
 (
 xd 24
 (xr [⟨(some 25), .build [(.bool false), .nils] [], none⟩, xs 2 2 25, xkb 3 false]
 .ret)
 .skip))
 (xr [xm 26 4, xm 27 5, xc2 28 46 26 27, xs 2 2 28, xkb 3 true]
 .ret))))))
theorem ok222 : Tryz.f222.body.bind (comp Tryz.prog) = some c222 := by kernel_rfl
end Go.Proofs.YtodinbldpcldiaaGreatDoorK.NatIr
