/-
 The compiled bodies, printed: IrNat.
-/
import Derived.Test.YtoiepmpggabglaaGreatDoorKSh
import Derived.Test.YtoiepmpggabglaaGreatDoorProg
set_option linter.all false
set_option maxHeartbeats 4000000
namespace Go.Proofs.YtoiepmpggabglaaGreatDoorK.NatIr
open AI Go.Proofs
def c18 : IR :=
 (xr [⟨(some 2), .box 37 1 (.t 0), none⟩, ⟨(some 3), .box 37 1 (.t 1), none⟩, xk 4 0]
 (.seq (.reg true [xf 8 0 2, xl 9 8, xc1 10 41 9, ⟨(some 11), .fld false 0 1 (.t 10), none⟩, xf 12 0 3, xl 13 12, xc1 14 41 13, ⟨(some 15), .fld false 0 1 (.t 14), none⟩, xm 5 11, xm 6 15] [0, 1, 3, 7, 0, 16, 55, 119, 127, 511])
 (.seq (xr [xm 16 5, xL 17 16, xm 18 6, xL 19 18, xb 20 .neq 17 19]
 (
 xd 20
 (xr [xm 21 5, xL 22 21, xm 23 6, xL 24 23, xb 25 .lss 22 24, xc1 26 42 25, xm 4 26]
 .ret)
 .skip))
 (.seq (xr [xm 27 5, xL 28 27, xbk 29 .sub 28 1, xm 7 29]
 (.block 0 (.loop (.seq (xr [xm 30 7, xbk 31 .geq 30 0]
  (
  xd 31
  .skip
  (.exit 0)))
  (
  .seq (.block 1 (.seq (.reg true [xm 34 5, xm 35 7, xi 36 1 34 35, xl 37 36, xm 38 6, xm 39 7, xi 40 1 38 39, xl 41 40, xb 42 .neq 37 41] [0, 0, 3, 7, 0, 0, 48, 112, 255])
  (
   xd 42
   (.seq (.reg true [xm 43 5, xm 44 7, xi 45 1 43 44, xl 46 45, xm 47 6, xm 48 7, xi 49 1 47 48, xl 50 49, xb 51 .lss 46 50, xc1 52 42 51, xm 4 52] [0, 0, 3, 7, 0, 0, 48, 112, 255, 511, 1023])
   .ret)
   .skip)))
  (xR [xm 32 7, xbk 33 .sub 32 1, xm 7 33]))))))
 (xr [xk 4 0]
 .ret)))))
theorem ok18 : Tryz.f18.body.bind (comp Tryz.prog) = some c18 := by kernel_rfl
def c21 : IR :=
 (xr [⟨(some 1), .box 37 1 (.t 0), none⟩, ⟨(some 2), .mv (.c (.str ⟨#[]⟩)), none⟩]
 (xr [xf 8 0 1, xl 9 8, xc1 10 41 9, ⟨(some 11), .fld false 0 1 (.t 10), none⟩, xm 3 11]
 (.seq (xr [xm 12 3, xL 13 12, xbk 14 .eql 13 0]
 (
 xd 14
 (xr [⟨(some 2), .mv (.c (.str ⟨#[48]⟩)), none⟩]
 .ret)
 .skip))
 (xr [⟨(some 4), .mv (.c .nils), none⟩]
 (.seq (.block 0 (.loop (.seq (xr [xm 15 3, xL 16 15, xbk 17 .gtr 16 0]
  (
  xd 17
  .skip
  (.exit 0)))
  (
  .block 1 (xr [xm 19 3, ⟨(some 20), .call 45 [(.t 19), (.c (.int .u32 1000000000))], none⟩, xm 18 20, xe 21 18 0, xe 22 18 1, xm 5 21, xm 6 22]
  (xr [xm 23 5, xc1 24 41 23, ⟨(some 25), .fld false 0 1 (.t 24), none⟩, xm 3 25]
  (xr [xm 26 6, ⟨(some 27), .conv .i64 (.t 26), none⟩, xc1 28 46 27, xm 7 28]
  (.seq (xr [xm 29 3, xL 30 29, xbk 31 .gtr 30 0]
  (
   xd 31
   (xR [xm 32 7, xS 33 32, ⟨(some 34), .bin .sub (.c (.int .i64 9)) (.t 33), none⟩, ⟨(some 35), .call 47 [(.c (.str ⟨#[48]⟩)), (.t 34)], none⟩, xm 36 7, xb 37 .add 35 36, xm 7 37])
   .skip))
  (xR [xm 38 4, xm 39 7, ⟨(some 40), .lit 9 1 1 [(.str ⟨#[]⟩)] [(0, 1, (.t 39))], none⟩, ⟨(some 41), .app 9 1 16 (.t 38) (.t 40), none⟩, xm 4 41])))))))))
 (xr [xm 42 4, xc1 43 48 42]
 (xr [xm 44 4, ⟨(some 45), .call 15 [(.t 44), (.c (.str ⟨#[]⟩))], none⟩, xm 2 45]
 .ret)))))))
theorem ok21 : Tryz.f21.body.bind (comp Tryz.prog) = some c21 := by kernel_rfl
def c41 : IR :=
 (xr [⟨(some 2), .new 37 1 [.nils], none⟩]
 (.seq (.block 0 (.loop (.seq (xr [xm 3 0, xL 4 3, xbk 5 .gtr 4 0, xm 6 5, xmg 7 0 6 true, xmg 8 0 6 true, ⟨(some 9), .lenL (.t 8), (some ((some 6), true))⟩, xbg 10 .sub 9 1 6 true, ⟨(some 11), .iaddrS 1 (.t 7) (.t 10), (some ((some 6), true))⟩, xlg 12 11 6 true, ⟨(some 13), .bin .eql (.t 12) (.c (.int .u32 0)), (some ((some 6), true))⟩, xp 14 6 13 false]
  (
  xd 14
  .skip
  (.exit 0)))
  (.block 1 (xR [xm 15 0, xm 16 0, xL 17 16, xbk 18 .sub 17 1, ⟨(some 19), .slcL 1 (.t 15) none (some (.t 18)), none⟩, xm 0 19])))))
 (xr [xm 20 0, ⟨(some 21), .build [.nils] [(0, 1, (.t 20))], none⟩, xs 1 2 21]
 .ret)))
theorem ok41 : Tryz.f41.body.bind (comp Tryz.prog) = some c41 := by kernel_rfl
def c42 : IR :=
 (xr [xk 2 0]
 (.seq (xr [xm 3 0]
 (
 xd 3
 (xr [xk 2 (-1)]
 .ret)
 .skip))
 (xr [xk 2 1]
 .ret)))
theorem ok42 : Tryz.f42.body.bind (comp Tryz.prog) = some c42 := by kernel_rfl
def c43 : IR :=
 (xr [⟨(some 2), .new 37 1 [.nils], none⟩]
 (xr [xm 3 0, ⟨(some 4), .conv .u32 (.t 3), none⟩, xm 5 0, ⟨(some 6), .bin .shr (.t 5) (.c (.int .u64 32)), none⟩, ⟨(some 7), .conv .u32 (.t 6), none⟩, ⟨(some 8), .lit 104 1 2 [(.int .u32 0), (.int .u32 0)] [(0, 1, (.t 4)), (1, 1, (.t 7))], none⟩, xc1 9 41 8, xs 1 2 9]
 .ret))
theorem ok43 : Tryz.f43.body.bind (comp Tryz.prog) = some c43 := by kernel_rfl
def c45 : IR :=
 (xr [⟨(some 4), .mv (.c .nils), none⟩, ⟨(some 5), .mv (.c (.int .u32 0)), none⟩]
 (xr [xm 9 0, xL 10 9, ⟨(some 11), .make 104 1 4 [(.int .u32 0)] (.t 10), none⟩, xm 6 11]
 (xr [⟨(some 7), .mv (.c (.int .u64 0)), none⟩]
 (.seq (xr [xm 12 0, xL 13 12, xbk 14 .sub 13 1, xm 8 14]
 (.block 0 (.loop (.seq (xr [xm 15 8, xbk 16 .geq 15 0]
  (
  xd 16
  .skip
  (.exit 0)))
  (
  .seq (.block 1 (xr [xm 19 7, ⟨(some 20), .bin .shl (.t 19) (.c (.int .u64 32)), none⟩, xm 21 0, xm 22 8, xi 23 1 21 22, xl 24 23, ⟨(some 25), .conv .u64 (.t 24), none⟩, xb 26 .or 20 25, xm 7 26]
  (xr [xm 27 6, xm 28 8, xm 29 7, xm 30 1, ⟨(some 31), .conv .u64 (.t 30), none⟩, xb 32 .quo 29 31, ⟨(some 33), .conv .u32 (.t 32), none⟩, xi 34 1 27 28, xs 1 34 33]
  (xR [xm 35 7, xm 36 1, ⟨(some 37), .conv .u64 (.t 36), none⟩, xb 38 .rem 35 37, xm 7 38]))))
  (xR [xm 17 8, xbk 18 .sub 17 1, xm 8 18]))))))
 (xr [xm 39 6, xm 40 7, ⟨(some 41), .conv .u32 (.t 40), none⟩, xm 4 39, xm 5 41]
 .ret)))))
theorem ok45 : Tryz.f45.body.bind (comp Tryz.prog) = some c45 := by kernel_rfl
def c60 : IR :=
 (xr [⟨(some 1), .box 37 1 (.t 0), none⟩, ⟨(some 2), .mv (.c (.int .u64 0)), none⟩, xkb 3 false]
 (xr [⟨(some 4), .mv (.c (.int .u64 0)), none⟩]
 (xr [xf 8 0 1, xl 9 8, xc1 10 41 9, ⟨(some 11), .fld false 0 1 (.t 10), none⟩, xm 5 11]
 (.seq (xr [xm 12 5, xL 13 12, xbk 14 .mul 13 32, xbk 15 .gtr 14 64]
 (
 xd 15
 (xr [⟨(some 2), .mv (.c (.int .u64 0)), none⟩, xkb 3 false]
 .ret)
 .skip))
 (.seq (xr [xm 16 5, xL 17 16, xk 18 0]
 (.block 0 (.loop (xr [xb 19 .lss 18 17]
  (
  .seq (xd 19
  .skip
  (.exit 0))
  (
  .seq (.block 1 (xr [xm 20 18, xi 21 1 16 18, xl 22 21, xm 6 20, xm 7 22]
  (xR [xm 23 4, xm 24 7, ⟨(some 25), .conv .u64 (.t 24), none⟩, xm 26 6, ⟨(some 27), .bin .mul (.c (.int .i64 32)) (.t 26), none⟩, xb 28 .shl 25 27, xb 29 .or 23 28, xm 4 29])))
  (xR [xbk 30 .add 18 1, xm 18 30])))))))
 (xr [xm 31 4, xm 2 31, xkb 3 true]
 .ret))))))
theorem ok60 : Tryz.f60.body.bind (comp Tryz.prog) = some c60 := by kernel_rfl
def c74 : IR :=
 (xr [⟨(some 2), .new 37 1 [.nils], none⟩, xkb 3 false]
 (.seq (xr [xm 11 0, ⟨(some 12), .bin .eql (.t 11) (.c (.str ⟨#[]⟩)), none⟩, xm 13 12, xmg 14 0 13 false, ⟨(some 15), .call 71 [(.t 14), (.c (.str ⟨#[48, 49, 50, 51, 52, 53, 54, 55, 56, 57]⟩))], (some ((some 13), false))⟩, ⟨(some 16), .bin .neq (.t 15) (.c (.str ⟨#[]⟩)), (some ((some 13), false))⟩, xpb 17 13 true 16]
 (
 xd 17
 (xr [⟨(some 18), .build [.nils] [], none⟩, xs 1 2 18, xkb 3 false]
 .ret)
 .skip))
 (xr [⟨(some 4), .mv (.c .nils), none⟩]
 (.seq (.block 0 (.loop (.seq (xr [xm 19 0, xS 20 19, xbk 21 .gtr 20 0]
  (
  xd 21
  .skip
  (.exit 0)))
  (
  .block 1 (xr [xm 22 0, xS 23 22, xbk 24 .sub 23 1, xbk 25 .rem 24 9, xbk 26 .add 25 1, xm 5 26]
  (xr [xm 28 0, xm 29 5, ⟨(some 30), .slcS (.t 28) none (some (.t 29)), none⟩, ⟨(some 31), .call 113 [(.t 30), (.c (.int .i64 10)), (.c (.int .i64 32))], none⟩, xm 27 31, xe 32 27 0, xe 33 27 1, xm 6 32, xm 7 33]
  (xr [xm 34 0, xm 35 5, ⟨(some 36), .slcS (.t 34) (some (.t 35)) none, none⟩, xm 0 36]
  (xr [xm 37 6, xm 8 37]
  (.seq (xr [xm 38 4, xL 39 38, xk 40 0]
  (.block 2 (.loop (xr [xb 41 .lss 40 39]
   (
    .seq (xd 41
    .skip
    (.exit 2))
   (
    .seq (.block 3 (xr [xm 42 40, xi 43 1 38 40, xl 44 43, xm 9 42, xm 10 44]
    (xr [xm 45 8, xm 46 10, ⟨(some 47), .conv .u64 (.t 46), none⟩, ⟨(some 48), .bin .mul (.t 47) (.c (.int .u64 1000000000)), none⟩, xb 49 .add 45 48, xm 8 49]
    (xr [xm 50 4, xm 51 9, xm 52 8, ⟨(some 53), .conv .u32 (.t 52), none⟩, xi 54 1 50 51, xs 1 54 53]
    (xR [xm 55 8, ⟨(some 56), .bin .shr (.t 55) (.c (.int .u64 32)), none⟩, xm 8 56])))))
   (xR [xbk 57 .add 40 1, xm 40 57])))))))
  (xr [xm 58 8, ⟨(some 59), .bin .gtr (.t 58) (.c (.int .u64 0)), none⟩]
  (
   xd 59
   (xR [xm 60 4, xm 61 8, ⟨(some 62), .conv .u32 (.t 61), none⟩, ⟨(some 63), .lit 104 1 1 [(.int .u32 0)] [(0, 1, (.t 62))], none⟩, ⟨(some 64), .app 104 1 4 (.t 60) (.t 63), none⟩, xm 4 64])
   .skip)))))))))))
 (xr [xm 65 4, ⟨(some 66), .build [.nils] [(0, 1, (.t 65))], none⟩, xs 1 2 66, xkb 3 true]
 .ret)))))
theorem ok74 : Tryz.f74.body.bind (comp Tryz.prog) = some c74 := by kernel_rfl
def c79 : IR :=
 (xr [⟨(some 2), .box 37 1 (.t 0), none⟩, ⟨(some 3), .box 37 1 (.t 1), none⟩, ⟨(some 4), .new 37 1 [.nils], none⟩]
 (.seq (.reg true [xf 8 0 2, xl 9 8, xc1 10 41 9, xf 11 0 3, xl 12 11, xc1 13 41 12, xs 1 2 10, xs 1 3 13] [0, 1, 3, 0, 8, 31, 63, 127])
 (.seq (.block 0 (.loop (.seq (xr [xf 14 0 3, xl 15 14, xL 16 15, xbk 17 .gtr 16 0]
  (
  xd 17
  .skip
  (.exit 0)))
  (
  .block 1 (xr [xg 19 1 2, xg 20 1 3, xc2 21 80 19 20, xm 18 21, xe 22 18 0, xe 23 18 1, xe 24 18 2, ⟨(some 5), .new 37 1 [.nils], none⟩, ⟨(some 6), .new 37 1 [.nils], none⟩, xs 1 5 22, xs 1 6 23, xm 7 24]
  (.reg true [xg 25 1 3, xg 26 1 6, xs 1 2 25, xs 1 3 26] [0, 0, 1, 7]))))))
 (xr [xf 27 0 2, xl 28 27, xc1 29 116 28, ⟨(some 30), .build [.nils] [(0, 1, (.t 29))], none⟩, xs 1 4 30]
 .ret))))
theorem ok79 : Tryz.f79.body.bind (comp Tryz.prog) = some c79 := by kernel_rfl
def c80 : IR :=
 (xr [⟨(some 2), .box 37 1 (.t 0), none⟩, ⟨(some 3), .box 37 1 (.t 1), none⟩, ⟨(some 4), .new 37 1 [.nils], none⟩, ⟨(some 5), .new 37 1 [.nils], none⟩, xkb 6 false]
 (.seq (.reg true [xf 16 0 2, xl 17 16, xc1 18 41 17, ⟨(some 19), .fld false 0 1 (.t 18), none⟩, xf 20 0 3, xl 21 20, xc1 22 41 21, ⟨(some 23), .fld false 0 1 (.t 22), none⟩, xm 7 19, xm 8 23] [0, 1, 3, 7, 0, 16, 55, 119, 127, 511])
 (
 .seq (.block 0 (xr [xm 25 8, xL 26 25, xbk 27 .eql 26 0, xm 24 27]
 (
  xd 24
  (xr [⟨(some 28), .build [.nils] [], none⟩, ⟨(some 29), .build [.nils] [], none⟩, xs 1 4 28, xs 1 5 29, xkb 6 false]
  .ret)
  (xr [xg 31 1 2, xg 32 1 3, xc2 33 18 31 32, xbk 34 .lss 33 0, xm 30 34]
  (
  xd 30
  (xr [⟨(some 35), .build [.nils] [], none⟩, xm 36 7, xc1 37 116 36, ⟨(some 38), .build [.nils] [(0, 1, (.t 37))], none⟩, xs 1 4 35, xs 1 5 38, xkb 6 true]
  .ret)
  (xr [xm 40 8, xL 41 40, xbk 42 .eql 41 1, xm 39 42]
  (
   xd 39
   (xr [xm 44 7, xm 45 8, ⟨(some 46), .iaddrS 1 (.t 45) (.c (.int .i64 0)), none⟩, xl 47 46, xc2 48 45 44 47, xm 43 48, xe 49 43 0, xe 50 43 1, xm 9 49, xm 10 50]
   (xr [xm 51 9, xc1 52 41 51, xm 53 10, ⟨(some 54), .conv .u64 (.t 53), none⟩, xc1 55 43 54, xs 1 4 52, xs 1 5 55, xkb 6 true]
   .ret))
   .skip)))))))
 (xr [xm 56 8, xm 57 8, xL 58 57, xbk 59 .sub 58 1, xi 60 1 56 59, xl 61 60, xc1 62 117 61, xm 11 62]
 (.seq (.reg true [xm 63 7, xm 64 11, xc2 65 118 63 64, xm 66 8, xm 67 11, xc2 68 118 66 67, xm 69 8, xL 70 69, ⟨(some 71), .slcL 1 (.t 68) none (some (.t 70)), none⟩, xm 12 65, xm 13 71] [0, 0, 3, 0, 0, 31, 0, 64, 255, 63, 1023])
 (xr [xm 72 7, xL 73 72, xm 74 8, xL 75 74, xb 76 .sub 73 75, xbk 77 .add 76 1, ⟨(some 78), .make 104 1 4 [(.int .u32 0)] (.t 77), none⟩, xm 14 78]
 (.seq (xr [xm 79 14, xL 80 79, xbk 81 .sub 80 1, xm 15 81]
 (.block 1 (.loop (.seq (xr [xm 82 15, xbk 83 .geq 82 0]
  (
  xd 83
  .skip
  (.exit 1)))
  (.seq (.block 2 (xR [xm 86 14, xm 87 15, xm 88 12, xm 89 15, xm 90 15, xm 91 13, xL 92 91, xb 93 .add 90 92, xbk 94 .add 93 1, ⟨(some 95), .slcL 1 (.t 88) (some (.t 89)) (some (.t 94)), none⟩, xm 96 13, xc2 97 119 95 96, xi 98 1 86 87, xs 1 98 97]))
  (xR [xm 84 15, xbk 85 .sub 84 1, xm 15 85]))))))
 (xr [xm 99 14, xc1 100 41 99, xm 101 12, xm 102 11, xc2 103 120 101 102, xc1 104 41 103, xs 1 4 100, xs 1 5 104, xkb 6 true]
 .ret))))))))
theorem ok80 : Tryz.f80.body.bind (comp Tryz.prog) = some c80 := by kernel_rfl
def c96 : IR :=
 (xr [⟨(some 2), .box 37 1 (.t 0), none⟩, ⟨(some 4), .new 37 1 [.nils], none⟩]
 (xr [⟨(some 6), .call 43 [(.c (.int .u64 1))], none⟩, ⟨(some 5), .new 37 1 [.nils], none⟩, xs 1 5 6]
 (.seq (.block 0 (.loop (.seq (xr [xm 7 1, xbk 8 .gtr 7 0]
  (
  xd 8
  .skip
  (.exit 0)))
  (
  .seq (.block 1 (.seq (xr [xm 11 1, xbk 12 .rem 11 2, xbk 13 .eql 12 1]
  (
   xd 13
   (xR [xg 14 1 5, xg 15 1 2, xc2 16 104 14 15, xs 1 5 16])
   .skip))
  (xr [xm 17 1, xbk 18 .gtr 17 1]
  (
   xd 18
   (xR [xg 19 1 2, xg 20 1 2, xc2 21 104 19 20, xs 1 2 21])
   .skip))))
  (xR [xm 9 1, xbk 10 .quo 9 2, xm 1 10])))))
 (xr [xg 22 1 5, xs 1 4 22]
 .ret))))
theorem ok96 : Tryz.f96.body.bind (comp Tryz.prog) = some c96 := by kernel_rfl
def c104 : IR :=
 (xr [⟨(some 2), .box 37 1 (.t 0), none⟩, ⟨(some 3), .box 37 1 (.t 1), none⟩, ⟨(some 4), .new 37 1 [.nils], none⟩]
 (xr [xf 11 0 2, xl 12 11, xL 13 12, xf 14 0 3, xl 15 14, xL 16 15, xb 17 .add 13 16, ⟨(some 18), .make 104 1 4 [(.int .u32 0)] (.t 17), none⟩, xm 5 18]
 (.seq (xr [xf 19 0 2, xl 20 19, xL 21 20, xk 22 0]
 (.block 0 (.loop (xr [xb 23 .lss 22 21]
  (
  .seq (xd 23
  .skip
  (.exit 0))
  (
  .seq (.block 1 (xr [xm 24 22, xi 25 1 20 22, xl 26 25, xm 6 24, xm 7 26]
  (xr [⟨(some 8), .mv (.c (.int .u64 0)), none⟩]
  (.seq (xr [xf 27 0 3, xl 28 27, xL 29 28, xk 30 0]
  (.block 2 (.loop (xr [xb 31 .lss 30 29]
   (
    .seq (xd 31
    .skip
    (.exit 2))
   (
    .seq (.block 3 (xr [xm 32 30, xi 33 1 28 30, xl 34 33, xm 9 32, xm 10 34]
    (xr [xm 35 8, xm 36 7, ⟨(some 37), .conv .u64 (.t 36), none⟩, xm 38 10, ⟨(some 39), .conv .u64 (.t 38), none⟩, xb 40 .mul 37 39, xm 41 5, xm 42 6, xm 43 9, xb 44 .add 42 43, xi 45 1 41 44, xl 46 45, ⟨(some 47), .conv .u64 (.t 46), none⟩, xb 48 .add 40 47, xb 49 .add 35 48, xm 8 49]
    (xr [xm 50 5, xm 51 6, xm 52 9, xb 53 .add 51 52, xm 54 8, ⟨(some 55), .conv .u32 (.t 54), none⟩, xi 56 1 50 53, xs 1 56 55]
    (xR [xm 57 8, ⟨(some 58), .bin .shr (.t 57) (.c (.int .u64 32)), none⟩, xm 8 58])))))
   (xR [xbk 59 .add 30 1, xm 30 59])))))))
  (xR [xm 60 5, xm 61 6, xf 62 0 3, xl 63 62, xL 64 63, xb 65 .add 61 64, xm 66 8, ⟨(some 67), .conv .u32 (.t 66), none⟩, xi 68 1 60 65, xs 1 68 67])))))
  (xR [xbk 69 .add 22 1, xm 22 69])))))))
 (xr [xm 70 5, xc1 71 41 70, xs 1 4 71]
 .ret))))
theorem ok104 : Tryz.f104.body.bind (comp Tryz.prog) = some c104 := by kernel_rfl
def c118 : IR :=
 (xr [⟨(some 4), .mv (.c .nils), none⟩]
 (xr [xm 9 0, xL 10 9, xbk 11 .add 10 1, ⟨(some 12), .make 104 1 4 [(.int .u32 0)] (.t 11), none⟩, xm 5 12]
 (xr [⟨(some 6), .mv (.c (.int .u64 0)), none⟩]
 (.seq (xr [xm 13 0, xL 14 13, xk 15 0]
 (.block 0 (.loop (xr [xb 16 .lss 15 14]
  (
  .seq (xd 16
  .skip
  (.exit 0))
  (
  .seq (.block 1 (xr [xm 17 15, xi 18 1 13 15, xl 19 18, xm 7 17, xm 8 19]
  (xr [xm 20 6, xm 21 8, ⟨(some 22), .conv .u64 (.t 21), none⟩, xm 23 1, xb 24 .shl 22 23, xb 25 .or 20 24, xm 6 25]
  (xr [xm 26 5, xm 27 7, xm 28 6, ⟨(some 29), .conv .u32 (.t 28), none⟩, xi 30 1 26 27, xs 1 30 29]
  (xR [xm 31 6, ⟨(some 32), .bin .shr (.t 31) (.c (.int .u64 32)), none⟩, xm 6 32])))))
  (xR [xbk 33 .add 15 1, xm 15 33])))))))
 (xr [xm 34 5, xm 35 0, xL 36 35, xm 37 6, ⟨(some 38), .conv .u32 (.t 37), none⟩, xi 39 1 34 36, xs 1 39 38]
 (xr [xm 40 5, xm 4 40]
 .ret))))))
theorem ok118 : Tryz.f118.body.bind (comp Tryz.prog) = some c118 := by kernel_rfl
def c119 : IR :=
 (xr [⟨(some 4), .mv (.c (.int .u32 0)), none⟩]
 (xr [xm 13 1, xL 14 13, xm 5 14]
 (.seq (.reg true [xm 15 0, xm 16 5, xi 17 1 15 16, xl 18 17, ⟨(some 19), .conv .u64 (.t 18), none⟩, ⟨(some 20), .bin .shl (.t 19) (.c (.int .u64 32)), none⟩, xm 21 0, xm 22 5, xbk 23 .sub 22 1, xi 24 1 21 23, xl 25 24, ⟨(some 26), .conv .u64 (.t 25), none⟩, xb 27 .or 20 26, xm 6 27] [0, 0, 3, 7, 15, 31, 0, 0, 128, 448, 960, 1984, 4095, 8191])
 (.seq (.reg true [xm 28 1, xm 29 5, xbk 30 .sub 29 1, xi 31 1 28 30, xl 32 31, ⟨(some 33), .conv .u64 (.t 32), none⟩, xm 34 1, xm 35 5, xbk 36 .sub 35 2, xi 37 1 34 36, xl 38 37, ⟨(some 39), .conv .u64 (.t 38), none⟩, xm 7 33, xm 8 39] [0, 0, 2, 7, 15, 31, 0, 0, 128, 448, 960, 1984, 63, 8191])
 (xr [xm 40 6, xm 41 7, xb 42 .quo 40 41, xm 9 42]
 (xr [xm 43 6, xm 44 7, xb 45 .rem 43 44, xm 10 45]
 (.seq (.block 0 (.loop (.seq (xr [xm 46 9, ⟨(some 47), .bin .geq (.t 46) (.c (.int .u64 4294967296)), none⟩, xm 48 47, xmg 49 10 48 false, ⟨(some 50), .bin .lss (.t 49) (.c (.int .u64 4294967296)), (some ((some 48), false))⟩, xmg 51 50 48 false, xmg 52 9 51 true, xmg 53 8 51 true, ⟨(some 54), .bin .mul (.t 52) (.t 53), (some ((some 51), true))⟩, xmg 55 10 51 true, ⟨(some 56), .bin .shl (.t 55) (.c (.int .u64 32)), (some ((some 51), true))⟩, xmg 57 0 51 true, xmg 58 5 51 true, xbg 59 .sub 58 2 51 true, ⟨(some 60), .iaddrS 1 (.t 57) (.t 59), (some ((some 51), true))⟩, xlg 61 60 51 true, ⟨(some 62), .conv .u64 (.t 61), (some ((some 51), true))⟩, ⟨(some 63), .bin .or (.t 56) (.t 62), (some ((some 51), true))⟩, ⟨(some 64), .bin .gtr (.t 54) (.t 63), (some ((some 51), true))⟩, ⟨(some 65), .pick (.t 51) (.t 64) (.c (.bool false)), (some ((some 48), false))⟩, xpb 66 48 true 65]
  (
  xd 66
  .skip
  (.exit 0)))
  (
  .block 1 (xr [xm 67 9, ⟨(some 68), .bin .sub (.t 67) (.c (.int .u64 1)), none⟩, xm 9 68]
  (xr [xm 69 10, xm 70 7, xb 71 .add 69 70, xm 10 71]
  (xr [xm 72 10, ⟨(some 73), .bin .geq (.t 72) (.c (.int .u64 4294967296)), none⟩]
  (
   xd 73
   (.exit 0)
   .skip))))))))
 (.seq (xr [xm 74 0, xm 75 1, xm 76 9, xc3 77 142 74 75 76, xn 78 77]
 (
 xd 78
 (xr [xm 79 9, ⟨(some 80), .conv .u32 (.t 79), none⟩, xm 4 80]
 .ret)
 .skip))
 (xr [⟨(some 11), .mv (.c (.int .u64 0)), none⟩]
 (.seq (xr [xm 81 5, xk 82 0]
 (.block 2 (.loop (xr [xb 83 .lss 82 81]
  (
  .seq (xd 83
  .skip
  (.exit 2))
  (
  .seq (.block 3 (xr [xm 84 82, xm 12 84]
  (.seq (.reg true [xm 85 11, xm 86 0, xm 87 12, xi 88 1 86 87, xl 89 88, ⟨(some 90), .conv .u64 (.t 89), none⟩, xm 91 1, xm 92 12, xi 93 1 91 92, xl 94 93, ⟨(some 95), .conv .u64 (.t 94), none⟩, xb 96 .add 90 95, xb 97 .add 85 96, xm 11 97] [0, 0, 0, 6, 14, 30, 0, 0, 192, 448, 960, 2046, 4095, 8191])
  (xr [xm 98 0, xm 99 12, xm 100 11, ⟨(some 101), .conv .u32 (.t 100), none⟩, xi 102 1 98 99, xs 1 102 101]
  (xR [xm 103 11, ⟨(some 104), .bin .shr (.t 103) (.c (.int .u64 32)), none⟩, xm 11 104])))))
  (xR [xbk 105 .add 82 1, xm 82 105])))))))
 (xr [xm 106 0, xm 107 5, xi 108 1 106 107, xl 109 108, xm 110 11, ⟨(some 111), .conv .u32 (.t 110), none⟩, xb 112 .add 109 111, xi 113 1 106 107, xs 1 113 112]
 (xr [xm 114 9, ⟨(some 115), .bin .sub (.t 114) (.c (.int .u64 1)), none⟩, ⟨(some 116), .conv .u32 (.t 115), none⟩, xm 4 116]
 .ret))))))))))))
theorem ok119 : Tryz.f119.body.bind (comp Tryz.prog) = some c119 := by kernel_rfl
def c120 : IR :=
 (xr [⟨(some 4), .mv (.c .nils), none⟩]
 (xr [xm 7 0, xL 8 7, ⟨(some 9), .make 104 1 4 [(.int .u32 0)] (.t 8), none⟩, xm 5 9]
 (.seq (xr [xm 10 0, xL 11 10, xk 12 0]
 (.block 0 (.loop (xr [xb 13 .lss 12 11]
  (
  .seq (xd 13
  .skip
  (.exit 0))
  (
  .seq (.block 1 (xr [xm 14 12, xm 6 14]
  (xR [xm 15 5, xm 16 6, xm 17 0, xm 18 6, xbk 19 .add 18 1, xc2 20 143 17 19, ⟨(some 21), .bin .shl (.t 20) (.c (.int .u64 32)), none⟩, xm 22 0, xm 23 6, xc2 24 143 22 23, xb 25 .or 21 24, xm 26 1, xb 27 .shr 25 26, ⟨(some 28), .conv .u32 (.t 27), none⟩, xi 29 1 15 16, xs 1 29 28])))
  (xR [xbk 30 .add 12 1, xm 12 30])))))))
 (xr [xm 31 5, xm 4 31]
 .ret))))
theorem ok120 : Tryz.f120.body.bind (comp Tryz.prog) = some c120 := by kernel_rfl
def c130 : IR :=
 (xr [⟨(some 2), .box 37 1 (.t 0), none⟩, ⟨(some 3), .box 37 1 (.t 1), none⟩, ⟨(some 4), .new 37 1 [.nils], none⟩]
 (xr [xf 8 0 2, xl 9 8, xL 10 9, xf 11 0 3, xl 12 11, xL 13 12, ⟨(some 14), .mx (.t 10) (.t 13), none⟩, xbk 15 .add 14 1, ⟨(some 16), .make 104 1 4 [(.int .u32 0)] (.t 15), none⟩, xm 5 16]
 (xr [⟨(some 6), .mv (.c (.int .u64 0)), none⟩]
 (.seq (xr [xm 17 5, xL 18 17, xk 19 0]
 (.block 0 (.loop (xr [xb 20 .lss 19 18]
  (
  .seq (xd 20
  .skip
  (.exit 0))
  (
  .seq (.block 1 (xr [xm 21 19, xm 7 21]
  (.seq (.reg true [xm 22 6, xf 23 0 2, xl 24 23, xm 25 7, xc2 26 143 24 25, xf 27 0 3, xl 28 27, xm 29 7, xc2 30 143 28 29, xb 31 .add 26 30, xb 32 .add 22 31, xm 6 32] [0, 0, 2, 0, 14, 0, 32, 0, 254, 510, 1023, 2047])
  (xr [xm 33 5, xm 34 7, xm 35 6, ⟨(some 36), .conv .u32 (.t 35), none⟩, xi 37 1 33 34, xs 1 37 36]
  (xR [xm 38 6, ⟨(some 39), .bin .shr (.t 38) (.c (.int .u64 32)), none⟩, xm 6 39])))))
  (xR [xbk 40 .add 19 1, xm 19 40])))))))
 (xr [xm 41 5, xc1 42 41 41, xs 1 4 42]
 .ret)))))
theorem ok130 : Tryz.f130.body.bind (comp Tryz.prog) = some c130 := by kernel_rfl
def c142 : IR :=
 (xr [xkb 6 false]
 (xr [⟨(some 7), .mv (.c (.int .u64 0)), none⟩, ⟨(some 8), .mv (.c (.int .u64 0)), none⟩]
 (.seq (xr [xm 13 1, xL 14 13, xk 15 0]
 (.block 0 (.loop (xr [xb 16 .lss 15 14]
  (
  .seq (xd 16
  .skip
  (.exit 0))
  (
  .seq (.block 1 (xr [xm 17 15, xm 9 17]
  (xr [xm 18 7, xm 19 2, xm 20 1, xm 21 9, xi 22 1 20 21, xl 23 22, ⟨(some 24), .conv .u64 (.t 23), none⟩, xb 25 .mul 19 24, xb 26 .add 18 25, xm 7 26]
  (xr [xm 27 0, xm 28 9, xi 29 1 27 28, xl 30 29, ⟨(some 31), .conv .u64 (.t 30), none⟩, xm 32 7, ⟨(some 33), .conv .u32 (.t 32), none⟩, ⟨(some 34), .conv .u64 (.t 33), none⟩, xb 35 .sub 31 34, xm 36 8, xb 37 .sub 35 36, xm 10 37]
  (xr [xm 38 0, xm 39 9, xm 40 10, ⟨(some 41), .conv .u32 (.t 40), none⟩, xi 42 1 38 39, xs 1 42 41]
  (xr [xm 43 10, ⟨(some 44), .bin .shr (.t 43) (.c (.int .u64 32)), none⟩, ⟨(some 45), .bin .and (.t 44) (.c (.int .u64 1)), none⟩, xm 8 45]
  (xR [xm 46 7, ⟨(some 47), .bin .shr (.t 46) (.c (.int .u64 32)), none⟩, xm 7 47])))))))
  (xR [xbk 48 .add 15 1, xm 15 48])))))))
 (xr [xm 49 1, xL 50 49, xm 11 50]
 (xr [xm 51 0, xm 52 11, xi 53 1 51 52, xl 54 53, ⟨(some 55), .conv .u64 (.t 54), none⟩, xm 56 7, xb 57 .sub 55 56, xm 58 8, xb 59 .sub 57 58, xm 12 59]
 (xr [xm 60 0, xm 61 11, xm 62 12, ⟨(some 63), .conv .u32 (.t 62), none⟩, xi 64 1 60 61, xs 1 64 63]
 (xr [xm 65 12, ⟨(some 66), .bin .shr (.t 65) (.c (.int .u64 32)), none⟩, ⟨(some 67), .bin .neq (.t 66) (.c (.int .u64 0)), none⟩, xm 6 67]
 .ret)))))))
theorem ok142 : Tryz.f142.body.bind (comp Tryz.prog) = some c142 := by kernel_rfl
def c143 : IR :=
 (xr [⟨(some 4), .mv (.c (.int .u64 0)), none⟩]
 (.seq (xr [xm 5 1, xm 6 0, xL 7 6, xb 8 .lss 5 7]
 (
 xd 8
 (xr [xm 9 0, xm 10 1, xi 11 1 9 10, xl 12 11, ⟨(some 13), .conv .u64 (.t 12), none⟩, xm 4 13]
 .ret)
 .skip))
 (xr [⟨(some 4), .mv (.c (.int .u64 0)), none⟩]
 .ret)))
theorem ok143 : Tryz.f143.body.bind (comp Tryz.prog) = some c143 := by kernel_rfl
end Go.Proofs.YtoiepmpggabglaaGreatDoorK.NatIr
