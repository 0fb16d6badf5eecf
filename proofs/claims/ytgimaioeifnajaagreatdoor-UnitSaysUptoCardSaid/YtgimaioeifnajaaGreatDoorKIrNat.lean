/-
  The compiled bodies, printed: IrNat.
-/
import Derived.Test.YtgimaioeifnajaaGreatDoorKSh
import Derived.Test.YtgimaioeifnajaaGreatDoorProg
set_option linter.all false
set_option maxHeartbeats 4000000
namespace Go.Proofs.YtgimaioeifnajaaGreatDoorK.NatIr
open AI Go.Proofs
def c19 : IR :=
 (xr [⟨(some 1), .box 50 1 (.t 0), none⟩, xkb 2 false]
 (xr [xf 3 0 1, xl 4 3, xL 5 4, xbk 6 .eql 5 0, xm 7 6, xfg 8 0 1 7 false, xlg 9 8 7 false, xfg 10 0 1 7 false, xlg 11 10 7 false, ⟨(some 12), .lenL (.t 11), (some ((some 7), false))⟩, xbg 13 .sub 12 1 7 false, ⟨(some 14), .iaddrS 1 (.t 9) (.t 13), (some ((some 7), false))⟩, xlg 15 14 7 false, ⟨(some 16), .bin .neq (.t 15) (.c (.int .u32 0)), (some ((some 7), false))⟩, xpb 17 7 true 16, xm 2 17]
 .ret))
theorem ok19 : Tryz.f19.body.bind (comp Tryz.prog) = some c19 := by kernel_rfl
def c21 : IR :=
 (xr [⟨(some 1), .box 50 1 (.t 0), none⟩, ⟨(some 2), .mv (.c (.str ⟨#[]⟩)), none⟩]
 (xr [xf 8 0 1, xl 9 8, xc1 10 38 9, ⟨(some 11), .fld false 0 1 (.t 10), none⟩, xm 3 11]
 (.seq (xr [xm 12 3, xL 13 12, xbk 14 .eql 13 0]
 (xd 14
  (xr [⟨(some 2), .mv (.c (.str ⟨#[48]⟩)), none⟩]
  .ret)
  .skip))
 (xr [⟨(some 4), .mv (.c .nils), none⟩]
 (.seq (.block 0 (.loop (.seq (xr [xm 15 3, xL 16 15, xbk 17 .gtr 16 0]
   (xd 17
    .skip
    (.exit 0)))
   (.block 1 (xr [xm 19 3, ⟨(some 20), .call 39 [(.t 19), (.c (.int .u32 1000000000))], none⟩, xm 18 20, xe 21 18 0, xe 22 18 1, xm 5 21, xm 6 22]
    (xr [xm 23 5, xc1 24 38 23, ⟨(some 25), .fld false 0 1 (.t 24), none⟩, xm 3 25]
    (xr [xm 26 6, ⟨(some 27), .conv .i64 (.t 26), none⟩, xc1 28 40 27, xm 7 28]
    (.seq (xr [xm 29 3, xL 30 29, xbk 31 .gtr 30 0]
    (xd 31
     (xR [xm 32 7, xS 33 32, ⟨(some 34), .bin .sub (.c (.int .i64 9)) (.t 33), none⟩, ⟨(some 35), .call 41 [(.c (.str ⟨#[48]⟩)), (.t 34)], none⟩, xm 36 7, xb 37 .add 35 36, xm 7 37])
     .skip))
    (xR [xm 38 4, xm 39 7, ⟨(some 40), .lit 9 1 1 [(.str ⟨#[]⟩)] [(0, 1, (.t 39))], none⟩, ⟨(some 41), .app 9 1 16 (.t 38) (.t 40), none⟩, xm 4 41])))))))))
 (xr [xm 42 4, xc1 43 42 42]
 (xr [xm 44 4, ⟨(some 45), .call 27 [(.t 44), (.c (.str ⟨#[]⟩))], none⟩, xm 2 45]
 .ret)))))))
theorem ok21 : Tryz.f21.body.bind (comp Tryz.prog) = some c21 := by kernel_rfl
def c23 : IR :=
 (xr [⟨(some 2), .new 50 1 [.nils], none⟩]
 (xr [xm 3 0, ⟨(some 4), .conv .u32 (.t 3), none⟩, xm 5 0, ⟨(some 6), .bin .shr (.t 5) (.c (.int .u64 32)), none⟩, ⟨(some 7), .conv .u32 (.t 6), none⟩, ⟨(some 8), .lit 79 1 2 [(.int .u32 0), (.int .u32 0)] [(0, 1, (.t 4)), (1, 1, (.t 7))], none⟩, xc1 9 38 8, xs 1 2 9]
 .ret))
theorem ok23 : Tryz.f23.body.bind (comp Tryz.prog) = some c23 := by kernel_rfl
def c37 : IR :=
 (xr [⟨(some 2), .box 50 1 (.t 0), none⟩, ⟨(some 3), .box 50 1 (.t 1), none⟩, ⟨(some 4), .new 50 1 [.nils], none⟩]
 (xr [xf 8 0 2, xl 9 8, xL 10 9, xf 11 0 3, xl 12 11, xL 13 12, ⟨(some 14), .mx (.t 10) (.t 13), none⟩, xbk 15 .add 14 1, ⟨(some 16), .make 79 1 4 [(.int .u32 0)] (.t 15), none⟩, xm 5 16]
 (xr [⟨(some 6), .mv (.c (.int .u64 0)), none⟩]
 (.seq (xr [xm 17 5, xL 18 17, xk 19 0]
 (.block 0 (.loop (xr [xb 20 .lss 19 18]
   (.seq (xd 20
    .skip
    (.exit 0))
   (.seq (.block 1 (xr [xm 21 19, xm 7 21]
    (.seq (.reg true [xm 22 6, xf 23 0 2, xl 24 23, xm 25 7, xc2 26 69 24 25, xf 27 0 3, xl 28 27, xm 29 7, xc2 30 69 28 29, xb 31 .add 26 30, xb 32 .add 22 31, xm 6 32] [0, 0, 2, 0, 14, 0, 32, 0, 254, 510, 1023, 2047])
    (xr [xm 33 5, xm 34 7, xm 35 6, ⟨(some 36), .conv .u32 (.t 35), none⟩, xi 37 1 33 34, xs 1 37 36]
    (xR [xm 38 6, ⟨(some 39), .bin .shr (.t 38) (.c (.int .u64 32)), none⟩, xm 6 39])))))
   (xR [xbk 40 .add 19 1, xm 19 40])))))))
 (xr [xm 41 5, xc1 42 38 41, xs 1 4 42]
 .ret)))))
theorem ok37 : Tryz.f37.body.bind (comp Tryz.prog) = some c37 := by kernel_rfl
def c38 : IR :=
 (xr [⟨(some 2), .new 50 1 [.nils], none⟩]
 (.seq (.block 0 (.loop (.seq (xr [xm 3 0, xL 4 3, xbk 5 .gtr 4 0, xm 6 5, xmg 7 0 6 true, xmg 8 0 6 true, ⟨(some 9), .lenL (.t 8), (some ((some 6), true))⟩, xbg 10 .sub 9 1 6 true, ⟨(some 11), .iaddrS 1 (.t 7) (.t 10), (some ((some 6), true))⟩, xlg 12 11 6 true, ⟨(some 13), .bin .eql (.t 12) (.c (.int .u32 0)), (some ((some 6), true))⟩, xp 14 6 13 false]
   (xd 14
    .skip
    (.exit 0)))
   (.block 1 (xR [xm 15 0, xm 16 0, xL 17 16, xbk 18 .sub 17 1, ⟨(some 19), .slcL 1 (.t 15) none (some (.t 18)), none⟩, xm 0 19])))))
 (xr [xm 20 0, ⟨(some 21), .build [.nils] [(0, 1, (.t 20))], none⟩, xs 1 2 21]
 .ret)))
theorem ok38 : Tryz.f38.body.bind (comp Tryz.prog) = some c38 := by kernel_rfl
def c39 : IR :=
 (xr [⟨(some 4), .mv (.c .nils), none⟩, ⟨(some 5), .mv (.c (.int .u32 0)), none⟩]
 (xr [xm 9 0, xL 10 9, ⟨(some 11), .make 79 1 4 [(.int .u32 0)] (.t 10), none⟩, xm 6 11]
 (xr [⟨(some 7), .mv (.c (.int .u64 0)), none⟩]
 (.seq (xr [xm 12 0, xL 13 12, xbk 14 .sub 13 1, xm 8 14]
 (.block 0 (.loop (.seq (xr [xm 15 8, xbk 16 .geq 15 0]
   (xd 16
    .skip
    (.exit 0)))
   (.seq (.block 1 (xr [xm 19 7, ⟨(some 20), .bin .shl (.t 19) (.c (.int .u64 32)), none⟩, xm 21 0, xm 22 8, xi 23 1 21 22, xl 24 23, ⟨(some 25), .conv .u64 (.t 24), none⟩, xb 26 .or 20 25, xm 7 26]
    (xr [xm 27 6, xm 28 8, xm 29 7, xm 30 1, ⟨(some 31), .conv .u64 (.t 30), none⟩, xb 32 .quo 29 31, ⟨(some 33), .conv .u32 (.t 32), none⟩, xi 34 1 27 28, xs 1 34 33]
    (xR [xm 35 7, xm 36 1, ⟨(some 37), .conv .u64 (.t 36), none⟩, xb 38 .rem 35 37, xm 7 38]))))
   (xR [xm 17 8, xbk 18 .sub 17 1, xm 8 18]))))))
 (xr [xm 39 6, xm 40 7, ⟨(some 41), .conv .u32 (.t 40), none⟩, xm 4 39, xm 5 41]
 .ret)))))
theorem ok39 : Tryz.f39.body.bind (comp Tryz.prog) = some c39 := by kernel_rfl
def c44 : IR :=
 (xr [⟨(some 2), .box 50 1 (.t 0), none⟩, ⟨(some 3), .box 50 1 (.t 1), none⟩, xk 4 0]
 (.seq (.reg true [xf 8 0 2, xl 9 8, xc1 10 38 9, ⟨(some 11), .fld false 0 1 (.t 10), none⟩, xf 12 0 3, xl 13 12, xc1 14 38 13, ⟨(some 15), .fld false 0 1 (.t 14), none⟩, xm 5 11, xm 6 15] [0, 1, 3, 7, 0, 16, 55, 119, 127, 511])
 (.seq (xr [xm 16 5, xL 17 16, xm 18 6, xL 19 18, xb 20 .neq 17 19]
 (xd 20
  (xr [xm 21 5, xL 22 21, xm 23 6, xL 24 23, xb 25 .lss 22 24, xc1 26 74 25, xm 4 26]
  .ret)
  .skip))
 (.seq (xr [xm 27 5, xL 28 27, xbk 29 .sub 28 1, xm 7 29]
 (.block 0 (.loop (.seq (xr [xm 30 7, xbk 31 .geq 30 0]
   (xd 31
    .skip
    (.exit 0)))
   (.seq (.block 1 (.seq (.reg true [xm 34 5, xm 35 7, xi 36 1 34 35, xl 37 36, xm 38 6, xm 39 7, xi 40 1 38 39, xl 41 40, xb 42 .neq 37 41] [0, 0, 3, 7, 0, 0, 48, 112, 255])
    (xd 42
     (.seq (.reg true [xm 43 5, xm 44 7, xi 45 1 43 44, xl 46 45, xm 47 6, xm 48 7, xi 49 1 47 48, xl 50 49, xb 51 .lss 46 50, xc1 52 74 51, xm 4 52] [0, 0, 3, 7, 0, 0, 48, 112, 255, 511, 1023])
     .ret)
     .skip)))
   (xR [xm 32 7, xbk 33 .sub 32 1, xm 7 33]))))))
 (xr [xk 4 0]
 .ret)))))
theorem ok44 : Tryz.f44.body.bind (comp Tryz.prog) = some c44 := by kernel_rfl
def c50 : IR :=
 (xr [⟨(some 2), .new 50 1 [.nils], none⟩, xkb 3 false]
 (.seq (xr [xm 11 0, ⟨(some 12), .bin .eql (.t 11) (.c (.str ⟨#[]⟩)), none⟩, xm 13 12, xmg 14 0 13 false, ⟨(some 15), .call 76 [(.t 14), (.c (.str ⟨#[48, 49, 50, 51, 52, 53, 54, 55, 56, 57]⟩))], (some ((some 13), false))⟩, ⟨(some 16), .bin .neq (.t 15) (.c (.str ⟨#[]⟩)), (some ((some 13), false))⟩, xpb 17 13 true 16]
 (xd 17
  (xr [⟨(some 18), .build [.nils] [], none⟩, xs 1 2 18, xkb 3 false]
  .ret)
  .skip))
 (xr [⟨(some 4), .mv (.c .nils), none⟩]
 (.seq (.block 0 (.loop (.seq (xr [xm 19 0, xS 20 19, xbk 21 .gtr 20 0]
   (xd 21
    .skip
    (.exit 0)))
   (.block 1 (xr [xm 22 0, xS 23 22, xbk 24 .sub 23 1, xbk 25 .rem 24 9, xbk 26 .add 25 1, xm 5 26]
    (xr [xm 28 0, xm 29 5, ⟨(some 30), .slcS (.t 28) none (some (.t 29)), none⟩, ⟨(some 31), .call 78 [(.t 30), (.c (.int .i64 10)), (.c (.int .i64 32))], none⟩, xm 27 31, xe 32 27 0, xe 33 27 1, xm 6 32, xm 7 33]
    (xr [xm 34 0, xm 35 5, ⟨(some 36), .slcS (.t 34) (some (.t 35)) none, none⟩, xm 0 36]
    (xr [xm 37 6, xm 8 37]
    (.seq (xr [xm 38 4, xL 39 38, xk 40 0]
    (.block 2 (.loop (xr [xb 41 .lss 40 39]
      (.seq (xd 41
       .skip
       (.exit 2))
      (.seq (.block 3 (xr [xm 42 40, xi 43 1 38 40, xl 44 43, xm 9 42, xm 10 44]
       (xr [xm 45 8, xm 46 10, ⟨(some 47), .conv .u64 (.t 46), none⟩, ⟨(some 48), .bin .mul (.t 47) (.c (.int .u64 1000000000)), none⟩, xb 49 .add 45 48, xm 8 49]
       (xr [xm 50 4, xm 51 9, xm 52 8, ⟨(some 53), .conv .u32 (.t 52), none⟩, xi 54 1 50 51, xs 1 54 53]
       (xR [xm 55 8, ⟨(some 56), .bin .shr (.t 55) (.c (.int .u64 32)), none⟩, xm 8 56])))))
      (xR [xbk 57 .add 40 1, xm 40 57])))))))
    (xr [xm 58 8, ⟨(some 59), .bin .gtr (.t 58) (.c (.int .u64 0)), none⟩]
    (xd 59
     (xR [xm 60 4, xm 61 8, ⟨(some 62), .conv .u32 (.t 61), none⟩, ⟨(some 63), .lit 79 1 1 [(.int .u32 0)] [(0, 1, (.t 62))], none⟩, ⟨(some 64), .app 79 1 4 (.t 60) (.t 63), none⟩, xm 4 64])
     .skip)))))))))))
 (xr [xm 65 4, ⟨(some 66), .build [.nils] [(0, 1, (.t 65))], none⟩, xs 1 2 66, xkb 3 true]
 .ret)))))
theorem ok50 : Tryz.f50.body.bind (comp Tryz.prog) = some c50 := by kernel_rfl
def c69 : IR :=
 (xr [⟨(some 4), .mv (.c (.int .u64 0)), none⟩]
 (.seq (xr [xm 5 1, xm 6 0, xL 7 6, xb 8 .lss 5 7]
 (xd 8
  (xr [xm 9 0, xm 10 1, xi 11 1 9 10, xl 12 11, ⟨(some 13), .conv .u64 (.t 12), none⟩, xm 4 13]
  .ret)
  .skip))
 (xr [⟨(some 4), .mv (.c (.int .u64 0)), none⟩]
 .ret)))
theorem ok69 : Tryz.f69.body.bind (comp Tryz.prog) = some c69 := by kernel_rfl
def c74 : IR :=
 (xr [xk 2 0]
 (.seq (xr [xm 3 0]
 (xd 3
  (xr [xk 2 (-1)]
  .ret)
  .skip))
 (xr [xk 2 1]
 .ret)))
theorem ok74 : Tryz.f74.body.bind (comp Tryz.prog) = some c74 := by kernel_rfl
end Go.Proofs.YtgimaioeifnajaaGreatDoorK.NatIr
