/-
  The compiled bodies, printed: IrX.
-/
import Derived.Test.YtgimaioeifnajaaGreatDoorKSh
import Derived.Test.YtgimaioeifnajaaGreatDoorProg
set_option linter.all false
set_option maxHeartbeats 4000000
namespace Go.Proofs.YtgimaioeifnajaaGreatDoorK.NatIr
open AI Go.Proofs
def c9 : IR :=
 (xr [⟨(some 2), .box 31 2 (.t 0), none⟩, ⟨(some 4), .new 25 1 [.nils], none⟩, xk 5 0]
 (xr [xm 15 1, xc1 16 24 15, xm 14 16, xe 17 14 0, xe 18 14 1, xm 6 17, xm 7 18]
 (.seq (xr [xm 19 7, xbk 20 .neq 19 0]
 (xd 20
  (xr [⟨(some 21), .build [.nils] [], none⟩, xm 22 7, xs 1 4 21, xm 5 22]
  .ret)
  .skip))
 (xr [xm 23 6, ⟨(some 24), .call 25 [(.t 23), (.c (.str ⟨#[97, 110, 100]⟩))], none⟩, xm 8 24]
 (.seq (xr [xm 25 8, xL 26 25, xbk 27 .gtr 26 4]
 (xd 27
  (xr [⟨(some 28), .build [.nils] [], none⟩, xs 1 4 28, xk 5 2]
  .ret)
  .skip))
 (xr [⟨(some 9), .new 25 1 [.nils], none⟩]
 (.seq (xr [xm 29 8, xL 30 29, xk 31 0]
 (.block 0 (.loop (xr [xb 32 .lss 31 30]
   (.seq (xd 32
    .skip
    (.exit 0))
   (.seq (.block 1 (xr [xi 33 1 29 31, xl 34 33, xm 11 34]
    (xr [xg 36 2 2, xm 37 11, xc2 38 26 36 37, xm 35 38, xe 39 35 0, xe 40 35 1, ⟨(some 12), .new 52 3 [.nils, .nils, .nils], none⟩, xs 3 12 39, xm 13 40]
    (.seq (xr [xm 41 13, xn 42 41]
    (xd 42
     (xr [⟨(some 43), .build [.nils] [], none⟩, xs 1 4 43, xk 5 2]
     .ret)
     .skip))
    (xR [xf 44 0 9, xl 45 44, xg 46 3 12, ⟨(some 47), .lit 52 3 1 [.nils, .nils, .nils] [(0, 3, (.t 46))], none⟩, ⟨(some 48), .app 52 3 72 (.t 45) (.t 47), none⟩, xf 49 0 9, xs 1 49 48])))))
   (xR [xbk 50 .add 31 1, xm 31 50])))))))
 (xr [xg 51 1 9, xs 1 4 51, xk 5 0]
 .ret))))))))
theorem ok9 : Tryz.f9.body.bind (comp Tryz.prog) = some c9 := by kernel_rfl
def c11 : IR :=
 (xr [⟨(some 1), .box 25 1 (.t 0), none⟩, ⟨(some 2), .mv (.c (.str ⟨#[]⟩)), none⟩]
 (xr [⟨(some 3), .mv (.c .nils), none⟩]
 (.seq (xr [xf 6 0 1, xl 7 6, xL 8 7, xk 9 0]
 (.block 0 (.loop (xr [xb 10 .lss 9 8]
   (.seq (xd 10
    .skip
    (.exit 0))
   (.seq (.block 1 (xr [xi 11 3 7 9, xg 12 3 11, ⟨(some 5), .new 52 3 [.nils, .nils, .nils], none⟩, xs 3 5 12]
    (xR [xm 13 3, xg 14 3 5, xc1 15 22 14, ⟨(some 16), .lit 9 1 1 [(.str ⟨#[]⟩)] [(0, 1, (.t 15))], none⟩, ⟨(some 17), .app 9 1 16 (.t 13) (.t 16), none⟩, xm 3 17])))
   (xR [xbk 18 .add 9 1, xm 9 18])))))))
 (xr [xm 19 3, ⟨(some 20), .call 27 [(.t 19), (.c (.str ⟨#[45, 97, 110, 100, 45]⟩))], none⟩, xm 2 20]
 .ret))))
theorem ok11 : Tryz.f11.body.bind (comp Tryz.prog) = some c11 := by kernel_rfl
def c14 : IR :=
 (xr [⟨(some 2), .box 31 2 (.t 0), none⟩, ⟨(some 3), .box 25 1 (.t 1), none⟩, xkb 4 false]
 (.seq (.reg true [xg 8 2 2, xg 9 1 3, xc1 10 11 9, xc2 11 9 8 10, xm 7 11, xe 12 7 0, xe 13 7 1, ⟨(some 5), .new 25 1 [.nils], none⟩, xs 1 5 12, xm 6 13] [0, 0, 2, 7, 15, 31, 31, 0, 191, 511])
 (xr [xm 14 6, xbk 15 .eql 14 0, xm 16 15, xfg 17 0 3 16 true, xlg 18 17 16 true, xfg 19 0 5 16 true, xlg 20 19 16 true, ⟨(some 21), .call 30 [(.t 18), (.t 20), (.c (.fn 31 []))], (some ((some 16), true))⟩, xp 22 16 21 false, xm 4 22]
 .ret)))
theorem ok14 : Tryz.f14.body.bind (comp Tryz.prog) = some c14 := by kernel_rfl
def c20 : IR :=
 (xr [⟨(some 1), .box 25 1 (.t 0), none⟩, ⟨(some 2), .new 25 1 [.nils], none⟩, xk 3 0]
 (xr [⟨(some 4), .new 25 1 [.nils], none⟩]
 (.seq (xr [xf 11 0 1, xl 12 11, xL 13 12, xk 14 0]
 (.block 0 (.loop (xr [xb 15 .lss 14 13]
   (.seq (xd 15
    .skip
    (.exit 0))
   (.seq (.block 1 (xr [xi 16 3 12 14, xg 17 3 16, ⟨(some 6), .new 52 3 [.nils, .nils, .nils], none⟩, xs 3 6 17]
    (xr [xf 19 0 6, xl 20 19, xc1 21 36 20, xm 18 21, xe 22 18 0, xe 23 18 1, xm 7 22, xm 8 23]
    (xr [xf 25 1 6, xl 26 25, xc1 27 36 26, xm 24 27, xe 28 24 0, xe 29 24 1, xm 9 28, xm 10 29]
    (.seq (xr [xm 30 8, xn 31 30, xm 32 31, xmg 33 10 32 false, xng 34 33 32 false, xpb 35 32 true 34]
    (xd 35
     (xr [⟨(some 36), .build [.nils] [], none⟩, xs 1 2 36, xk 3 11]
     .ret)
     .skip))
    (.reg true [xf 37 0 4, xl 38 37, xm 39 7, xm 40 9, xf 41 2 6, xg 42 1 41, ⟨(some 43), .build [.nils] [], none⟩, xc2 44 37 42 43, ⟨(some 45), .build [.nils, .nils, .nils] [(0, 1, (.t 39)), (1, 1, (.t 40)), (2, 1, (.t 44))], none⟩, ⟨(some 46), .lit 52 3 1 [.nils, .nils, .nils] [(0, 3, (.t 45))], none⟩, ⟨(some 47), .app 52 3 72 (.t 38) (.t 46), none⟩, xf 48 0 4, xs 1 48 47] [0, 1, 0, 0, 0, 16, 0, 112, 252, 508, 1023, 2047, 4095]))))))
   (xR [xbk 49 .add 14 1, xm 14 49])))))))
 (xr [xg 50 1 4, xs 1 2 50, xk 3 0]
 .ret))))
theorem ok20 : Tryz.f20.body.bind (comp Tryz.prog) = some c20 := by kernel_rfl
def c22 : IR :=
 (xr [⟨(some 1), .box 52 3 (.t 0), none⟩, ⟨(some 2), .mv (.c (.str ⟨#[]⟩)), none⟩]
 (xr [⟨(some 3), .mv (.c .nils), none⟩]
 (.seq (xr [xf 9 0 1, xl 10 9, xL 11 10, xk 12 0]
 (.block 0 (.loop (xr [xb 13 .lss 12 11]
   (.seq (xd 13
    .skip
    (.exit 0))
   (.seq (.block 1 (xr [xi 14 3 10 12, xg 15 3 14, ⟨(some 5), .new 60 3 [(.str ⟨#[]⟩), (.str ⟨#[]⟩), (.int .i64 0)], none⟩, xs 3 5 15]
    (xR [xm 16 3, xg 17 3 5, xc1 18 43 17, ⟨(some 19), .lit 9 1 1 [(.str ⟨#[]⟩)] [(0, 1, (.t 18))], none⟩, ⟨(some 20), .app 9 1 16 (.t 16) (.t 19), none⟩, xm 3 20])))
   (xR [xbk 21 .add 12 1, xm 12 21])))))))
 (.seq (.reg true [xf 22 2 1, xg 23 1 22, xc0 24 45, xc2 25 44 23 24, xbk 26 .neq 25 0, xm 6 26] [0, 1, 0, 7, 15, 31])
 (.seq (xr [xm 27 6, xm 28 27, xfg 29 1 1 28 false, xlg 30 29 28 false, ⟨(some 31), .lenL (.t 30), (some ((some 28), false))⟩, xbg 32 .gtr 31 0 28 false, xpb 33 28 true 32]
 (xd 33
  (xR [xm 34 3, ⟨(some 35), .lit 9 1 1 [(.str ⟨#[]⟩)] [(0, 1, (.c (.str ⟨#[112, 101, 114]⟩)))], none⟩, ⟨(some 36), .app 9 1 16 (.t 34) (.t 35), none⟩, xm 3 36])
  .skip))
 (.seq (xr [xm 37 6]
 (xd 37
  (xR [xm 38 3, xf 39 2 1, xg 40 1 39, xc1 41 21 40, ⟨(some 42), .lit 9 1 1 [(.str ⟨#[]⟩)] [(0, 1, (.t 41))], none⟩, ⟨(some 43), .app 9 1 16 (.t 38) (.t 42), none⟩, xm 3 43])
  .skip))
 (.seq (xr [xf 44 1 1, xl 45 44, xL 46 45, xk 47 0]
 (.block 2 (.loop (xr [xb 48 .lss 47 46]
   (.seq (xd 48
    .skip
    (.exit 2))
   (.seq (.block 3 (xr [xi 49 3 45 47, xg 50 3 49, ⟨(some 8), .new 60 3 [(.str ⟨#[]⟩), (.str ⟨#[]⟩), (.int .i64 0)], none⟩, xs 3 8 50]
    (xR [xm 51 3, xg 52 3 8, xc1 53 43 52, ⟨(some 54), .lit 9 1 1 [(.str ⟨#[]⟩)] [(0, 1, (.t 53))], none⟩, ⟨(some 55), .app 9 1 16 (.t 51) (.t 54), none⟩, xm 3 55])))
   (xR [xbk 56 .add 47 1, xm 47 56])))))))
 (xr [xm 57 3, ⟨(some 58), .call 27 [(.t 57), (.c (.str ⟨#[45]⟩))], none⟩, xm 2 58]
 .ret))))))))
theorem ok22 : Tryz.f22.body.bind (comp Tryz.prog) = some c22 := by kernel_rfl
def c24 : IR :=
 (xr [⟨(some 2), .mv (.c .nils), none⟩, xk 3 0]
 (.seq (xr [xm 7 0, xS 8 7, xbk 9 .gtr 8 256]
 (xd 9
  (xr [⟨(some 2), .mv (.c .nils), none⟩, xk 3 11]
  .ret)
  .skip))
 (xr [xm 10 0, ⟨(some 11), .call 46 [(.t 10), (.c (.str ⟨#[45]⟩))], none⟩, xm 4 11]
 (.seq (xr [xm 12 4, xL 13 12, xk 14 0]
 (.block 0 (.loop (xr [xb 15 .lss 14 13]
   (.seq (xd 15
    .skip
    (.exit 0))
   (.seq (.block 1 (xr [xi 16 1 12 14, xl 17 16, xm 6 17]
    (xr [xm 18 6, xc1 19 47 18, xn 20 19]
    (xd 20
     (xr [⟨(some 2), .mv (.c .nils), none⟩, xk 3 2]
     .ret)
     .skip))))
   (xR [xbk 21 .add 14 1, xm 14 21])))))))
 (xr [xm 22 4, xm 2 22, xk 3 0]
 .ret)))))
theorem ok24 : Tryz.f24.body.bind (comp Tryz.prog) = some c24 := by kernel_rfl
def c25 : IR :=
 (xr [⟨(some 4), .mv (.c .nils), none⟩]
 (xr [⟨(some 9), .lit 29 1 1 [.nils] [(0, 1, (.c .nils))], none⟩, xm 5 9]
 (.seq (xr [xm 10 0, xL 11 10, xk 12 0]
 (.block 0 (.loop (xr [xb 13 .lss 12 11]
   (.seq (xd 13
    .skip
    (.exit 0))
   (.seq (.block 1 (xr [xi 14 1 10 12, xl 15 14, xm 7 15]
    (.seq (xr [xm 16 7, xm 17 1, xb 18 .eql 16 17]
    (xd 18
     (xr [xm 19 5, ⟨(some 20), .lit 29 1 1 [.nils] [(0, 1, (.c .nils))], none⟩, ⟨(some 21), .app 29 1 24 (.t 19) (.t 20), none⟩, xm 5 21]
     (.exit 1))
     .skip))
    (xr [xm 22 5, xL 23 22, xbk 24 .sub 23 1, xm 8 24]
    (xR [xm 25 5, xm 26 8, xm 27 5, xm 28 8, xi 29 1 27 28, xl 30 29, xm 31 7, ⟨(some 32), .lit 9 1 1 [(.str ⟨#[]⟩)] [(0, 1, (.t 31))], none⟩, ⟨(some 33), .app 9 1 16 (.t 30) (.t 32), none⟩, xi 34 1 25 26, xs 1 34 33])))))
   (xR [xbk 35 .add 12 1, xm 12 35])))))))
 (xr [xm 36 5, xm 4 36]
 .ret))))
theorem ok25 : Tryz.f25.body.bind (comp Tryz.prog) = some c25 := by kernel_rfl
def c26 : IR :=
 (xr [⟨(some 2), .box 31 2 (.t 0), none⟩, ⟨(some 4), .new 52 3 [.nils, .nils, .nils], none⟩, xkb 5 false]
 (xr [xc0 11 45, ⟨(some 12), .build [.nils, .nils, .nils] [(2, 1, (.t 11))], none⟩, ⟨(some 6), .new 52 3 [.nils, .nils, .nils], none⟩, xs 3 6 12]
 (xr [xm 13 1, ⟨(some 14), .call 25 [(.t 13), (.c (.str ⟨#[112, 101, 114]⟩))], none⟩, xm 7 14]
 (.seq (xr [xm 15 7, xL 16 15, xbk 17 .gtr 16 2, xm 18 17, xmg 19 7 18 false, ⟨(some 20), .lenL (.t 19), (some ((some 18), false))⟩, xbg 21 .eql 20 1 18 false, xmg 22 21 18 false, xmg 23 1 22 true, ⟨(some 24), .lenL (.t 23), (some ((some 22), true))⟩, xbg 25 .eql 24 0 22 true, ⟨(some 26), .pick (.t 22) (.t 25) (.c (.bool false)), (some ((some 18), false))⟩, xpb 27 18 true 26]
 (xd 27
  (xr [⟨(some 28), .build [.nils, .nils, .nils] [], none⟩, xs 3 4 28, xkb 5 false]
  .ret)
  .skip))
 (.seq (.reg true [xg 30 2 2, xm 31 7, ⟨(some 32), .iaddrS 1 (.t 31) (.c (.int .i64 0)), none⟩, xl 33 32, xc2 34 48 30 33, xm 29 34, xe 35 29 0, xe 36 29 1, xm 8 35, xm 9 36] [0, 0, 2, 6, 15, 31, 63, 63, 127, 511])
 (.seq (xr [xm 37 9, xn 38 37]
 (xd 38
  (xr [⟨(some 39), .build [.nils, .nils, .nils] [], none⟩, xs 3 4 39, xkb 5 false]
  .ret)
  .skip))
 (xr [xm 40 8, xf 41 0 6, xs 1 41 40]
 (.seq (xr [xm 42 7, xL 43 42, xbk 44 .eql 43 2]
 (xd 44
  (xr [xm 45 7, ⟨(some 46), .iaddrS 1 (.t 45) (.c (.int .i64 1)), none⟩, xl 47 46, xm 10 47]
  (.seq (xr [xm 48 10, xL 49 48, xbk 50 .gtr 49 0, xm 51 50, xmg 52 10 51 true, ⟨(some 53), .iaddrS 1 (.t 52) (.c (.int .i64 0)), (some ((some 51), true))⟩, xlg 54 53 51 true, ⟨(some 55), .call 49 [(.t 54)], (some ((some 51), true))⟩, xp 56 51 55 false, xm 57 56, xmg 58 10 57 true, ⟨(some 59), .iaddrS 1 (.t 58) (.c (.int .i64 0)), (some ((some 57), true))⟩, xlg 60 59 57 true, ⟨(some 61), .bin .neq (.t 60) (.c (.str ⟨#[49]⟩)), (some ((some 57), true))⟩, xp 62 57 61 false]
  (xd 62
   (xr [xm 64 10, ⟨(some 65), .iaddrS 1 (.t 64) (.c (.int .i64 0)), none⟩, xl 66 65, xc1 67 50 66, xm 63 67, xe 68 63 0, xe 69 63 1, xf 70 2 6, xs 1 70 68]
   (xR [xm 71 10, ⟨(some 72), .slcL 1 (.t 71) (some (.c (.int .i64 1))) none, none⟩, xm 10 72]))
   (xr [xm 73 10, xL 74 73, xbk 75 .eql 74 0]
   (xd 75
    (xr [⟨(some 76), .build [.nils, .nils, .nils] [], none⟩, xs 3 4 76, xkb 5 false]
    .ret)
    .skip))))
  (xr [xg 78 2 2, xm 79 10, xc2 80 48 78 79, xm 77 80, xe 81 77 0, xe 82 77 1, xf 83 1 6, xs 1 83 81, xm 9 82]
  (xr [xm 84 9, xn 85 84]
  (xd 85
   (xr [⟨(some 86), .build [.nils, .nils, .nils] [], none⟩, xs 3 4 86, xkb 5 false]
   .ret)
   .skip)))))
  .skip))
 (.seq (.reg true [xg 87 3 6, xf 88 0 6, xl 89 88, xL 90 89, xf 91 1 6, xl 92 91, xL 93 92, xb 94 .add 90 93, xbk 95 .leq 94 8, xs 3 4 87, xm 5 95] [0, 0, 2, 6, 0, 16, 48, 126, 254, 1, 1023])
 .ret)))))))))
theorem ok26 : Tryz.f26.body.bind (comp Tryz.prog) = some c26 := by kernel_rfl
def c31 : IR :=
 (xr [⟨(some 2), .box 52 3 (.t 0), none⟩, ⟨(some 3), .box 52 3 (.t 1), none⟩, xkb 4 false]
 (xr [xf 5 0 2, xl 6 5, xf 7 0 3, xl 8 7, xc2 9 55 6 8, xm 10 9, xfg 11 1 2 10 true, xlg 12 11 10 true, xfg 13 1 3 10 true, xlg 14 13 10 true, ⟨(some 15), .call 55 [(.t 12), (.t 14)], (some ((some 10), true))⟩, xp 16 10 15 false, xm 17 16, xfg 18 2 2 17 true, xfg 19 0 18 17 true, xlg 20 19 17 true, xfg 21 2 3 17 true, xfg 22 0 21 17 true, xlg 23 22 17 true, ⟨(some 24), .call 56 [(.t 20), (.t 23)], (some ((some 17), true))⟩, xp 25 17 24 false, xm 4 25]
 .ret))
theorem ok31 : Tryz.f31.body.bind (comp Tryz.prog) = some c31 := by kernel_rfl
def c36 : IR :=
 (xr [⟨(some 2), .mv (.c .nils), none⟩, xkb 3 false]
 (xr [⟨(some 4), .mv (.c .nils), none⟩]
 (.seq (xr [xm 8 0, xL 9 8, xk 10 0]
 (.block 0 (.loop (xr [xb 11 .lss 10 9]
   (.seq (xd 11
    .skip
    (.exit 0))
   (.seq (.block 1 (xr [xi 12 3 8 10, xg 13 3 12, ⟨(some 6), .new 60 3 [(.str ⟨#[]⟩), (.str ⟨#[]⟩), (.int .i64 0)], none⟩, xs 3 6 13]
    (xr [xm 14 4, ⟨(some 15), .mkfn 63 [(.t 6)], none⟩, xc2 16 62 14 15, xm 7 16]
    (.seq (xr [xm 17 7, xbk 18 .lss 17 0]
    (xd 18
     (xr [xm 19 4, xg 20 3 6, ⟨(some 21), .lit 60 3 1 [(.str ⟨#[]⟩), (.str ⟨#[]⟩), (.int .i64 0)] [(0, 3, (.t 20))], none⟩, ⟨(some 22), .app 60 3 40 (.t 19) (.t 21), none⟩, xm 4 22]
     (.exit 1))
     .skip))
    (.reg true [xm 23 4, xm 24 7, xi 25 3 23 24, xf 26 2 25, xl 27 26, xf 28 2 6, xl 29 28, xb 30 .add 27 29, xi 31 3 23 24, xf 32 2 31, xs 1 32 30] [0, 0, 3, 7, 15, 0, 32, 127, 255, 511, 1023])))))
   (xR [xbk 33 .add 10 1, xm 10 33])))))))
 (xr [xm 34 4, ⟨(some 35), .call 64 [(.t 34), (.c (.fn 65 []))], none⟩]
 (xr [xm 36 4, xm 37 4, ⟨(some 38), .call 67 [(.t 37), (.c (.fn 68 []))], none⟩, xn 39 38, xm 2 36, xm 3 39]
 .ret)))))
theorem ok36 : Tryz.f36.body.bind (comp Tryz.prog) = some c36 := by kernel_rfl
def c43 : IR :=
 (xr [⟨(some 1), .box 60 3 (.t 0), none⟩, ⟨(some 2), .mv (.c (.str ⟨#[]⟩)), none⟩]
 (xr [xf 4 0 1, xl 5 4, xf 6 1 1, xl 7 6, xb 8 .add 5 7, xm 3 8]
 (.seq (.block 0 (xr [xf 10 2 1, xl 11 10, xbk 12 .lss 11 1, xm 13 12, xfg 14 2 1 13 false, xlg 15 14 13 false, xbg 16 .gtr 15 15 13 false, xpb 17 13 true 16, xm 9 17]
  (xd 9
   (xr [⟨(some 2), .mv (.c (.str ⟨#[]⟩)), none⟩]
   .ret)
   (xr [xf 19 2 1, xl 20 19, xbk 21 .eql 20 1, xm 18 21]
   (xd 18
    (xr [xm 22 3, xm 2 22]
    .ret)
    (xr [xf 24 2 1, xl 25 24, xbk 26 .eql 25 2, xm 23 26]
    (xd 23
     (xr [xm 27 3, ⟨(some 28), .bin .add (.c (.str ⟨#[115, 113, 117, 97, 114, 101, 45]⟩)) (.t 27), none⟩, xm 2 28]
     .ret)
     (xr [xf 30 2 1, xl 31 30, xbk 32 .eql 31 3, xm 29 32]
     (xd 29
      (xr [xm 33 3, ⟨(some 34), .bin .add (.c (.str ⟨#[99, 117, 98, 105, 99, 45]⟩)) (.t 33), none⟩, xm 2 34]
      .ret)
      .skip)))))))))
 (xr [xf 35 2 1, xl 36 35, xc1 37 40 36, ⟨(some 38), .bin .add (.c (.str ⟨#[112, 111, 119]⟩)) (.t 37), none⟩, ⟨(some 39), .bin .add (.t 38) (.c (.str ⟨#[45]⟩)), none⟩, xm 40 3, xb 41 .add 39 40, xm 2 41]
 .ret))))
theorem ok43 : Tryz.f43.body.bind (comp Tryz.prog) = some c43 := by kernel_rfl
def c45 : IR :=
 (xr [⟨(some 0), .new 50 1 [.nils], none⟩]
 (xr [⟨(some 1), .call 23 [(.c (.int .u64 1))], none⟩, xs 1 0 1]
 .ret))
theorem ok45 : Tryz.f45.body.bind (comp Tryz.prog) = some c45 := by kernel_rfl
def c47 : IR :=
 (xr [xkb 2 false]
 (xr [xm 3 0, ⟨(some 4), .bin .neq (.t 3) (.c (.str ⟨#[]⟩)), none⟩, xm 5 4, xmg 6 0 5 true, ⟨(some 7), .lenS (.t 6), (some ((some 5), true))⟩, xbg 8 .leq 7 20 5 true, xp 9 5 8 false, xm 10 9, xmg 11 0 10 true, ⟨(some 12), .call 76 [(.t 11), (.c (.str ⟨#[97, 98, 99, 100, 101, 102, 103, 104, 105, 106, 107, 108, 109, 110, 111, 112, 113, 114, 115, 116, 117, 118, 119, 120, 121, 122, 48, 49, 50, 51, 52, 53, 54, 55, 56, 57]⟩))], (some ((some 10), true))⟩, ⟨(some 13), .bin .eql (.t 12) (.c (.str ⟨#[]⟩)), (some ((some 10), true))⟩, xp 14 10 13 false, xm 2 14]
 .ret))
theorem ok47 : Tryz.f47.body.bind (comp Tryz.prog) = some c47 := by kernel_rfl
def c48 : IR :=
 (xr [⟨(some 2), .box 31 2 (.t 0), none⟩, ⟨(some 4), .mv (.c .nils), none⟩, xkb 5 false]
 (xr [⟨(some 6), .mv (.c .nils), none⟩]
 (.seq (.block 0 (.loop (.seq (xr [xm 10 1, xL 11 10, xbk 12 .gtr 11 0]
   (xd 12
    .skip
    (.exit 0)))
   (.block 1 (xr [xg 14 2 2, xm 15 1, xc2 16 77 14 15, xm 13 16, xe 17 13 0, xe 18 13 1, xe 19 13 2, ⟨(some 7), .new 60 3 [(.str ⟨#[]⟩), (.str ⟨#[]⟩), (.int .i64 0)], none⟩, xs 3 7 17, xm 8 18, xm 9 19]
    (.seq (xr [xm 20 9, xn 21 20]
    (xd 21
     (xr [⟨(some 4), .mv (.c .nils), none⟩, xkb 5 false]
     .ret)
     .skip))
    (xr [xm 22 6, xg 23 3 7, ⟨(some 24), .lit 60 3 1 [(.str ⟨#[]⟩), (.str ⟨#[]⟩), (.int .i64 0)] [(0, 3, (.t 23))], none⟩, ⟨(some 25), .app 60 3 40 (.t 22) (.t 24), none⟩, xm 6 25]
    (xR [xm 26 1, xm 27 8, ⟨(some 28), .slcL 1 (.t 26) (some (.t 27)) none, none⟩, xm 1 28]))))))))
 (xr [xm 29 6, xm 4 29, xkb 5 true]
 .ret))))
theorem ok48 : Tryz.f48.body.bind (comp Tryz.prog) = some c48 := by kernel_rfl
def c49 : IR :=
 (xr [xkb 2 false]
 (xr [xm 3 0, ⟨(some 4), .bin .neq (.t 3) (.c (.str ⟨#[]⟩)), none⟩, xm 5 4, xmg 6 0 5 true, ⟨(some 7), .lenS (.t 6), (some ((some 5), true))⟩, xbg 8 .leq 7 20 5 true, xp 9 5 8 false, xm 10 9, xmg 11 0 10 true, ⟨(some 12), .idxs (.t 11) (.c (.int .i64 0)), (some ((some 10), true))⟩, ⟨(some 13), .bin .neq (.t 12) (.c (.int .u8 48)), (some ((some 10), true))⟩, xp 14 10 13 false, xm 15 14, xmg 16 0 15 true, ⟨(some 17), .call 76 [(.t 16), (.c (.str ⟨#[48, 49, 50, 51, 52, 53, 54, 55, 56, 57]⟩))], (some ((some 15), true))⟩, ⟨(some 18), .bin .eql (.t 17) (.c (.str ⟨#[]⟩)), (some ((some 15), true))⟩, xp 19 15 18 false, xm 2 19]
 .ret))
theorem ok49 : Tryz.f49.body.bind (comp Tryz.prog) = some c49 := by kernel_rfl
def c63 : IR :=
 (xr [⟨(some 2), .box 60 3 (.t 0), none⟩, xkb 3 false]
 (xr [xf 4 0 1, xl 5 4, xf 6 0 2, xl 7 6, xb 8 .eql 5 7, xm 9 8, xfg 10 1 1 9 true, xlg 11 10 9 true, xfg 12 1 2 9 true, xlg 13 12 9 true, ⟨(some 14), .bin .eql (.t 11) (.t 13), (some ((some 9), true))⟩, xp 15 9 14 false, xm 3 15]
 .ret))
theorem ok63 : Tryz.f63.body.bind (comp Tryz.prog) = some c63 := by kernel_rfl
def c65 : IR :=
 (xr [⟨(some 2), .box 60 3 (.t 0), none⟩, ⟨(some 3), .box 60 3 (.t 1), none⟩, xk 4 0]
 (.seq (.block 0 (xr [xg 6 3 2, xg 7 3 3, xc2 8 66 6 7, xm 5 8]
  (xd 5
   (xr [xk 4 (-1)]
   .ret)
   (xr [xg 10 3 3, xg 11 3 2, xc2 12 66 10 11, xm 9 12]
   (xd 9
    (xr [xk 4 1]
    .ret)
    .skip)))))
 (xr [xk 4 0]
 .ret)))
theorem ok65 : Tryz.f65.body.bind (comp Tryz.prog) = some c65 := by kernel_rfl
def c66 : IR :=
 (xr [⟨(some 2), .box 60 3 (.t 0), none⟩, ⟨(some 3), .box 60 3 (.t 1), none⟩, xkb 4 false]
 (.seq (.reg true [xf 5 1 2, xl 6 5, xf 7 1 3, xl 8 7, xc2 9 88 6 8, xf 10 0 2, xl 11 10, xf 12 0 3, xl 13 12, xc2 14 88 11 13, xf 15 2 2, xl 16 15, xf 17 2 3, xl 18 17, xc2 19 89 16 18, ⟨(some 20), .lit 3 1 3 [(.int .i64 0), (.int .i64 0), (.int .i64 0)] [(0, 1, (.t 9)), (1, 1, (.t 14)), (2, 1, (.t 19))], none⟩, xc1 21 87 20, xbk 22 .lss 21 0, xm 4 22] [0, 1, 0, 4, 15, 0, 32, 0, 128, 511, 0, 1024, 0, 4096, 16383, 32767, 65535, 131071, 262143])
 .ret))
theorem ok66 : Tryz.f66.body.bind (comp Tryz.prog) = some c66 := by kernel_rfl
def c68 : IR :=
 (xr [⟨(some 1), .box 60 3 (.t 0), none⟩, xkb 2 false]
 (xr [xf 3 2 1, xl 4 3, xbk 5 .gtr 4 15, xm 2 5]
 .ret))
theorem ok68 : Tryz.f68.body.bind (comp Tryz.prog) = some c68 := by kernel_rfl
def c77 : IR :=
 (xr [⟨(some 2), .box 31 2 (.t 0), none⟩, ⟨(some 4), .new 60 3 [(.str ⟨#[]⟩), (.str ⟨#[]⟩), (.int .i64 0)], none⟩, xk 5 0, xkb 6 false]
 (.seq (xr [xm 11 1, xL 12 11, xbk 13 .eql 12 0]
 (xd 13
  (xr [⟨(some 14), .build [(.str ⟨#[]⟩), (.str ⟨#[]⟩), (.int .i64 0)] [], none⟩, xs 3 4 14, xk 5 0, xkb 6 false]
  .ret)
  .skip))
 (xr [xm 15 1, ⟨(some 16), .iaddrS 1 (.t 15) (.c (.int .i64 0)), none⟩, xl 17 16, xc1 18 104 17, xm 7 18]
 (xr [xm 19 7, xbk 20 .sub 19 1, ⟨(some 21), .mn (.t 20) (.c (.int .i64 1)), none⟩, xm 8 21]
 (.seq (xr [xm 22 8, xm 23 1, xL 24 23, xb 25 .geq 22 24]
 (xd 25
  (xr [⟨(some 26), .build [(.str ⟨#[]⟩), (.str ⟨#[]⟩), (.int .i64 0)] [], none⟩, xs 3 4 26, xk 5 0, xkb 6 false]
  .ret)
  .skip))
 (.seq (.reg true [xg 28 2 2, xm 29 1, xm 30 8, xi 31 1 29 30, xl 32 31, xc2 33 105 28 32, xm 27 33, xe 34 27 0, xe 35 27 1, ⟨(some 9), .new 60 3 [(.str ⟨#[]⟩), (.str ⟨#[]⟩), (.int .i64 0)], none⟩, xs 3 9 34, xm 10 35] [0, 0, 0, 6, 14, 31, 63, 127, 127, 0, 767, 2047])
 (.seq (xr [xm 36 10, xn 37 36]
 (xd 37
  (xr [⟨(some 38), .build [(.str ⟨#[]⟩), (.str ⟨#[]⟩), (.int .i64 0)] [], none⟩, xs 3 4 38, xk 5 0, xkb 6 false]
  .ret)
  .skip))
 (xr [xm 39 7, xf 40 2 9, xs 1 40 39]
 (xr [xg 41 3 9, xm 42 8, xbk 43 .add 42 1, xs 3 4 41, xm 5 43, xkb 6 true]
 .ret)))))))))
theorem ok77 : Tryz.f77.body.bind (comp Tryz.prog) = some c77 := by kernel_rfl
def c104 : IR :=
 (xr [xk 2 0]
 (.seq (xr [xm 4 0]
 (.block 0 (xr [⟨(some 6), .bin .eql (.t 4) (.c (.str ⟨#[115, 113, 117, 97, 114, 101]⟩)), none⟩, xm 5 6]
  (xd 5
   (xr [xk 2 2]
   .ret)
   (xr [⟨(some 8), .bin .eql (.t 4) (.c (.str ⟨#[99, 117, 98, 105, 99]⟩)), none⟩, xm 7 8]
   (xd 7
    (xr [xk 2 3]
    .ret)
    .skip))))))
 (.seq (xr [xk 3 4]
 (.block 1 (.loop (.seq (xr [xm 9 3, xbk 10 .leq 9 15]
   (xd 10
    .skip
    (.exit 1)))
   (.seq (.block 2 (xr [xm 13 0, xm 14 3, xc1 15 40 14, ⟨(some 16), .bin .add (.c (.str ⟨#[112, 111, 119]⟩)) (.t 15), none⟩, xb 17 .eql 13 16]
    (xd 17
     (xr [xm 18 3, xm 2 18]
     .ret)
     .skip)))
   (xR [xm 11 3, xbk 12 .add 11 1, xm 3 12]))))))
 (xr [xk 2 1]
 .ret))))
theorem ok104 : Tryz.f104.body.bind (comp Tryz.prog) = some c104 := by kernel_rfl
def c105 : IR :=
 (xr [⟨(some 2), .box 31 2 (.t 0), none⟩, ⟨(some 4), .new 60 3 [(.str ⟨#[]⟩), (.str ⟨#[]⟩), (.int .i64 0)], none⟩, xkb 5 false]
 (.seq (xr [xf 12 0 2, xl 13 12, xm 14 1, xc2 15 136 13 14]
 (xd 15
  (xr [xm 16 1, ⟨(some 17), .build [(.str ⟨#[]⟩), (.str ⟨#[]⟩), (.int .i64 0)] [(1, 1, (.t 16))], none⟩, xs 3 4 17, xkb 5 true]
  .ret)
  .skip))
 (xr [⟨(some 18), .build [(.str ⟨#[]⟩), (.str ⟨#[]⟩), (.int .i64 0)] [], none⟩, ⟨(some 6), .new 60 3 [(.str ⟨#[]⟩), (.str ⟨#[]⟩), (.int .i64 0)], none⟩, xs 3 6 18, xkb 7 false]
 (.seq (xr [xf 19 1 2, xl 20 19, xL 21 20, xk 22 0]
 (.block 0 (.loop (xr [xb 23 .lss 22 21]
   (.seq (xd 23
    .skip
    (.exit 0))
   (.seq (.block 1 (xr [xi 24 1 20 22, xl 25 24, xm 9 25]
    (xr [xm 27 1, xm 28 9, xc2 29 137 27 28, xm 26 29, xe 30 26 0, xe 31 26 1, xm 10 30, xm 11 31]
    (xr [xm 32 11, xm 33 32, xfg 34 0 2 33 true, xlg 35 34 33 true, xmg 36 10 33 true, ⟨(some 37), .call 136 [(.t 35), (.t 36)], (some ((some 33), true))⟩, xp 38 33 37 false, xm 39 38, xmg 40 7 39 true, xng 41 40 39 true, xmg 42 41 39 true, xmg 43 9 42 false, ⟨(some 44), .lenS (.t 43), (some ((some 42), false))⟩, xfg 45 0 6 42 false, xlg 46 45 42 false, ⟨(some 47), .lenS (.t 46), (some ((some 42), false))⟩, ⟨(some 48), .bin .gtr (.t 44) (.t 47), (some ((some 42), false))⟩, ⟨(some 49), .pick (.t 42) (.c (.bool true)) (.t 48), (some ((some 39), true))⟩, xp 50 39 49 false]
    (xd 50
     (xR [xm 51 9, xm 52 10, ⟨(some 53), .build [(.str ⟨#[]⟩), (.str ⟨#[]⟩), (.int .i64 0)] [(0, 1, (.t 51)), (1, 1, (.t 52))], none⟩, xs 3 6 53, xkb 7 true])
     .skip)))))
   (xR [xbk 54 .add 22 1, xm 22 54])))))))
 (xr [xg 55 3 6, xm 56 7, xs 3 4 55, xm 5 56]
 .ret)))))
theorem ok105 : Tryz.f105.body.bind (comp Tryz.prog) = some c105 := by kernel_rfl
end Go.Proofs.YtgimaioeifnajaaGreatDoorK.NatIr
