/-
  The compiled bodies, printed: IrCubitref6.
-/
import Derived.Test.YtgimaioeifnajaaGreatDoorKSh
import Derived.Test.YtgimaioeifnajaaGreatDoorProg
set_option linter.all false
set_option maxHeartbeats 4000000
namespace Go.Proofs.YtgimaioeifnajaaGreatDoorK.NatIr
open AI Go.Proofs
def c16 : IR :=
 (xr [⟨(some 2), .box 43 2 (.t 0), none⟩, ⟨(some 4), .mv (.c .nils), none⟩, xk 5 0]
 (xr [xm 14 1, xc1 15 32 14, xm 13 15, xe 16 13 0, xe 17 13 1, xm 6 16, xm 7 17]
 (.seq (xr [xm 18 7, xbk 19 .neq 18 0]
 (xd 19
  (xr [xm 20 7, ⟨(some 4), .mv (.c .nils), none⟩, xm 5 20]
  .ret)
  .skip))
 (xr [xm 21 6, ⟨(some 22), .call 33 [(.t 21), (.c (.str ⟨#[97, 110, 100]⟩))], none⟩, xm 8 22]
 (.seq (xr [xm 23 8, xL 24 23, xbk 25 .gtr 24 4]
 (xd 25
  (xr [⟨(some 4), .mv (.c .nils), none⟩, xk 5 2]
  .ret)
  .skip))
 (xr [⟨(some 9), .mv (.c .nils), none⟩]
 (.seq (xr [xk 10 0]
 (.block 0 (.loop (.seq (xr [xm 26 10, xm 27 8, xL 28 27, xb 29 .lss 26 28]
   (xd 29
    .skip
    (.exit 0)))
   (.seq (.block 1 (.seq (.reg true [xg 33 2 2, xm 34 8, xm 35 10, xi 36 1 34 35, xl 37 36, xc2 38 34 33 37, xm 32 38, xe 39 32 0, xe 40 32 1, ⟨(some 11), .new 71 3 [.nils, .nils, (.str ⟨#[]⟩)], none⟩, xs 3 11 39, xm 12 40] [0, 0, 0, 6, 14, 31, 63, 127, 127, 0, 767, 2047])
    (.seq (xr [xm 41 12, xn 42 41]
    (xd 42
     (xr [⟨(some 4), .mv (.c .nils), none⟩, xk 5 2]
     .ret)
     .skip))
    (xR [xm 43 9, xg 44 3 11, ⟨(some 45), .lit 71 3 1 [.nils, .nils, (.str ⟨#[]⟩)] [(0, 3, (.t 44))], none⟩, ⟨(some 46), .app 71 3 64 (.t 43) (.t 45), none⟩, xm 9 46]))))
   (xR [xm 30 10, xbk 31 .add 30 1, xm 10 31]))))))
 (xr [xm 47 9, xm 4 47, xk 5 0]
 .ret))))))))
theorem ok16 : Tryz.f16.body.bind (comp Tryz.prog) = some c16 := by kernel_rfl
def c18 : IR :=
 (xr [⟨(some 2), .mv (.c (.str ⟨#[]⟩)), none⟩]
 (xr [⟨(some 3), .mv (.c (.str ⟨#[]⟩)), none⟩]
 (.seq (xr [xk 4 0]
 (.block 0 (.loop (.seq (xr [xm 5 4, xm 6 0, xL 7 6, xb 8 .lss 5 7]
   (xd 8
    .skip
    (.exit 0)))
   (.seq (.block 1 (.seq (xr [xm 11 4, xbk 12 .gtr 11 0]
    (xd 12
     (xR [xm 13 3, ⟨(some 14), .bin .add (.t 13) (.c (.str ⟨#[45, 97, 110, 100, 45]⟩)), none⟩, xm 3 14])
     .skip))
    (xR [xm 15 3, xm 16 0, xm 17 4, xi 18 3 16 17, xg 19 3 18, xc1 20 35 19, xb 21 .add 15 20, xm 3 21])))
   (xR [xm 9 4, xbk 10 .add 9 1, xm 4 10]))))))
 (xr [xm 22 3, xm 2 22]
 .ret))))
theorem ok18 : Tryz.f18.body.bind (comp Tryz.prog) = some c18 := by kernel_rfl
def c32 : IR :=
 (xr [⟨(some 2), .mv (.c .nils), none⟩, xk 3 0]
 (.seq (xr [xm 7 0, xS 8 7, xbk 9 .gtr 8 256]
 (xd 9
  (xr [⟨(some 2), .mv (.c .nils), none⟩, xk 3 11]
  .ret)
  .skip))
 (xr [⟨(some 10), .lit 9 1 1 [(.str ⟨#[]⟩)] [(0, 1, (.c (.str ⟨#[]⟩)))], none⟩, xm 4 10]
 (.seq (xr [xk 5 0]
 (.block 0 (.loop (.seq (xr [xm 11 5, xm 12 0, xS 13 12, xb 14 .lss 11 13]
   (xd 14
    .skip
    (.exit 0)))
   (.seq (.block 1 (xr [xm 17 0, xm 18 5, ⟨(some 19), .idxs (.t 17) (.t 18), none⟩, ⟨(some 20), .bin .eql (.t 19) (.c (.int .u8 45)), none⟩]
    (xd 20
     (xR [xm 21 4, ⟨(some 22), .lit 9 1 1 [(.str ⟨#[]⟩)] [(0, 1, (.c (.str ⟨#[]⟩)))], none⟩, ⟨(some 23), .app 9 1 16 (.t 21) (.t 22), none⟩, xm 4 23])
     (.reg true [xm 24 4, xm 25 4, xL 26 25, xbk 27 .sub 26 1, xm 28 4, xm 29 4, xL 30 29, xbk 31 .sub 30 1, xi 32 1 28 31, xl 33 32, xm 34 0, xm 35 5, xm 36 5, xbk 37 .add 36 1, ⟨(some 38), .slcS (.t 34) (some (.t 35)) (some (.t 37)), none⟩, xb 39 .add 33 38, xi 40 1 24 27, xs 1 40 39] [0, 0, 2, 6, 0, 0, 32, 96, 240, 496, 0, 0, 0, 4096, 15360, 32752, 65535, 131071]))))
   (xR [xm 15 5, xbk 16 .add 15 1, xm 5 16]))))))
 (.seq (xr [xk 6 0]
 (.block 2 (.loop (.seq (xr [xm 41 6, xm 42 4, xL 43 42, xb 44 .lss 41 43]
   (xd 44
    .skip
    (.exit 2)))
   (.seq (.block 3 (xr [xm 47 4, xm 48 6, xi 49 1 47 48, xl 50 49, xc1 51 57 50, xn 52 51]
    (xd 52
     (xr [⟨(some 2), .mv (.c .nils), none⟩, xk 3 2]
     .ret)
     .skip)))
   (xR [xm 45 6, xbk 46 .add 45 1, xm 6 46]))))))
 (xr [xm 53 4, xm 2 53, xk 3 0]
 .ret))))))
theorem ok32 : Tryz.f32.body.bind (comp Tryz.prog) = some c32 := by kernel_rfl
def c33 : IR :=
 (xr [⟨(some 4), .mv (.c .nils), none⟩]
 (xr [⟨(some 7), .lit 29 1 1 [.nils] [(0, 1, (.c .nils))], none⟩, xm 5 7]
 (.seq (xr [xk 6 0]
 (.block 0 (.loop (.seq (xr [xm 8 6, xm 9 0, xL 10 9, xb 11 .lss 8 10]
   (xd 11
    .skip
    (.exit 0)))
   (.seq (.block 1 (xr [xm 14 0, xm 15 6, xi 16 1 14 15, xl 17 16, xm 18 1, xb 19 .eql 17 18]
    (xd 19
     (xR [xm 20 5, ⟨(some 21), .lit 29 1 1 [.nils] [(0, 1, (.c .nils))], none⟩, ⟨(some 22), .app 29 1 24 (.t 20) (.t 21), none⟩, xm 5 22])
     (.reg true [xm 23 5, xm 24 5, xL 25 24, xbk 26 .sub 25 1, ⟨(some 27), .lit 9 1 0 [] [], none⟩, xm 28 5, xm 29 5, xL 30 29, xbk 31 .sub 30 1, xi 32 1 28 31, xl 33 32, ⟨(some 34), .app 9 1 16 (.t 27) (.t 33), none⟩, xm 35 0, xm 36 6, xi 37 1 35 36, xl 38 37, ⟨(some 39), .lit 9 1 1 [(.str ⟨#[]⟩)] [(0, 1, (.t 38))], none⟩, ⟨(some 40), .app 9 1 16 (.t 34) (.t 39), none⟩, xi 41 1 23 26, xs 1 41 40] [0, 0, 2, 6, 0, 0, 0, 64, 192, 480, 992, 2032, 0, 0, 12288, 28672, 61440, 131056, 262143, 524287]))))
   (xR [xm 12 6, xbk 13 .add 12 1, xm 6 13]))))))
 (xr [xm 42 5, xm 4 42]
 .ret))))
theorem ok33 : Tryz.f33.body.bind (comp Tryz.prog) = some c33 := by kernel_rfl
def c34 : IR :=
 (xr [⟨(some 2), .box 43 2 (.t 0), none⟩, ⟨(some 4), .new 71 3 [.nils, .nils, (.str ⟨#[]⟩)], none⟩, xkb 5 false]
 (xr [xm 11 1, ⟨(some 12), .call 33 [(.t 11), (.c (.str ⟨#[112, 101, 114]⟩))], none⟩, xm 6 12]
 (xr [⟨(some 13), .build [.nils, .nils, (.str ⟨#[]⟩)] [(2, 1, (.c (.str ⟨#[49]⟩)))], none⟩, ⟨(some 7), .new 71 3 [.nils, .nils, (.str ⟨#[]⟩)], none⟩, xs 3 7 13]
 (.seq (xr [xm 14 6, xL 15 14, xbk 16 .gtr 15 2]
 (xd 16
  (xr [⟨(some 17), .build [.nils, .nils, (.str ⟨#[]⟩)] [], none⟩, xs 3 4 17, xkb 5 false]
  .ret)
  .skip))
 (xr [xkb 8 true]
 (.seq (.reg true [xg 19 2 2, xm 20 6, ⟨(some 21), .iaddrS 1 (.t 20) (.c (.int .i64 0)), none⟩, xl 22 21, xc2 23 58 19 22, xm 18 23, xe 24 18 0, xe 25 18 1, xf 26 0 7, xs 1 26 24, xm 8 25] [0, 0, 2, 6, 15, 31, 63, 63, 127, 383, 1023])
 (.seq (xr [xm 27 6, xL 28 27, xbk 29 .eql 28 1]
 (xd 29
  (.seq (.reg true [xg 30 3 7, xm 31 8, xm 32 31, xfg 33 0 7 32 true, xlg 34 33 32 true, ⟨(some 35), .lenL (.t 34), (some ((some 32), true))⟩, xbg 36 .gtr 35 0 32 true, xp 37 32 36 false, xm 38 37, xfg 39 0 7 38 true, xlg 40 39 38 true, ⟨(some 41), .lenL (.t 40), (some ((some 38), true))⟩, xbg 42 .leq 41 8 38 true, xp 43 38 42 false, xs 3 4 30, xm 5 43] [0, 0, 2, 6, 14, 30, 62, 126, 254, 510, 1022, 2046, 4094, 8190, 511, 32767])
  .ret)
  .skip))
 (xr [xm 44 6, ⟨(some 45), .iaddrS 1 (.t 44) (.c (.int .i64 1)), none⟩, xl 46 45, xm 9 46]
 (.seq (xr [xm 47 9, xL 48 47, xbk 49 .gtr 48 0, xm 50 49, xmg 51 9 50 true, ⟨(some 52), .iaddrS 1 (.t 51) (.c (.int .i64 0)), (some ((some 50), true))⟩, xlg 53 52 50 true, ⟨(some 54), .call 59 [(.t 53)], (some ((some 50), true))⟩, xp 55 50 54 false, xm 56 55, xmg 57 9 56 true, ⟨(some 58), .iaddrS 1 (.t 57) (.c (.int .i64 0)), (some ((some 56), true))⟩, xlg 59 58 56 true, ⟨(some 60), .bin .neq (.t 59) (.c (.str ⟨#[49]⟩)), (some ((some 56), true))⟩, xp 61 56 60 false]
 (xd 61
  (.reg true [xm 62 9, ⟨(some 63), .iaddrS 1 (.t 62) (.c (.int .i64 0)), none⟩, xl 64 63, xm 65 9, ⟨(some 66), .slcL 1 (.t 65) (some (.c (.int .i64 1))) none, none⟩, xf 67 2 7, xs 1 67 64, xm 9 66] [0, 1, 3, 0, 8, 7, 39, 127])
  (xr [xm 68 9, xL 69 68, xbk 70 .eql 69 0]
  (xd 70
   (xr [⟨(some 71), .build [.nils, .nils, (.str ⟨#[]⟩)] [], none⟩, xs 3 4 71, xkb 5 false]
   .ret)
   .skip))))
 (xr [xkb 10 true]
 (xr [xg 73 2 2, xm 74 9, xc2 75 58 73 74, xm 72 75, xe 76 72 0, xe 77 72 1, xf 78 1 7, xs 1 78 76, xm 10 77]
 (.seq (.reg true [xg 79 3 7, xm 80 8, xm 81 80, xmg 82 10 81 true, xp 83 81 82 false, xm 84 83, xfg 85 0 7 84 true, xlg 86 85 84 true, ⟨(some 87), .lenL (.t 86), (some ((some 84), true))⟩, xfg 88 1 7 84 true, xlg 89 88 84 true, ⟨(some 90), .lenL (.t 89), (some ((some 84), true))⟩, ⟨(some 91), .bin .add (.t 87) (.t 90), (some ((some 84), true))⟩, xbg 92 .leq 91 8 84 true, xp 93 84 92 false, xs 3 4 79, xm 5 93] [0, 0, 2, 6, 14, 30, 62, 126, 254, 62, 574, 1598, 4094, 8190, 16382, 63, 65535])
 .ret))))))))))))
theorem ok34 : Tryz.f34.body.bind (comp Tryz.prog) = some c34 := by kernel_rfl
def c35 : IR :=
 (xr [⟨(some 1), .box 71 3 (.t 0), none⟩, ⟨(some 2), .mv (.c (.str ⟨#[]⟩)), none⟩]
 (xr [xf 4 0 1, xl 5 4, xc1 6 60 5, xm 3 6]
 (.seq (xr [xf 7 1 1, xl 8 7, xL 9 8, xbk 10 .gtr 9 0, xm 11 10, xfg 12 2 1 11 false, xlg 13 12 11 false, ⟨(some 14), .bin .neq (.t 13) (.c (.str ⟨#[49]⟩)), (some ((some 11), false))⟩, xpb 15 11 true 14]
 (xd 15
  (xr [xm 16 3, ⟨(some 17), .lit 9 1 1 [(.str ⟨#[]⟩)] [(0, 1, (.c (.str ⟨#[112, 101, 114]⟩)))], none⟩, ⟨(some 18), .app 9 1 16 (.t 16) (.t 17), none⟩, xm 3 18]
  (.seq (xr [xf 19 2 1, xl 20 19, ⟨(some 21), .bin .neq (.t 20) (.c (.str ⟨#[49]⟩)), none⟩]
  (xd 21
   (xR [xm 22 3, xf 23 2 1, xl 24 23, ⟨(some 25), .lit 9 1 1 [(.str ⟨#[]⟩)] [(0, 1, (.t 24))], none⟩, ⟨(some 26), .app 9 1 16 (.t 22) (.t 25), none⟩, xm 3 26])
   .skip))
  (xR [xm 27 3, xf 28 1 1, xl 29 28, xc1 30 60 29, ⟨(some 31), .app 9 1 16 (.t 27) (.t 30), none⟩, xm 3 31])))
  .skip))
 (xr [xm 32 3, xc1 33 61 32, xm 2 33]
 .ret))))
theorem ok35 : Tryz.f35.body.bind (comp Tryz.prog) = some c35 := by kernel_rfl
def c57 : IR :=
 (xr [xkb 2 false]
 (.seq (xr [xk 3 0]
 (.block 0 (.loop (.seq (xr [xm 4 3, xm 5 0, xS 6 5, xb 7 .lss 4 6]
   (xd 7
    .skip
    (.exit 0)))
   (.seq (.block 1 (xr [xm 10 0, xm 11 3, ⟨(some 12), .idxs (.t 10) (.t 11), none⟩, ⟨(some 13), .bin .lss (.t 12) (.c (.int .u8 97)), none⟩, xm 14 13, xmg 15 0 14 false, xmg 16 3 14 false, ⟨(some 17), .idxs (.t 15) (.t 16), (some ((some 14), false))⟩, ⟨(some 18), .bin .gtr (.t 17) (.c (.int .u8 122)), (some ((some 14), false))⟩, xpb 19 14 true 18, xm 20 19, xmg 21 0 20 true, xmg 22 3 20 true, ⟨(some 23), .idxs (.t 21) (.t 22), (some ((some 20), true))⟩, ⟨(some 24), .bin .lss (.t 23) (.c (.int .u8 48)), (some ((some 20), true))⟩, xmg 25 24 20 true, xmg 26 0 25 false, xmg 27 3 25 false, ⟨(some 28), .idxs (.t 26) (.t 27), (some ((some 25), false))⟩, ⟨(some 29), .bin .gtr (.t 28) (.c (.int .u8 57)), (some ((some 25), false))⟩, ⟨(some 30), .pick (.t 25) (.c (.bool true)) (.t 29), (some ((some 20), true))⟩, xp 31 20 30 false]
    (xd 31
     (xr [xkb 2 false]
     .ret)
     .skip)))
   (xR [xm 8 3, xbk 9 .add 8 1, xm 3 9]))))))
 (xr [xm 32 0, xS 33 32, xbk 34 .geq 33 1, xm 35 34, xmg 36 0 35 true, ⟨(some 37), .lenS (.t 36), (some ((some 35), true))⟩, xbg 38 .leq 37 20 35 true, xp 39 35 38 false, xm 2 39]
 .ret)))
theorem ok57 : Tryz.f57.body.bind (comp Tryz.prog) = some c57 := by kernel_rfl
def c58 : IR :=
 (xr [⟨(some 2), .box 43 2 (.t 0), none⟩, ⟨(some 4), .mv (.c .nils), none⟩, xkb 5 false]
 (xr [⟨(some 6), .mv (.c .nils), none⟩]
 (.seq (.block 0 (.loop (.seq (xr [xm 10 1, xL 11 10, xbk 12 .gtr 11 0]
   (xd 12
    .skip
    (.exit 0)))
   (.block 1 (xr [xg 14 2 2, xm 15 1, xc2 16 82 14 15, xm 13 16, xe 17 13 0, xe 18 13 1, xe 19 13 2, ⟨(some 7), .new 107 3 [(.str ⟨#[]⟩), (.str ⟨#[]⟩), (.int .i64 0)], none⟩, xs 3 7 17, xm 8 18, xm 9 19]
    (.seq (xr [xm 20 9, xn 21 20]
    (xd 21
     (xr [⟨(some 4), .mv (.c .nils), none⟩, xkb 5 false]
     .ret)
     .skip))
    (xr [xm 22 6, xg 23 3 7, ⟨(some 24), .lit 107 3 1 [(.str ⟨#[]⟩), (.str ⟨#[]⟩), (.int .i64 0)] [(0, 3, (.t 23))], none⟩, ⟨(some 25), .app 107 3 40 (.t 22) (.t 24), none⟩, xm 6 25]
    (xR [xm 26 1, xm 27 8, ⟨(some 28), .slcL 1 (.t 26) (some (.t 27)) none, none⟩, xm 1 28]))))))))
 (xr [xm 29 6, xm 4 29, xkb 5 true]
 .ret))))
theorem ok58 : Tryz.f58.body.bind (comp Tryz.prog) = some c58 := by kernel_rfl
def c59 : IR :=
 (xr [xkb 2 false]
 (xr [xm 3 0, xc1 4 83 3, xm 5 4, xmg 6 0 5 true, ⟨(some 7), .lenS (.t 6), (some ((some 5), true))⟩, xbg 8 .leq 7 20 5 true, xp 9 5 8 false, xm 10 9, xmg 11 0 10 true, ⟨(some 12), .idxs (.t 11) (.c (.int .i64 0)), (some ((some 10), true))⟩, ⟨(some 13), .bin .neq (.t 12) (.c (.int .u8 48)), (some ((some 10), true))⟩, xp 14 10 13 false, xm 2 14]
 .ret))
theorem ok59 : Tryz.f59.body.bind (comp Tryz.prog) = some c59 := by kernel_rfl
def c60 : IR :=
 (xr [⟨(some 2), .mv (.c .nils), none⟩]
 (xr [⟨(some 3), .mv (.c .nils), none⟩]
 (.seq (xr [xk 4 0]
 (.block 0 (.loop (.seq (xr [xm 5 4, xm 6 0, xL 7 6, xb 8 .lss 5 7]
   (xd 8
    .skip
    (.exit 0)))
   (.seq (.block 1 (xR [xm 11 3, xm 12 0, xm 13 4, xi 14 3 12 13, xg 15 3 14, xc1 16 84 15, ⟨(some 17), .lit 9 1 1 [(.str ⟨#[]⟩)] [(0, 1, (.t 16))], none⟩, ⟨(some 18), .app 9 1 16 (.t 11) (.t 17), none⟩, xm 3 18]))
   (xR [xm 9 4, xbk 10 .add 9 1, xm 4 10]))))))
 (xr [xm 19 3, xm 2 19]
 .ret))))
theorem ok60 : Tryz.f60.body.bind (comp Tryz.prog) = some c60 := by kernel_rfl
def c61 : IR :=
 (xr [⟨(some 2), .mv (.c (.str ⟨#[]⟩)), none⟩]
 (xr [⟨(some 3), .mv (.c (.str ⟨#[]⟩)), none⟩]
 (.seq (xr [xk 4 0]
 (.block 0 (.loop (.seq (xr [xm 5 4, xm 6 0, xL 7 6, xb 8 .lss 5 7]
   (xd 8
    .skip
    (.exit 0)))
   (.seq (.block 1 (.seq (xr [xm 11 4, xbk 12 .gtr 11 0]
    (xd 12
     (xR [xm 13 3, ⟨(some 14), .bin .add (.t 13) (.c (.str ⟨#[45]⟩)), none⟩, xm 3 14])
     .skip))
    (xR [xm 15 3, xm 16 0, xm 17 4, xi 18 1 16 17, xl 19 18, xb 20 .add 15 19, xm 3 20])))
   (xR [xm 9 4, xbk 10 .add 9 1, xm 4 10]))))))
 (xr [xm 21 3, xm 2 21]
 .ret))))
theorem ok61 : Tryz.f61.body.bind (comp Tryz.prog) = some c61 := by kernel_rfl
def c82 : IR :=
 (xr [⟨(some 2), .box 43 2 (.t 0), none⟩, ⟨(some 4), .new 107 3 [(.str ⟨#[]⟩), (.str ⟨#[]⟩), (.int .i64 0)], none⟩, xk 5 0, xkb 6 false]
 (.seq (xr [xm 14 1, xL 15 14, xbk 16 .eql 15 0]
 (xd 16
  (xr [⟨(some 17), .build [(.str ⟨#[]⟩), (.str ⟨#[]⟩), (.int .i64 0)] [], none⟩, xs 3 4 17, xk 5 0, xkb 6 false]
  .ret)
  .skip))
 (xr [⟨(some 18), .build [(.str ⟨#[]⟩), (.str ⟨#[]⟩), (.int .i64 0)] [(2, 1, (.c (.int .i64 1)))], none⟩, ⟨(some 7), .new 107 3 [(.str ⟨#[]⟩), (.str ⟨#[]⟩), (.int .i64 0)], none⟩, xs 3 7 18]
 (xr [xk 8 0]
 (xr [xm 19 1, ⟨(some 20), .iaddrS 1 (.t 19) (.c (.int .i64 0)), none⟩, xl 21 20, xc1 22 110 21, xm 9 22]
 (.seq (xr [xm 23 9, xbk 24 .gtr 23 0]
 (xd 24
  (xR [xm 25 9, xf 26 2 7, xs 1 26 25, xk 8 1])
  .skip))
 (.seq (xr [xm 27 8, xm 28 1, xL 29 28, xb 30 .eql 27 29]
 (xd 30
  (xr [⟨(some 31), .build [(.str ⟨#[]⟩), (.str ⟨#[]⟩), (.int .i64 0)] [], none⟩, xs 3 4 31, xk 5 0, xkb 6 false]
  .ret)
  .skip))
 (xr [xm 32 1, xm 33 8, xi 34 1 32 33, xl 35 34, xm 10 35]
 (.seq (xr [xf 36 0 2, xl 37 36, xm 38 10, xc2 39 111 37 38]
 (xd 39
  (xr [xm 40 10, xf 41 1 7, xs 1 41 40]
  (xr [xg 42 3 7, xm 43 8, xbk 44 .add 43 1, xs 3 4 42, xm 5 44, xkb 6 true]
  .ret))
  .skip))
 (xr [xk 11 (-1)]
 (.seq (xr [xk 12 0]
 (.block 0 (.loop (.seq (xr [xm 45 12, xf 46 1 2, xl 47 46, xL 48 47, xb 49 .lss 45 48]
   (xd 49
    .skip
    (.exit 0)))
   (.seq (.block 1 (xr [xf 52 1 2, xl 53 52, xm 54 12, xi 55 1 53 54, xl 56 55, xS 57 56, xm 13 57]
    (.seq (.reg true [xm 58 13, xm 59 10, xS 60 59, xb 61 .leq 58 60, xm 62 61, xmg 63 10 62 true, xmg 64 13 62 true, ⟨(some 65), .slcS (.t 63) none (some (.t 64)), (some ((some 62), true))⟩, xfg 66 1 2 62 true, xlg 67 66 62 true, xmg 68 12 62 true, ⟨(some 69), .iaddrS 1 (.t 67) (.t 68), (some ((some 62), true))⟩, xlg 70 69 62 true, ⟨(some 71), .bin .eql (.t 65) (.t 70), (some ((some 62), true))⟩, xp 72 62 71 false, xm 73 72, xfg 74 0 2 73 true, xlg 75 74 73 true, xmg 76 10 73 true, xmg 77 13 73 true, ⟨(some 78), .slcS (.t 76) (some (.t 77)) none, (some ((some 73), true))⟩, ⟨(some 79), .call 111 [(.t 75), (.t 78)], (some ((some 73), true))⟩, xp 80 73 79 false, xm 81 80, xmg 82 11 81 true, xbg 83 .lss 82 0 81 true, xmg 84 83 81 true, xmg 85 13 84 false, xfg 86 1 2 84 false, xlg 87 86 84 false, xmg 88 11 84 false, ⟨(some 89), .iaddrS 1 (.t 87) (.t 88), (some ((some 84), false))⟩, xlg 90 89 84 false, ⟨(some 91), .lenS (.t 90), (some ((some 84), false))⟩, ⟨(some 92), .bin .gtr (.t 85) (.t 91), (some ((some 84), false))⟩, ⟨(some 93), .pick (.t 84) (.c (.bool true)) (.t 92), (some ((some 81), true))⟩, xp 94 81 93 false] [0, 0, 2, 7, 15, 31, 31, 127, 31, 287, 31, 1823, 3871, 8191, 16383, 32767, 65535, 131071, 65535, 65535, 851967, 2097151, 4194303, 8388607, 16777215, 33554431, 67108863, 134217727, 134217727, 402653183, 134217727, 2013265919, 4160749567, 8455716863, 17179869183, 34359738367, 68719476735])
    (xd 94
     (xR [xm 95 12, xm 11 95])
     .skip))))
   (xR [xm 50 12, xbk 51 .add 50 1, xm 12 51]))))))
 (.seq (xr [xm 96 11, xbk 97 .lss 96 0]
 (xd 97
  (xr [⟨(some 98), .build [(.str ⟨#[]⟩), (.str ⟨#[]⟩), (.int .i64 0)] [], none⟩, xs 3 4 98, xk 5 0, xkb 6 false]
  .ret)
  .skip))
 (.seq (.reg true [xf 99 1 2, xl 100 99, xm 101 11, xi 102 1 100 101, xl 103 102, xm 104 10, xf 105 1 2, xl 106 105, xm 107 11, xi 108 1 106 107, xl 109 108, xS 110 109, ⟨(some 111), .slcS (.t 104) (some (.t 110)) none, none⟩, xf 112 0 7, xs 1 112 103, xf 113 1 7, xs 1 113 111] [0, 1, 0, 7, 15, 0, 0, 64, 0, 448, 960, 1984, 4064, 31, 8223, 32767, 65535])
 (xr [xg 114 3 7, xm 115 8, xbk 116 .add 115 1, xs 3 4 114, xm 5 116, xkb 6 true]
 .ret))))))))))))))
theorem ok82 : Tryz.f82.body.bind (comp Tryz.prog) = some c82 := by kernel_rfl
def c83 : IR :=
 (xr [xkb 2 false]
 (.seq (xr [xk 3 0]
 (.block 0 (.loop (.seq (xr [xm 4 3, xm 5 0, xS 6 5, xb 7 .lss 4 6]
   (xd 7
    .skip
    (.exit 0)))
   (.seq (.block 1 (xr [xm 10 0, xm 11 3, ⟨(some 12), .idxs (.t 10) (.t 11), none⟩, ⟨(some 13), .bin .lss (.t 12) (.c (.int .u8 48)), none⟩, xm 14 13, xmg 15 0 14 false, xmg 16 3 14 false, ⟨(some 17), .idxs (.t 15) (.t 16), (some ((some 14), false))⟩, ⟨(some 18), .bin .gtr (.t 17) (.c (.int .u8 57)), (some ((some 14), false))⟩, xpb 19 14 true 18]
    (xd 19
     (xr [xkb 2 false]
     .ret)
     .skip)))
   (xR [xm 8 3, xbk 9 .add 8 1, xm 3 9]))))))
 (xr [xm 20 0, ⟨(some 21), .bin .neq (.t 20) (.c (.str ⟨#[]⟩)), none⟩, xm 2 21]
 .ret)))
theorem ok83 : Tryz.f83.body.bind (comp Tryz.prog) = some c83 := by kernel_rfl
def c84 : IR :=
 (xr [⟨(some 1), .box 107 3 (.t 0), none⟩, ⟨(some 2), .mv (.c (.str ⟨#[]⟩)), none⟩]
 (xr [xf 4 0 1, xl 5 4, xf 6 1 1, xl 7 6, xb 8 .add 5 7, xm 3 8]
 (.seq (.block 0 (xr [xf 10 2 1, xl 11 10, xbk 12 .lss 11 1, xm 13 12, xfg 14 2 1 13 false, xlg 15 14 13 false, xbg 16 .gtr 15 15 13 false, xpb 17 13 true 16, xm 9 17]
  (xd 9
   (xr [⟨(some 2), .mv (.c (.str ⟨#[]⟩)), none⟩]
   .ret)
   (xr [xf 19 2 1, xl 20 19, xbk 21 .eql 20 1, xm 18 21]
   (xd 18
    (xr [xm 22 3, xm 2 22]
    .ret)
    (xr [xf 24 2 1, xl 25 24, xbk 26 .eql 25 2, xm 23 26]
    (xd 23
     (xr [xm 27 3, ⟨(some 28), .bin .add (.c (.str ⟨#[115, 113, 117, 97, 114, 101, 45]⟩)) (.t 27), none⟩, xm 2 28]
     .ret)
     (xr [xf 30 2 1, xl 31 30, xbk 32 .eql 31 3, xm 29 32]
     (xd 29
      (xr [xm 33 3, ⟨(some 34), .bin .add (.c (.str ⟨#[99, 117, 98, 105, 99, 45]⟩)) (.t 33), none⟩, xm 2 34]
      .ret)
      .skip)))))))))
 (xr [xf 35 2 1, xl 36 35, xc1 37 112 36, ⟨(some 38), .bin .add (.c (.str ⟨#[112, 111, 119]⟩)) (.t 37), none⟩, ⟨(some 39), .bin .add (.t 38) (.c (.str ⟨#[45]⟩)), none⟩, xm 40 3, xb 41 .add 39 40, xm 2 41]
 .ret))))
theorem ok84 : Tryz.f84.body.bind (comp Tryz.prog) = some c84 := by kernel_rfl
def c110 : IR :=
 (xr [xk 2 0]
 (.seq (xr [xm 4 0, ⟨(some 5), .bin .eql (.t 4) (.c (.str ⟨#[115, 113, 117, 97, 114, 101]⟩)), none⟩]
 (xd 5
  (xr [xk 2 2]
  .ret)
  .skip))
 (.seq (xr [xm 6 0, ⟨(some 7), .bin .eql (.t 6) (.c (.str ⟨#[99, 117, 98, 105, 99]⟩)), none⟩]
 (xd 7
  (xr [xk 2 3]
  .ret)
  .skip))
 (.seq (xr [xk 3 4]
 (.block 0 (.loop (.seq (xr [xm 8 3, xbk 9 .leq 8 15]
   (xd 9
    .skip
    (.exit 0)))
   (.seq (.block 1 (xr [xm 12 0, xm 13 3, xc1 14 112 13, ⟨(some 15), .bin .add (.c (.str ⟨#[112, 111, 119]⟩)) (.t 14), none⟩, xb 16 .eql 12 15]
    (xd 16
     (xr [xm 17 3, xm 2 17]
     .ret)
     .skip)))
   (xR [xm 10 3, xbk 11 .add 10 1, xm 3 11]))))))
 (xr [xk 2 0]
 .ret)))))
theorem ok110 : Tryz.f110.body.bind (comp Tryz.prog) = some c110 := by kernel_rfl
def c111 : IR :=
 (xr [xkb 4 false]
 (.seq (xr [xk 5 0]
 (.block 0 (.loop (.seq (xr [xm 6 5, xm 7 0, xL 8 7, xb 9 .lss 6 8]
   (xd 9
    .skip
    (.exit 0)))
   (.seq (.block 1 (xr [xm 12 0, xm 13 5, xi 14 1 12 13, xl 15 14, xm 16 1, xb 17 .eql 15 16]
    (xd 17
     (xr [xkb 4 true]
     .ret)
     .skip)))
   (xR [xm 10 5, xbk 11 .add 10 1, xm 5 11]))))))
 (xr [xkb 4 false]
 .ret)))
theorem ok111 : Tryz.f111.body.bind (comp Tryz.prog) = some c111 := by kernel_rfl
def c112 : IR :=
 (xr [⟨(some 2), .mv (.c (.str ⟨#[]⟩)), none⟩]
 (xr [xm 3 0, ⟨(some 4), .conv .u64 (.t 3), none⟩, xc1 5 145 4, xc1 6 144 5, xm 2 6]
 .ret))
theorem ok112 : Tryz.f112.body.bind (comp Tryz.prog) = some c112 := by kernel_rfl
end Go.Proofs.YtgimaioeifnajaaGreatDoorK.NatIr
