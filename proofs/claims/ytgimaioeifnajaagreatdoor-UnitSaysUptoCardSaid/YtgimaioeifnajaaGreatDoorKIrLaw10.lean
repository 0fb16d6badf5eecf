/-
  The compiled bodies, printed: IrLaw10.
-/
import Derived.Test.YtgimaioeifnajaaGreatDoorKSh
import Derived.Test.YtgimaioeifnajaaGreatDoorProg
set_option linter.all false
set_option maxHeartbeats 4000000
namespace Go.Proofs.YtgimaioeifnajaaGreatDoorK.NatIr
open AI Go.Proofs
def c8 : IR :=
 (xr [xkb 0 false]
 (xr [xc0 4 10, ⟨(some 5), .call 9 [(.t 4), (.c (.str ⟨#[109, 101, 116, 101, 114, 45, 112, 101, 114, 45, 115, 101, 99, 111, 110, 100]⟩))], none⟩, xm 3 5, xe 6 3 0, xe 7 3 1, ⟨(some 1), .new 25 1 [.nils], none⟩, xs 1 1 6, xm 2 7]
 (xr [xm 8 2, xbk 9 .eql 8 0, xm 10 9, xfg 11 0 1 10 true, xlg 12 11 10 true, ⟨(some 13), .lenL (.t 12), (some ((some 10), true))⟩, xbg 14 .eql 13 1 10 true, xp 15 10 14 false, xm 16 15, xfg 17 0 1 16 true, xlg 18 17 16 true, ⟨(some 19), .iaddrS 3 (.t 18) (.c (.int .i64 0)), (some ((some 16), true))⟩, xfg 20 0 19 16 true, xlg 21 20 16 true, ⟨(some 22), .lenL (.t 21), (some ((some 16), true))⟩, xbg 23 .eql 22 1 16 true, xp 24 16 23 false, xm 25 24, xfg 26 0 1 25 true, xlg 27 26 25 true, ⟨(some 28), .iaddrS 3 (.t 27) (.c (.int .i64 0)), (some ((some 25), true))⟩, xfg 29 1 28 25 true, xlg 30 29 25 true, ⟨(some 31), .lenL (.t 30), (some ((some 25), true))⟩, xbg 32 .eql 31 1 25 true, xp 33 25 32 false, xm 34 33, ⟨(some 35), .load true 1 (.t 1), (some ((some 34), true))⟩, ⟨(some 36), .call 11 [(.t 35)], (some ((some 34), true))⟩, ⟨(some 37), .bin .eql (.t 36) (.c (.str ⟨#[109, 101, 116, 101, 114, 45, 112, 101, 114, 45, 115, 101, 99, 111, 110, 100]⟩)), (some ((some 34), true))⟩, xp 38 34 37 false, xm 39 38, xfg 40 0 1 39 true, xlg 41 40 39 true, ⟨(some 42), .iaddrS 3 (.t 41) (.c (.int .i64 0)), (some ((some 39), true))⟩, xfg 43 2 42 39 true, ⟨(some 44), .load true 1 (.t 43), (some ((some 39), true))⟩, ⟨(some 45), .call 21 [(.t 44)], (some ((some 39), true))⟩, ⟨(some 46), .bin .eql (.t 45) (.c (.str ⟨#[49]⟩)), (some ((some 39), true))⟩, xp 47 39 46 false, xm 0 47]
 .ret)))
theorem ok8 : Tryz.f8.body.bind (comp Tryz.prog) = some c8 := by kernel_rfl
def c10 : IR :=
 (xr [⟨(some 0), .new 31 2 [.nils, .nils], none⟩]
 (xr [⟨(some 1), .lit 9 1 3 [(.str ⟨#[]⟩), (.str ⟨#[]⟩), (.str ⟨#[]⟩)] [(0, 1, (.c (.str ⟨#[109, 101, 116, 101, 114]⟩))), (1, 1, (.c (.str ⟨#[115, 101, 99, 111, 110, 100]⟩))), (2, 1, (.c (.str ⟨#[103, 114, 97, 109]⟩)))], none⟩, ⟨(some 2), .lit 9 1 2 [(.str ⟨#[]⟩), (.str ⟨#[]⟩)] [(0, 1, (.c (.str ⟨#[107, 105, 108, 111]⟩))), (1, 1, (.c (.str ⟨#[109, 105, 108, 108, 105]⟩)))], none⟩, ⟨(some 3), .build [.nils, .nils] [(0, 1, (.t 1)), (1, 1, (.t 2))], none⟩, xs 2 0 3]
 .ret))
theorem ok10 : Tryz.f10.body.bind (comp Tryz.prog) = some c10 := by kernel_rfl
def c12 : IR :=
 (xr [xkb 4 false]
 (.seq (xr [xm 6 0, xL 7 6, xm 8 1, xL 9 8, xb 10 .neq 7 9]
 (xd 10
  (xr [xkb 4 false]
  .ret)
  .skip))
 (.seq (xr [xk 5 0]
 (.block 0 (.loop (.seq (xr [xm 11 5, xm 12 0, xL 13 12, xb 14 .lss 11 13]
   (xd 14
    .skip
    (.exit 0)))
   (.seq (.block 1 (.seq (.reg true [xm 17 0, xm 18 5, xi 19 3 17 18, xf 20 2 19, xl 21 20, xm 22 1, xm 23 5, xi 24 3 22 23, xf 25 2 24, xl 26 25, xb 27 .neq 21 26, xm 28 27, xmg 29 0 28 false, xmg 30 5 28 false, ⟨(some 31), .iaddrS 3 (.t 29) (.t 30), (some ((some 28), false))⟩, xfg 32 0 31 28 false, xlg 33 32 28 false, xmg 34 1 28 false, xmg 35 5 28 false, ⟨(some 36), .iaddrS 3 (.t 34) (.t 35), (some ((some 28), false))⟩, xfg 37 0 36 28 false, xlg 38 37 28 false, ⟨(some 39), .call 28 [(.t 33), (.t 38)], (some ((some 28), false))⟩, xng 40 39 28 false, xpb 41 28 true 40, xm 42 41, xmg 43 0 42 false, xmg 44 5 42 false, ⟨(some 45), .iaddrS 3 (.t 43) (.t 44), (some ((some 42), false))⟩, xfg 46 1 45 42 false, xlg 47 46 42 false, xmg 48 1 42 false, xmg 49 5 42 false, ⟨(some 50), .iaddrS 3 (.t 48) (.t 49), (some ((some 42), false))⟩, xfg 51 1 50 42 false, xlg 52 51 42 false, ⟨(some 53), .call 28 [(.t 47), (.t 52)], (some ((some 42), false))⟩, xng 54 53 42 false, xpb 55 42 true 54] [0, 0, 3, 7, 15, 0, 0, 96, 224, 480, 1023, 2047, 4095, 4095, 16383, 32767, 65535, 4095, 4095, 397311, 921599, 1970175, 4194303, 8388607, 16777215, 33554431, 67108863, 67108863, 268435455, 536870911, 1073741823, 67108863, 67108863, 6509559807, 15099494399, 32279363583, 68719476735, 137438953471, 274877906943])
    (xd 55
     (xr [xkb 4 false]
     .ret)
     .skip)))
   (xR [xm 15 5, xbk 16 .add 15 1, xm 5 16]))))))
 (xr [xkb 4 true]
 .ret))))
theorem ok12 : Tryz.f12.body.bind (comp Tryz.prog) = some c12 := by kernel_rfl
def c13 : IR :=
 (xr [⟨(some 1), .box 25 1 (.t 0), none⟩, ⟨(some 2), .mv (.c .nils), none⟩]
 (xr [⟨(some 3), .mv (.c .nils), none⟩]
 (.seq (xr [xk 4 0]
 (.block 0 (.loop (.seq (xr [xm 5 4, xf 6 0 1, xl 7 6, xL 8 7, xb 9 .lss 5 8]
   (xd 9
    .skip
    (.exit 0)))
   (.seq (.block 1 (xR [xm 12 3, xf 13 0 1, xl 14 13, xm 15 4, xi 16 3 14 15, xg 17 3 16, xc1 18 29 17, ⟨(some 19), .lit 71 3 1 [.nils, .nils, (.str ⟨#[]⟩)] [(0, 3, (.t 18))], none⟩, ⟨(some 20), .app 71 3 64 (.t 12) (.t 19), none⟩, xm 3 20]))
   (xR [xm 10 4, xbk 11 .add 10 1, xm 4 11]))))))
 (xr [xm 21 3, xm 2 21]
 .ret))))
theorem ok13 : Tryz.f13.body.bind (comp Tryz.prog) = some c13 := by kernel_rfl
def c15 : IR :=
 (xr [⟨(some 1), .box 25 1 (.t 0), none⟩, xkb 2 false]
 (.seq (xr [xf 5 0 1, xl 6 5, xL 7 6, xbk 8 .gtr 7 8]
 (xd 8
  (xr [xkb 2 false]
  .ret)
  .skip))
 (.seq (xr [xk 3 0]
 (.block 0 (.loop (.seq (xr [xm 9 3, xf 10 0 1, xl 11 10, xL 12 11, xb 13 .lss 9 12]
   (xd 13
    .skip
    (.exit 0)))
   (.seq (.block 1 (xr [xf 16 0 1, xl 17 16, xm 18 3, xi 19 3 17 18, xg 20 3 19, ⟨(some 4), .new 52 3 [.nils, .nils, .nils], none⟩, xs 3 4 20]
    (xr [xf 21 0 4, xl 22 21, xL 23 22, xbk 24 .gtr 23 12, xm 25 24, xfg 26 1 4 25 false, xlg 27 26 25 false, ⟨(some 28), .lenL (.t 27), (some ((some 25), false))⟩, xbg 29 .gtr 28 12 25 false, xpb 30 25 true 29, xm 31 30, xfg 32 2 4 31 false, xfg 33 0 32 31 false, xlg 34 33 31 false, ⟨(some 35), .lenL (.t 34), (some ((some 31), false))⟩, xbg 36 .gtr 35 6 31 false, xpb 37 31 true 36]
    (xd 37
     (xr [xkb 2 false]
     .ret)
     .skip))))
   (xR [xm 14 3, xbk 15 .add 14 1, xm 3 15]))))))
 (xr [xkb 2 true]
 .ret))))
theorem ok15 : Tryz.f15.body.bind (comp Tryz.prog) = some c15 := by kernel_rfl
def c17 : IR :=
 (xr [⟨(some 1), .box 31 2 (.t 0), none⟩, ⟨(some 2), .new 43 2 [.nils, .nils], none⟩]
 (xr [xf 3 0 1, xl 4 3, xf 5 1 1, xl 6 5, ⟨(some 7), .build [.nils, .nils] [(0, 1, (.t 4)), (1, 1, (.t 6))], none⟩, xs 2 2 7]
 .ret))
theorem ok17 : Tryz.f17.body.bind (comp Tryz.prog) = some c17 := by kernel_rfl
def c28 : IR :=
 (xr [xkb 4 false]
 (.seq (xr [xm 6 0, xL 7 6, xm 8 1, xL 9 8, xb 10 .neq 7 9]
 (xd 10
  (xr [xkb 4 false]
  .ret)
  .skip))
 (.seq (xr [xk 5 0]
 (.block 0 (.loop (.seq (xr [xm 11 5, xm 12 0, xL 13 12, xb 14 .lss 11 13]
   (xd 14
    .skip
    (.exit 0)))
   (.seq (.block 1 (.seq (.reg true [xm 17 0, xm 18 5, xi 19 3 17 18, xg 20 3 19, xm 21 1, xm 22 5, xi 23 3 21 22, xg 24 3 23, ⟨(some 25), .seq [(0, 2), (1, 2), (2, 1)] true (.t 20) (.t 24), none⟩] [0, 0, 3, 7, 0, 0, 48, 112, 255])
    (xd 25
     (xr [xkb 4 false]
     .ret)
     .skip)))
   (xR [xm 15 5, xbk 16 .add 15 1, xm 5 16]))))))
 (xr [xkb 4 true]
 .ret))))
theorem ok28 : Tryz.f28.body.bind (comp Tryz.prog) = some c28 := by kernel_rfl
def c29 : IR :=
 (xr [⟨(some 1), .box 52 3 (.t 0), none⟩, ⟨(some 2), .new 71 3 [.nils, .nils, (.str ⟨#[]⟩)], none⟩]
 (.seq (.reg true [xf 3 0 1, xl 4 3, xc1 5 54 4, xf 6 1 1, xl 7 6, xc1 8 54 7, xf 9 2 1, xg 10 1 9, xc1 11 21 10, ⟨(some 12), .build [.nils, .nils, (.str ⟨#[]⟩)] [(0, 1, (.t 5)), (1, 1, (.t 8)), (2, 1, (.t 11))], none⟩, xs 3 2 12] [0, 1, 3, 0, 8, 31, 0, 64, 255, 511, 1023])
 .ret))
theorem ok29 : Tryz.f29.body.bind (comp Tryz.prog) = some c29 := by kernel_rfl
def c54 : IR :=
 (xr [⟨(some 2), .mv (.c .nils), none⟩]
 (xr [⟨(some 3), .mv (.c .nils), none⟩]
 (.seq (xr [xk 4 0]
 (.block 0 (.loop (.seq (xr [xm 5 4, xm 6 0, xL 7 6, xb 8 .lss 5 7]
   (xd 8
    .skip
    (.exit 0)))
   (.seq (.block 1 (xR [xm 11 3, xm 12 0, xm 13 4, xi 14 3 12 13, xg 15 3 14, xc1 16 81 15, ⟨(some 17), .lit 107 3 1 [(.str ⟨#[]⟩), (.str ⟨#[]⟩), (.int .i64 0)] [(0, 3, (.t 16))], none⟩, ⟨(some 18), .app 107 3 40 (.t 11) (.t 17), none⟩, xm 3 18]))
   (xR [xm 9 4, xbk 10 .add 9 1, xm 4 10]))))))
 (xr [xm 19 3, xm 2 19]
 .ret))))
theorem ok54 : Tryz.f54.body.bind (comp Tryz.prog) = some c54 := by kernel_rfl
def c81 : IR :=
 (xr [⟨(some 1), .box 60 3 (.t 0), none⟩, ⟨(some 2), .new 107 3 [(.str ⟨#[]⟩), (.str ⟨#[]⟩), (.int .i64 0)], none⟩]
 (xr [xf 3 0 1, xl 4 3, xf 5 1 1, xl 6 5, xf 7 2 1, xl 8 7, ⟨(some 9), .build [(.str ⟨#[]⟩), (.str ⟨#[]⟩), (.int .i64 0)] [(0, 1, (.t 4)), (1, 1, (.t 6)), (2, 1, (.t 8))], none⟩, xs 3 2 9]
 .ret))
theorem ok81 : Tryz.f81.body.bind (comp Tryz.prog) = some c81 := by kernel_rfl
end Go.Proofs.YtgimaioeifnajaaGreatDoorK.NatIr
