/-
  The compiled bodies, printed: IrLib.
-/
import Derived.Test.YtgimaioeifnajaaGreatDoorKSh
import Derived.Test.YtgimaioeifnajaaGreatDoorProg
set_option linter.all false
set_option maxHeartbeats 4000000
namespace Go.Proofs.YtgimaioeifnajaaGreatDoorK.NatIr
open AI Go.Proofs
def c30 : IR :=
 (xr [xkb 6 false]
 (.seq (xr [xm 10 0, xL 11 10, xm 12 1, xL 13 12, xb 14 .neq 11 13]
 (xd 14
  (xr [xkb 6 false]
  .ret)
  .skip))
 (.seq (xr [xm 15 0, xL 16 15, xk 17 0]
 (.block 0 (.loop (xr [xb 18 .lss 17 16]
   (.seq (xd 18
    .skip
    (.exit 0))
   (.seq (.block 1 (xr [xm 19 17, xi 20 3 15 17, xg 21 3 20, ⟨(some 8), .new 52 3 [.nils, .nils, .nils], none⟩, xm 7 19, xs 3 8 21]
    (xr [xm 22 1, xm 23 7, xi 24 3 22 23, xg 25 3 24, ⟨(some 9), .new 52 3 [.nils, .nils, .nils], none⟩, xs 3 9 25]
    (xr [xm 26 2, xg 27 3 8, xg 28 3 9, ⟨(some 29), .dcall (.t 26) [(.t 27), (.t 28)], none⟩, xn 30 29]
    (xd 30
     (xr [xkb 6 false]
     .ret)
     .skip)))))
   (xR [xbk 31 .add 17 1, xm 17 31])))))))
 (xr [xkb 6 true]
 .ret))))
theorem ok30 : Tryz.f30.body.bind (comp Tryz.prog) = some c30 := by kernel_rfl
def c42 : IR :=
 (xr [xm 4 0, xL 5 4, xbk 6 .sub 5 1, xk 2 0, xm 3 6]
 (.block 0 (.loop (.seq (xr [xm 7 2, xm 8 3, xb 9 .lss 7 8]
   (xd 9
    .skip
    (.exit 0)))
   (.seq (.block 1 (.reg true [xm 14 0, xm 15 2, xm 16 0, xm 17 3, xm 18 0, xm 19 3, xi 20 1 18 19, xl 21 20, xm 22 0, xm 23 2, xi 24 1 22 23, xl 25 24, xi 26 1 14 15, xs 1 26 21, xi 27 1 16 17, xs 1 27 25] [0, 0, 0, 0, 0, 0, 48, 112, 0, 0, 768, 1792, 4083, 8179, 16383, 32767]))
   (xR [xm 10 2, xbk 11 .add 10 1, xm 12 3, xbk 13 .sub 12 1, xm 2 11, xm 3 13]))))))
theorem ok42 : Tryz.f42.body.bind (comp Tryz.prog) = some c42 := by kernel_rfl
def c55 : IR :=
 (xr [xkb 4 false]
 (.seq (xr [xm 6 0, xL 7 6, xm 8 1, xL 9 8, xb 10 .neq 7 9]
 (xd 10
  (xr [xkb 4 false]
  .ret)
  .skip))
 (.seq (xr [xm 11 0, xL 12 11, xk 13 0]
 (.block 0 (.loop (xr [xb 14 .lss 13 12]
   (.seq (xd 14
    .skip
    (.exit 0))
   (.seq (.block 1 (xr [xm 15 13, xm 5 15]
    (.seq (.reg true [xm 16 0, xm 17 5, xi 18 3 16 17, xg 19 3 18, xm 20 1, xm 21 5, xi 22 3 20 21, xg 23 3 22, ⟨(some 24), .seq [(0, 2), (1, 2), (2, 1)] true (.t 19) (.t 23), none⟩] [0, 0, 3, 7, 0, 0, 48, 112, 255])
    (xd 24
     (xr [xkb 4 false]
     .ret)
     .skip))))
   (xR [xbk 25 .add 13 1, xm 13 25])))))))
 (xr [xkb 4 true]
 .ret))))
theorem ok55 : Tryz.f55.body.bind (comp Tryz.prog) = some c55 := by kernel_rfl
def c56 : IR :=
 (xr [xkb 4 false]
 (.seq (xr [xm 6 0, xL 7 6, xm 8 1, xL 9 8, xb 10 .neq 7 9]
 (xd 10
  (xr [xkb 4 false]
  .ret)
  .skip))
 (.seq (xr [xm 11 0, xL 12 11, xk 13 0]
 (.block 0 (.loop (xr [xb 14 .lss 13 12]
   (.seq (xd 14
    .skip
    (.exit 0))
   (.seq (.block 1 (xr [xm 15 13, xm 5 15]
    (.seq (.reg true [xm 16 0, xm 17 5, xi 18 1 16 17, xl 19 18, xm 20 1, xm 21 5, xi 22 1 20 21, xl 23 22, xb 24 .neq 19 23] [0, 0, 3, 7, 0, 0, 48, 112, 255])
    (xd 24
     (xr [xkb 4 false]
     .ret)
     .skip))))
   (xR [xbk 25 .add 13 1, xm 13 25])))))))
 (xr [xkb 4 true]
 .ret))))
theorem ok56 : Tryz.f56.body.bind (comp Tryz.prog) = some c56 := by kernel_rfl
def c62 : IR :=
 (xr [xk 4 0]
 (.seq (xr [xm 6 0, xL 7 6, xk 8 0]
 (.block 0 (.loop (xr [xb 9 .lss 8 7]
   (.seq (xd 9
    .skip
    (.exit 0))
   (.seq (.block 1 (xr [xm 10 8, xm 5 10]
    (xr [xm 11 1, xm 12 0, xm 13 5, xi 14 3 12 13, xg 15 3 14, ⟨(some 16), .dcall (.t 11) [(.t 15)], none⟩]
    (xd 16
     (xr [xm 17 5, xm 4 17]
     .ret)
     .skip))))
   (xR [xbk 18 .add 8 1, xm 8 18])))))))
 (xr [xk 4 (-1)]
 .ret)))
theorem ok62 : Tryz.f62.body.bind (comp Tryz.prog) = some c62 := by kernel_rfl
def c67 : IR :=
 (xr [xkb 4 false]
 (xr [xm 5 0, xm 6 1, xc2 7 62 5 6, xbk 8 .geq 7 0, xm 4 8]
 .ret))
theorem ok67 : Tryz.f67.body.bind (comp Tryz.prog) = some c67 := by kernel_rfl
def c72 : IR :=
 (xr [xkb 4 false]
 (xr [xm 5 0, xm 6 1, xc2 7 93 5 6, xm 4 7]
 .ret))
theorem ok72 : Tryz.f72.body.bind (comp Tryz.prog) = some c72 := by kernel_rfl
def c87 : IR :=
 (xr [xk 2 0]
 (xr [xk 3 0]
 (.seq (xr [xm 6 0, xL 7 6, xk 8 0]
 (.block 0 (.loop (xr [xb 9 .lss 8 7]
   (.seq (xd 9
    .skip
    (.exit 0))
   (.seq (.block 1 (xr [xi 10 1 6 8, xl 11 10, xm 5 11]
    (xr [xm 12 5, xm 13 3, xb 14 .neq 12 13]
    (xd 14
     (xr [xm 15 5, xm 2 15]
     .ret)
     .skip))))
   (xR [xbk 16 .add 8 1, xm 8 16])))))))
 (xr [xm 17 3, xm 2 17]
 .ret))))
theorem ok87 : Tryz.f87.body.bind (comp Tryz.prog) = some c87 := by kernel_rfl
def c88 : IR :=
 (xr [xk 4 0]
 (xr [xm 7 0, xc1 8 123 7, xm 5 8]
 (xr [xm 9 1, xc1 10 123 9, xm 6 10]
 (.seq (xr [xm 11 5]
 (xd 11
  (.seq (xr [xm 12 6]
  (xd 12
   (xr [xk 4 0]
   .ret)
   .skip))
  (xr [xk 4 (-1)]
  .ret))
  .skip))
 (.seq (xr [xm 13 6]
 (xd 13
  (xr [xk 4 1]
  .ret)
  .skip))
 (.seq (xr [xm 14 0, xm 15 1, xb 16 .lss 14 15]
 (xd 16
  (xr [xk 4 (-1)]
  .ret)
  .skip))
 (.seq (xr [xm 17 0, xm 18 1, xb 19 .gtr 17 18]
 (xd 19
  (xr [xk 4 1]
  .ret)
  .skip))
 (xr [xk 4 0]
 .ret))))))))
theorem ok88 : Tryz.f88.body.bind (comp Tryz.prog) = some c88 := by kernel_rfl
def c89 : IR :=
 (xr [xk 4 0]
 (xr [xm 7 0, xc1 8 124 7, xm 5 8]
 (xr [xm 9 1, xc1 10 124 9, xm 6 10]
 (.seq (xr [xm 11 5]
 (xd 11
  (.seq (xr [xm 12 6]
  (xd 12
   (xr [xk 4 0]
   .ret)
   .skip))
  (xr [xk 4 (-1)]
  .ret))
  .skip))
 (.seq (xr [xm 13 6]
 (xd 13
  (xr [xk 4 1]
  .ret)
  .skip))
 (.seq (xr [xm 14 0, xm 15 1, xb 16 .lss 14 15]
 (xd 16
  (xr [xk 4 (-1)]
  .ret)
  .skip))
 (.seq (xr [xm 17 0, xm 18 1, xb 19 .gtr 17 18]
 (xd 19
  (xr [xk 4 1]
  .ret)
  .skip))
 (xr [xk 4 0]
 .ret))))))))
theorem ok89 : Tryz.f89.body.bind (comp Tryz.prog) = some c89 := by kernel_rfl
def c93 : IR :=
 (xr [xkb 4 false]
 (xr [xm 5 0, xS 6 5, xm 7 1, xS 8 7, xb 9 .geq 6 8, xm 10 9, xmg 11 0 10 true, xmg 12 1 10 true, ⟨(some 13), .lenS (.t 12), (some ((some 10), true))⟩, ⟨(some 14), .slcS (.t 11) none (some (.t 13)), (some ((some 10), true))⟩, xmg 15 1 10 true, ⟨(some 16), .bin .eql (.t 14) (.t 15), (some ((some 10), true))⟩, xp 17 10 16 false, xm 4 17]
 .ret))
theorem ok93 : Tryz.f93.body.bind (comp Tryz.prog) = some c93 := by kernel_rfl
def c123 : IR :=
 (xr [xkb 2 false]
 (xr [xm 3 0, xm 4 0, xb 5 .neq 3 4, xm 2 5]
 .ret))
theorem ok123 : Tryz.f123.body.bind (comp Tryz.prog) = some c123 := by kernel_rfl
def c124 : IR :=
 (xr [xkb 2 false]
 (xr [xm 3 0, xm 4 0, xb 5 .neq 3 4, xm 2 5]
 .ret))
theorem ok124 : Tryz.f124.body.bind (comp Tryz.prog) = some c124 := by kernel_rfl
def c136 : IR :=
 (xr [xkb 4 false]
 (xr [xm 5 0, xm 6 1, xc2 7 162 5 6, xbk 8 .geq 7 0, xm 4 8]
 .ret))
theorem ok136 : Tryz.f136.body.bind (comp Tryz.prog) = some c136 := by kernel_rfl
def c162 : IR :=
 (xr [xk 4 0]
 (.seq (xr [xm 6 0, xL 7 6, xk 8 0]
 (.block 0 (.loop (xr [xb 9 .lss 8 7]
   (.seq (xd 9
    .skip
    (.exit 0))
   (.seq (.block 1 (xr [xm 10 8, xm 5 10]
    (xr [xm 11 1, xm 12 0, xm 13 5, xi 14 1 12 13, xl 15 14, xb 16 .eql 11 15]
    (xd 16
     (xr [xm 17 5, xm 4 17]
     .ret)
     .skip))))
   (xR [xbk 18 .add 8 1, xm 8 18])))))))
 (xr [xk 4 (-1)]
 .ret)))
theorem ok162 : Tryz.f162.body.bind (comp Tryz.prog) = some c162 := by kernel_rfl
end Go.Proofs.YtgimaioeifnajaaGreatDoorK.NatIr
