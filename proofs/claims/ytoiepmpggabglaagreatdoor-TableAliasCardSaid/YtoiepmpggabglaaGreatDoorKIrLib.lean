/-
 The compiled bodies, printed: IrLib.
-/
import Derived.Test.YtoiepmpggabglaaGreatDoorKSh
import Derived.Test.YtoiepmpggabglaaGreatDoorProg
set_option linter.all false
set_option maxHeartbeats 4000000
namespace Go.Proofs.YtoiepmpggabglaaGreatDoorK.NatIr
open AI Go.Proofs
def c48 : IR :=
 (xr [xm 4 0, xL 5 4, xbk 6 .sub 5 1, xk 2 0, xm 3 6]
 (.block 0 (.loop (.seq (xr [xm 7 2, xm 8 3, xb 9 .lss 7 8]
  (
  xd 9
  .skip
  (.exit 0)))
  (.seq (.block 1 (.reg true [xm 14 0, xm 15 2, xm 16 0, xm 17 3, xm 18 0, xm 19 3, xi 20 1 18 19, xl 21 20, xm 22 0, xm 23 2, xi 24 1 22 23, xl 25 24, xi 26 1 14 15, xs 1 26 21, xi 27 1 16 17, xs 1 27 25] [0, 0, 0, 0, 0, 0, 48, 112, 0, 0, 768, 1792, 4083, 8179, 16383, 32767]))
  (xR [xm 10 2, xbk 11 .add 10 1, xm 12 3, xbk 13 .sub 12 1, xm 2 11, xm 3 13]))))))
theorem ok48 : Tryz.f48.body.bind (comp Tryz.prog) = some c48 := by kernel_rfl
def c50 : IR :=
 (xr [xkb 4 false]
 (xr [xm 5 0, xm 6 1, xc2 7 88 5 6, xm 4 7]
 .ret))
theorem ok50 : Tryz.f50.body.bind (comp Tryz.prog) = some c50 := by kernel_rfl
def c66 : IR :=
 (xr [xkb 4 false]
 (xr [xm 5 0, xm 6 1, xc2 7 98 5 6, xbk 8 .geq 7 0, xm 4 8]
 .ret))
theorem ok66 : Tryz.f66.body.bind (comp Tryz.prog) = some c66 := by kernel_rfl
def c67 : IR :=
 (xr [⟨(some 2), .mv (.c .nils), none⟩]
 (xr [xk 3 0]
 (.seq (xr [xm 9 0, xL 10 9, xk 11 0]
 (.block 0 (.loop (xr [xb 12 .lss 11 10]
  (
  .seq (xd 12
  .skip
  (.exit 0))
  (
  .seq (.block 1 (xr [xi 13 1 9 11, xl 14 13, xm 5 14]
  (xr [xm 15 3, xm 16 5, xL 17 16, xb 18 .add 15 17, xm 3 18]
  (xr [xm 19 3, xbk 20 .lss 19 0]
  (
   xd 20
   .dead
   .skip)))))
  (xR [xbk 22 .add 11 1, xm 11 22])))))))
 (xr [xm 23 3, ⟨(some 24), .call 99 [(.c .nils), (.t 23)], none⟩, xm 6 24]
 (.seq (xr [xm 25 0, xL 26 25, xk 27 0]
 (.block 2 (.loop (xr [xb 28 .lss 27 26]
  (
  .seq (xd 28
  .skip
  (.exit 2))
  (
  .seq (.block 3 (xr [xi 29 1 25 27, xl 30 29, xm 8 30]
  (xR [xm 31 6, xm 32 8, ⟨(some 33), .app 98 3 40 (.t 31) (.t 32), none⟩, xm 6 33])))
  (xR [xbk 34 .add 27 1, xm 27 34])))))))
 (xr [xm 35 6, xm 2 35]
 .ret))))))
theorem ok67 : Tryz.f67.body.bind (comp Tryz.prog) = some c67 := by kernel_rfl
def c88 : IR :=
 (xr [xkb 4 false]
 (xr [xm 5 0, xS 6 5, xm 7 1, xS 8 7, xb 9 .geq 6 8, xm 10 9, xmg 11 0 10 true, xmg 12 1 10 true, ⟨(some 13), .lenS (.t 12), (some ((some 10), true))⟩, ⟨(some 14), .slcS (.t 11) none (some (.t 13)), (some ((some 10), true))⟩, xmg 15 1 10 true, ⟨(some 16), .bin .eql (.t 14) (.t 15), (some ((some 10), true))⟩, xp 17 10 16 false, xm 4 17]
 .ret))
theorem ok88 : Tryz.f88.body.bind (comp Tryz.prog) = some c88 := by kernel_rfl
def c98 : IR :=
 (xr [xk 4 0]
 (.seq (xr [xm 6 0, xL 7 6, xk 8 0]
 (.block 0 (.loop (xr [xb 9 .lss 8 7]
  (
  .seq (xd 9
  .skip
  (.exit 0))
  (
  .seq (.block 1 (xr [xm 10 8, xm 5 10]
  (xr [xm 11 1, xm 12 0, xm 13 5, xi 14 3 12 13, xg 15 3 14, ⟨(some 16), .dcall (.t 11) [(.t 15)], none⟩]
  (
   xd 16
   (xr [xm 17 5, xm 4 17]
   .ret)
   .skip))))
  (xR [xbk 18 .add 8 1, xm 8 18])))))))
 (xr [xk 4 (-1)]
 .ret)))
theorem ok98 : Tryz.f98.body.bind (comp Tryz.prog) = some c98 := by kernel_rfl
def c99 : IR :=
 (xr [⟨(some 4), .mv (.c .nils), none⟩]
 (.seq (xr [xm 5 1, xbk 6 .lss 5 0]
 (
 xd 6
 .dead
 .skip))
 (.seq (xr [xm 8 1, xm 9 0, ⟨(some 10), .capL (.t 9), none⟩, xm 11 0, xL 12 11, xb 13 .sub 10 12, xb 14 .sub 8 13, xm 1 14]
 (xr [xm 15 1, xbk 16 .gtr 15 0]
 (
 xd 16
 (xR [xm 17 0, xm 18 0, ⟨(some 19), .capL (.t 18), none⟩, ⟨(some 20), .slcL 3 (.t 17) none (some (.t 19)), none⟩, xm 21 1, ⟨(some 22), .appZ 98 3 40 (.t 20) (.t 21), none⟩, xm 23 0, xL 24 23, ⟨(some 25), .slcL 3 (.t 22) none (some (.t 24)), none⟩, xm 0 25])
 .skip)))
 (xr [xm 26 0, xm 4 26]
 .ret))))
theorem ok99 : Tryz.f99.body.bind (comp Tryz.prog) = some c99 := by kernel_rfl
def c154 : IR :=
 (xr [xkb 4 false]
 (xr [xm 5 0, xm 6 1, xc2 7 172 5 6, xbk 8 .geq 7 0, xm 4 8]
 .ret))
theorem ok154 : Tryz.f154.body.bind (comp Tryz.prog) = some c154 := by kernel_rfl
def c158 : IR :=
 (xr [xkb 4 false]
 (xr [xm 5 0, xm 6 1, xc2 7 175 5 6, xbk 8 .geq 7 0, xm 4 8]
 .ret))
theorem ok158 : Tryz.f158.body.bind (comp Tryz.prog) = some c158 := by kernel_rfl
def c172 : IR :=
 (xr [xk 4 0]
 (.seq (xr [xm 6 0, xL 7 6, xk 8 0]
 (.block 0 (.loop (xr [xb 9 .lss 8 7]
  (
  .seq (xd 9
  .skip
  (.exit 0))
  (
  .seq (.block 1 (xr [xm 10 8, xm 5 10]
  (xr [xm 11 1, xm 12 0, xm 13 5, xi 14 1 12 13, xl 15 14, ⟨(some 16), .dcall (.t 11) [(.t 15)], none⟩]
  (
   xd 16
   (xr [xm 17 5, xm 4 17]
   .ret)
   .skip))))
  (xR [xbk 18 .add 8 1, xm 8 18])))))))
 (xr [xk 4 (-1)]
 .ret)))
theorem ok172 : Tryz.f172.body.bind (comp Tryz.prog) = some c172 := by kernel_rfl
def c175 : IR :=
 (xr [xk 4 0]
 (.seq (xr [xm 6 0, xL 7 6, xk 8 0]
 (.block 0 (.loop (xr [xb 9 .lss 8 7]
  (
  .seq (xd 9
  .skip
  (.exit 0))
  (
  .seq (.block 1 (xr [xm 10 8, xm 5 10]
  (xr [xm 11 1, xm 12 0, xm 13 5, xi 14 1 12 13, xl 15 14, xb 16 .eql 11 15]
  (
   xd 16
   (xr [xm 17 5, xm 4 17]
   .ret)
   .skip))))
  (xR [xbk 18 .add 8 1, xm 8 18])))))))
 (xr [xk 4 (-1)]
 .ret)))
theorem ok175 : Tryz.f175.body.bind (comp Tryz.prog) = some c175 := by kernel_rfl
end Go.Proofs.YtoiepmpggabglaaGreatDoorK.NatIr
