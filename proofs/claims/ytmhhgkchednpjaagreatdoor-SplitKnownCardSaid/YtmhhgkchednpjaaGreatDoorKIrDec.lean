/-
 The compiled bodies, printed: IrDec.
-/
import Derived.Test.YtmhhgkchednpjaaGreatDoorKSh
import Derived.Test.YtmhhgkchednpjaaGreatDoorProg
set_option linter.all false
set_option maxHeartbeats 4000000
namespace Go.Proofs.YtmhhgkchednpjaaGreatDoorK.NatIr
open AI Go.Proofs
def c24 : IR :=
 (xr [⟨(some 1), .box 48 3 (.t 0), none⟩, ⟨(some 2), .new 28 3 [(.bool false), .nils, .nils], none⟩]
 (xr [xg 5 3 1, xc1 6 78 5, xs 3 1 6]
 (.seq (.reg true [xf 8 0 1, xl 9 8, xf 10 1 1, xg 11 1 10, ⟨(some 12), .build [(.bool false), .nils] [(0, 1, (.t 9)), (1, 1, (.t 11))], none⟩, xf 13 2 1, xl 14 13, xc1 15 79 14, xc2 16 67 12 15, xm 7 16, xe 17 7 0, xe 18 7 1, ⟨(some 3), .new 28 3 [(.bool false), .nils, .nils], none⟩, xs 3 3 17, xm 4 18] [0, 1, 0, 4, 15, 0, 32, 96, 255, 511, 1023, 1023, 0, 6143, 16383])
 (xr [xg 19 3 3, xs 3 2 19]
 .ret))))
theorem ok24 : Tryz.f24.body.bind (comp Tryz.prog) = some c24 := by kernel_rfl
def c70 : IR :=
 (xr [⟨(some 2), .box 28 3 (.t 0), none⟩, ⟨(some 4), .new 48 3 [(.bool false), .nils, (.int .i64 0)], none⟩, xkb 5 false]
 (.seq (.reg true [xg 11 3 2, ⟨(some 12), .call 25 [(.c (.int .i64 0))], none⟩, xc2 13 68 11 12, xs 3 2 13] [0, 0, 3, 7])
 (xr [xf 14 0 2, xf 15 1 14, xg 16 1 15, ⟨(some 6), .new 24 1 [.nils], none⟩, xs 1 6 16]
 (.seq (xr [xk 7 0]
 (.block 0 (.loop (.seq (xr [xm 17 7, xm 18 1, ⟨(some 19), .mx (.t 18) (.c (.int .i64 0)), none⟩, ⟨(some 20), .mn (.t 19) (.c (.int .i64 60)), none⟩, xb 21 .leq 17 20]
  (
  xd 21
  .skip
  (.exit 0)))
  (
  .seq (.block 1 (xr [xg 25 1 6, xf 26 2 2, xg 27 1 26, xc2 28 136 25 27, xm 24 28, xe 29 24 0, xe 30 24 1, xe 31 24 2, ⟨(some 8), .new 24 1 [.nils], none⟩, ⟨(some 9), .new 24 1 [.nils], none⟩, xs 1 8 29, xs 1 9 30, xm 10 31]
  (.seq (xr [xm 32 10, xn 33 32]
  (
   xd 33
   (.exit 0)
   .skip))
  (.seq (xr [xg 34 1 9, xc1 35 140 34]
  (
   xd 35
   (xr [xf 36 0 2, xf 37 0 36, xl 38 37, xg 39 1 8, xm 40 7, ⟨(some 41), .build [(.bool false), .nils, (.int .i64 0)] [(0, 1, (.t 38)), (1, 1, (.t 39)), (2, 1, (.t 40))], none⟩, xs 3 4 41, xkb 5 true]
   .ret)
   .skip))
  (.reg true [xg 42 1 6, ⟨(some 43), .call 34 [(.c (.int .u64 10))], none⟩, xc2 44 71 42 43, xs 1 6 44] [0, 0, 3, 7])))))
  (xR [xm 22 7, xbk 23 .add 22 1, xm 7 23]))))))
 (xr [⟨(some 45), .build [(.bool false), .nils, (.int .i64 0)] [], none⟩, xs 3 4 45, xkb 5 false]
 .ret)))))
theorem ok70 : Tryz.f70.body.bind (comp Tryz.prog) = some c70 := by kernel_rfl
def c78 : IR :=
 (xr [⟨(some 1), .box 48 3 (.t 0), none⟩, ⟨(some 2), .new 48 3 [(.bool false), .nils, (.int .i64 0)], none⟩]
 (.seq (xr [xg 3 3 1, xc1 4 145 3, xn 5 4]
 (
 xd 5
 (xr [⟨(some 6), .build [(.bool false), .nils, (.int .i64 0)] [], none⟩, xs 3 2 6]
 .ret)
 .skip))
 (xr [xg 7 3 1, xs 3 2 7]
 .ret)))
theorem ok78 : Tryz.f78.body.bind (comp Tryz.prog) = some c78 := by kernel_rfl
def c79 : IR :=
 (xr [⟨(some 2), .new 24 1 [.nils], none⟩]
 (xr [⟨(some 3), .call 34 [(.c (.int .u64 10))], none⟩, xm 4 0, xc2 5 72 3 4, xs 1 2 5]
 .ret))
theorem ok79 : Tryz.f79.body.bind (comp Tryz.prog) = some c79 := by kernel_rfl
def c140 : IR :=
 (xr [⟨(some 1), .box 24 1 (.t 0), none⟩, xkb 2 false]
 (xr [xg 3 1 1, ⟨(some 4), .build [.nils] [], none⟩, xc2 5 88 3 4, xbk 6 .eql 5 0, xm 2 6]
 .ret))
theorem ok140 : Tryz.f140.body.bind (comp Tryz.prog) = some c140 := by kernel_rfl
def c145 : IR :=
 (xr [⟨(some 1), .box 48 3 (.t 0), none⟩, xkb 2 false]
 (xr [xf 3 1 1, xg 4 1 3, xc1 5 111 4, xm 6 5, xfg 7 2 1 6 true, xlg 8 7 6 true, xbg 9 .geq 8 0 6 true, xp 10 6 9 false, xm 11 10, xfg 12 2 1 11 true, xlg 13 12 11 true, xbg 14 .leq 13 60 11 true, xp 15 11 14 false, xm 16 15, xfg 17 0 1 16 true, xlg 18 17 16 true, xmg 19 18 16 true, xfg 20 1 1 19 true, ⟨(some 21), .load true 1 (.t 20), (some ((some 19), true))⟩, ⟨(some 22), .call 140 [(.t 21)], (some ((some 19), true))⟩, ⟨(some 23), .pick (.t 19) (.t 22) (.c (.bool false)), (some ((some 16), true))⟩, xng 24 23 16 true, xp 25 16 24 false, xm 2 25]
 .ret))
theorem ok145 : Tryz.f145.body.bind (comp Tryz.prog) = some c145 := by kernel_rfl
def c169 : IR :=
 (xr [⟨(some 1), .box 48 3 (.t 0), none⟩, ⟨(some 2), .mv (.c (.str ⟨#[]⟩)), none⟩]
 (xr [xg 5 3 1, xc1 6 78 5, xs 3 1 6]
 (xr [xg 8 3 1, xc1 9 214 8, xm 7 9, xe 10 7 0, xe 11 7 1, xm 3 10, xm 4 11]
 (.seq (xr [xm 12 4, ⟨(some 13), .bin .neq (.t 12) (.c (.str ⟨#[]⟩)), none⟩]
 (
 xd 13
 (xR [xm 14 3, xm 15 4, ⟨(some 16), .bin .add (.c (.str ⟨#[46]⟩)) (.t 15), none⟩, xb 17 .add 14 16, xm 3 17])
 .skip))
 (.seq (xr [xf 18 0 1, xl 19 18]
 (
 xd 19
 (xR [xm 20 3, ⟨(some 21), .bin .add (.c (.str ⟨#[45]⟩)) (.t 20), none⟩, xm 3 21])
 .skip))
 (xr [xm 22 3, xm 2 22]
 .ret))))))
theorem ok169 : Tryz.f169.body.bind (comp Tryz.prog) = some c169 := by kernel_rfl
def c214 : IR :=
 (xr [⟨(some 1), .box 48 3 (.t 0), none⟩, ⟨(some 2), .mv (.c (.str ⟨#[]⟩)), none⟩, ⟨(some 3), .mv (.c (.str ⟨#[]⟩)), none⟩]
 (xr [xf 6 1 1, xg 7 1 6, xc1 8 92 7, xm 4 8]
 (.seq (xr [xf 9 2 1, xl 10 9, xbk 11 .add 10 1, xm 12 4, xS 13 12, xb 14 .sub 11 13, xm 5 14]
 (xr [xm 15 5, xbk 16 .gtr 15 0]
 (
 xd 16
 (xR [xm 17 5, ⟨(some 18), .call 152 [(.c (.str ⟨#[48]⟩)), (.t 17)], none⟩, xm 19 4, xb 20 .add 18 19, xm 4 20])
 .skip)))
 (.seq (.reg true [xm 21 4, xm 22 4, xS 23 22, xf 24 2 1, xl 25 24, xb 26 .sub 23 25, ⟨(some 27), .slcS (.t 21) none (some (.t 26)), none⟩, xm 28 4, xm 29 4, xS 30 29, xf 31 2 1, xl 32 31, xb 33 .sub 30 32, ⟨(some 34), .slcS (.t 28) (some (.t 33)) none, none⟩, xm 2 27, xm 3 34] [0, 0, 2, 0, 8, 30, 63, 0, 0, 256, 0, 1024, 3840, 8064, 127, 32767])
 .ret))))
theorem ok214 : Tryz.f214.body.bind (comp Tryz.prog) = some c214 := by kernel_rfl
end Go.Proofs.YtmhhgkchednpjaaGreatDoorK.NatIr
