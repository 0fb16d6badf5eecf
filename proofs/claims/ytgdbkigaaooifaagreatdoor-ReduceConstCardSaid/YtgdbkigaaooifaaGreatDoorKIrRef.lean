/-
 The compiled bodies, printed: IrRef.
-/
import Derived.Test.YtgdbkigaaooifaaGreatDoorKSh
import Derived.Test.YtgdbkigaaooifaaGreatDoorProg
set_option linter.all false
set_option maxHeartbeats 4000000
namespace Go.Proofs.YtgdbkigaaooifaaGreatDoorK.NatIr
open AI Go.Proofs
def c143 : IR :=
 (xr [⟨(some 2), .mv (.c (.str ⟨#[]⟩)), none⟩]
 (.seq (xr [xm 5 0, xL 6 5, xbk 7 .eql 6 0]
 (
 xd 7
 (xr [⟨(some 2), .mv (.c (.str ⟨#[48]⟩)), none⟩]
 .ret)
 .skip))
 (xr [xm 8 0, xm 9 0, xL 10 9, xbk 11 .sub 10 1, xi 12 1 8 11, xl 13 12, ⟨(some 14), .call 183 [(.t 13), (.c (.int .i64 1))], none⟩, xm 3 14]
 (.seq (xr [xm 15 0, xL 16 15, xbk 17 .sub 16 2, xm 4 17]
 (.block 0 (.loop (.seq (xr [xm 18 4, xbk 19 .geq 18 0]
  (
  xd 19
  .skip
  (.exit 0)))
  (.seq (.block 1 (xR [xm 22 3, xm 23 0, xm 24 4, xi 25 1 23 24, xl 26 25, ⟨(some 27), .call 183 [(.t 26), (.c (.int .i64 4))], none⟩, xb 28 .add 22 27, xm 3 28]))
  (xR [xm 20 4, xbk 21 .sub 20 1, xm 4 21]))))))
 (xr [xm 29 3, xm 2 29]
 .ret)))))
theorem ok143 : Tryz.f143.body.bind (comp Tryz.prog) = some c143 := by kernel_rfl
def c167 : IR :=
 (xr [⟨(some 2), .mv (.c .nils), none⟩]
 (xr [⟨(some 3), .mv (.c .nils), none⟩]
 (.seq (.block 0 (.loop (.seq (xr [xm 4 0, ⟨(some 5), .bin .gtr (.t 4) (.c (.int .u64 0)), none⟩]
  (
  xd 5
  .skip
  (.exit 0)))
  (
  .block 1 (xr [xm 6 3, xm 7 0, ⟨(some 8), .bin .rem (.t 7) (.c (.int .u64 10000)), none⟩, ⟨(some 9), .conv .i64 (.t 8), none⟩, ⟨(some 10), .lit 3 1 1 [(.int .i64 0)] [(0, 1, (.t 9))], none⟩, ⟨(some 11), .app 3 1 8 (.t 6) (.t 10), none⟩, xm 3 11]
  (xR [xm 12 0, ⟨(some 13), .bin .quo (.t 12) (.c (.int .u64 10000)), none⟩, xm 0 13]))))))
 (xr [xm 14 3, xm 2 14]
 .ret))))
theorem ok167 : Tryz.f167.body.bind (comp Tryz.prog) = some c167 := by kernel_rfl
def c173 : IR :=
 (xr [⟨(some 2), .mv (.c .nils), none⟩, xkb 3 false]
 (xr [⟨(some 4), .mv (.c .nils), none⟩]
 (.seq (xr [xk 5 0]
 (.block 0 (.loop (.seq (xr [xm 10 5, xm 11 0, xS 12 11, xb 13 .lss 10 12]
  (
  xd 13
  .skip
  (.exit 0)))
  (
  .seq (.block 1 (xr [xm 16 0, xm 17 5, ⟨(some 18), .idxs (.t 16) (.t 17), none⟩, ⟨(some 19), .bin .lss (.t 18) (.c (.int .u8 48)), none⟩, xm 20 19, xmg 21 0 20 false, xmg 22 5 20 false, ⟨(some 23), .idxs (.t 21) (.t 22), (some ((some 20), false))⟩, ⟨(some 24), .bin .gtr (.t 23) (.c (.int .u8 57)), (some ((some 20), false))⟩, xpb 25 20 true 24]
  (
   xd 25
   (xr [⟨(some 2), .mv (.c .nils), none⟩, xkb 3 false]
   .ret)
   .skip)))
  (xR [xm 14 5, xbk 15 .add 14 1, xm 5 15]))))))
 (.seq (xr [xm 26 0, xS 27 26, xm 6 27]
 (.block 2 (.loop (.seq (xr [xm 28 6, xbk 29 .gtr 28 0]
  (
  xd 29
  .skip
  (.exit 2)))
  (
  .seq (.block 3 (xr [xk 7 0]
  (xr [xm 32 6, xbk 33 .sub 32 4, xm 8 33]
  (.seq (xr [xm 34 8, xbk 35 .lss 34 0]
  (
   xd 35
   (xR [xk 8 0])
   .skip))
  (.seq (xr [xm 36 8, xm 9 36]
  (.block 4 (.loop (.seq (xr [xm 37 9, xm 38 6, xb 39 .lss 37 38]
   (
    xd 39
    .skip
    (.exit 4)))
   (.seq (.block 5 (xR [xm 42 7, ⟨(some 43), .bin .mul (.c (.int .i64 10)) (.t 42), none⟩, xm 44 0, xm 45 9, ⟨(some 46), .idxs (.t 44) (.t 45), none⟩, ⟨(some 47), .bin .sub (.t 46) (.c (.int .u8 48)), none⟩, ⟨(some 48), .conv .i64 (.t 47), none⟩, xb 49 .add 43 48, xm 7 49]))
   (xR [xm 40 9, xbk 41 .add 40 1, xm 9 41]))))))
  (xR [xm 50 4, xm 51 7, ⟨(some 52), .lit 3 1 1 [(.int .i64 0)] [(0, 1, (.t 51))], none⟩, ⟨(some 53), .app 3 1 8 (.t 50) (.t 52), none⟩, xm 4 53]))))))
  (xR [xm 30 6, xbk 31 .sub 30 4, xm 6 31]))))))
 (xr [xm 54 4, xc1 55 210 54, xm 56 0, ⟨(some 57), .bin .neq (.t 56) (.c (.str ⟨#[]⟩)), none⟩, xm 2 55, xm 3 57]
 .ret)))))
theorem ok173 : Tryz.f173.body.bind (comp Tryz.prog) = some c173 := by kernel_rfl
def c182 : IR :=
 (xr [⟨(some 4), .mv (.c .nils), none⟩]
 (xr [xm 10 0, xL 11 10, xm 12 1, xL 13 12, xb 14 .add 11 13, xbk 15 .add 14 1, ⟨(some 16), .make 3 1 8 [(.int .i64 0)] (.t 15), none⟩, xm 5 16]
 (.seq (xr [xk 6 0]
 (.block 0 (.loop (.seq (xr [xm 17 6, xm 18 0, xL 19 18, xb 20 .lss 17 19]
  (
  xd 20
  .skip
  (.exit 0)))
  (
  .seq (.block 1 (xr [xk 7 0]
  (xr [xk 8 0]
  (.block 2 (.loop (.seq (xr [xm 23 8, xm 24 1, xL 25 24, xb 26 .lss 23 25, xm 27 26, xmg 28 7 27 false, xbg 29 .gtr 28 0 27 false, xpb 30 27 true 29]
   (
    xd 30
    .skip
    (.exit 2)))
   (
    .seq (.block 3 (.seq (.reg true [xm 33 5, xm 34 6, xm 35 8, xb 36 .add 34 35, xi 37 1 33 36, xl 38 37, xm 39 0, xm 40 6, xi 41 1 39 40, xl 42 41, xm 43 1, xm 44 8, xc2 45 217 43 44, xb 46 .mul 42 45, xb 47 .add 38 46, xm 48 7, xb 49 .add 47 48, xm 9 49] [0, 0, 0, 6, 15, 31, 0, 0, 192, 448, 0, 0, 3072, 8128, 16383, 0, 65535, 131071])
    (xr [xm 50 5, xm 51 6, xm 52 8, xb 53 .add 51 52, xm 54 9, xbk 55 .rem 54 10000, xi 56 1 50 53, xs 1 56 55]
    (xR [xm 57 9, xbk 58 .quo 57 10000, xm 7 58]))))
   (xR [xm 31 8, xbk 32 .add 31 1, xm 8 32]))))))))
  (xR [xm 21 6, xbk 22 .add 21 1, xm 6 22]))))))
 (xr [xm 59 5, xc1 60 210 59, xm 4 60]
 .ret))))
theorem ok182 : Tryz.f182.body.bind (comp Tryz.prog) = some c182 := by kernel_rfl
def c183 : IR :=
 (xr [⟨(some 4), .mv (.c (.str ⟨#[]⟩)), none⟩]
 (xr [⟨(some 5), .mv (.c (.str ⟨#[]⟩)), none⟩]
 (.seq (.block 0 (.loop (.seq (xr [xm 6 0, xbk 7 .gtr 6 0, xm 8 7, xmg 9 5 8 false, ⟨(some 10), .lenS (.t 9), (some ((some 8), false))⟩, xmg 11 1 8 false, ⟨(some 12), .bin .lss (.t 10) (.t 11), (some ((some 8), false))⟩, xpb 13 8 true 12]
  (
  xd 13
  .skip
  (.exit 0)))
  (
  .block 1 (xr [xm 14 0, xbk 15 .rem 14 10, ⟨(some 16), .bin .add (.c (.int .i64 48)) (.t 15), none⟩, ⟨(some 17), .conv .u8 (.t 16), none⟩, ⟨(some 18), .lit 5 1 1 [(.int .u8 0)] [(0, 1, (.t 17))], none⟩, ⟨(some 19), .bstr (.t 18), none⟩, xm 20 5, xb 21 .add 19 20, xm 5 21]
  (xR [xm 22 0, xbk 23 .quo 22 10, xm 0 23]))))))
 (xr [xm 24 5, xm 4 24]
 .ret))))
theorem ok183 : Tryz.f183.body.bind (comp Tryz.prog) = some c183 := by kernel_rfl
def c208 : IR :=
 (xr [⟨(some 4), .mv (.c .nils), none⟩]
 (xr [⟨(some 5), .mv (.c .nils), none⟩]
 (xr [xk 6 0]
 (.seq (xr [xk 7 0]
 (.block 0 (.loop (.seq (xr [xm 9 7, xm 10 0, xL 11 10, xb 12 .lss 9 11, xm 13 12, xmg 14 7 13 false, xmg 15 1 13 false, ⟨(some 16), .lenL (.t 15), (some ((some 13), false))⟩, ⟨(some 17), .bin .lss (.t 14) (.t 16), (some ((some 13), false))⟩, xpb 18 13 true 17, xm 19 18, xmg 20 6 19 false, xbg 21 .gtr 20 0 19 false, xpb 22 19 true 21]
  (
  xd 22
  .skip
  (.exit 0)))
  (
  .seq (.block 1 (xr [xm 25 0, xm 26 7, xc2 27 217 25 26, xm 28 1, xm 29 7, xc2 30 217 28 29, xb 31 .add 27 30, xm 32 6, xb 33 .add 31 32, xm 8 33]
  (xr [xm 34 5, xm 35 8, xbk 36 .rem 35 10000, ⟨(some 37), .lit 3 1 1 [(.int .i64 0)] [(0, 1, (.t 36))], none⟩, ⟨(some 38), .app 3 1 8 (.t 34) (.t 37), none⟩, xm 5 38]
  (xR [xm 39 8, xbk 40 .quo 39 10000, xm 6 40]))))
  (xR [xm 23 7, xbk 24 .add 23 1, xm 7 24]))))))
 (xr [xm 41 5, xc1 42 210 41, xm 4 42]
 .ret)))))
theorem ok208 : Tryz.f208.body.bind (comp Tryz.prog) = some c208 := by kernel_rfl
def c210 : IR :=
 (xr [⟨(some 2), .mv (.c .nils), none⟩]
 (.seq (.block 0 (.loop (.seq (xr [xm 3 0, xL 4 3, xbk 5 .gtr 4 0, xm 6 5, xmg 7 0 6 true, xmg 8 0 6 true, ⟨(some 9), .lenL (.t 8), (some ((some 6), true))⟩, xbg 10 .sub 9 1 6 true, ⟨(some 11), .iaddrS 1 (.t 7) (.t 10), (some ((some 6), true))⟩, xlg 12 11 6 true, xbg 13 .eql 12 0 6 true, xp 14 6 13 false]
  (
  xd 14
  .skip
  (.exit 0)))
  (.block 1 (xR [xm 15 0, xm 16 0, xL 17 16, xbk 18 .sub 17 1, ⟨(some 19), .slcL 1 (.t 15) none (some (.t 18)), none⟩, xm 0 19])))))
 (xr [xm 20 0, xm 2 20]
 .ret)))
theorem ok210 : Tryz.f210.body.bind (comp Tryz.prog) = some c210 := by kernel_rfl
def c211 : IR :=
 (xr [⟨(some 4), .mv (.c .nils), none⟩]
 (.seq (.block 0 (.loop (.seq (xr [xm 7 1, xL 8 7, xbk 9 .gtr 8 0]
  (
  xd 9
  .skip
  (.exit 0)))
  (
  .block 1 (xr [xm 11 0, xm 12 1, xc2 13 212 11 12, xm 10 13, xe 14 10 0, xe 15 10 1, xm 5 14, xm 6 15]
  (xR [xm 16 1, xm 17 6, xm 0 16, xm 1 17]))))))
 (xr [xm 18 0, xm 4 18]
 .ret)))
theorem ok211 : Tryz.f211.body.bind (comp Tryz.prog) = some c211 := by kernel_rfl
def c212 : IR :=
 (xr [⟨(some 4), .mv (.c .nils), none⟩, ⟨(some 5), .mv (.c .nils), none⟩]
 (xr [xm 13 0, xL 14 13, ⟨(some 15), .make 3 1 8 [(.int .i64 0)] (.t 14), none⟩, xm 6 15]
 (xr [xm 16 0, xL 17 16, xm 18 1, xL 19 18, xb 20 .sub 17 19, xbk 21 .add 20 1, xm 7 21]
 (.seq (xr [xm 22 7, xbk 23 .lss 22 0, xm 24 23, xmg 25 7 24 false, xmg 26 0 24 false, ⟨(some 27), .lenL (.t 26), (some ((some 24), false))⟩, ⟨(some 28), .bin .gtr (.t 25) (.t 27), (some ((some 24), false))⟩, xpb 29 24 true 28]
 (
 xd 29
 (xr [xm 30 0, ⟨(some 4), .mv (.c .nils), none⟩, xm 5 30]
 .ret)
 .skip))
 (xr [⟨(some 31), .lit 3 1 0 [] [], none⟩, xm 32 0, xm 33 7, ⟨(some 34), .slcL 1 (.t 32) (some (.t 33)) none, none⟩, ⟨(some 35), .app 3 1 8 (.t 31) (.t 34), none⟩, xm 8 35]
 (xr [xm 36 8, xc1 37 210 36, xm 8 37]
 (.seq (xr [xm 38 7, xbk 39 .sub 38 1, xm 9 39]
 (.block 0 (.loop (.seq (xr [xm 40 9, xbk 41 .geq 40 0]
  (
  xd 41
  .skip
  (.exit 0)))
  (
  .seq (.block 1 (xr [xm 44 0, xm 45 9, xi 46 1 44 45, xl 47 46, ⟨(some 48), .lit 3 1 1 [(.int .i64 0)] [(0, 1, (.t 47))], none⟩, xm 49 8, ⟨(some 50), .app 3 1 8 (.t 48) (.t 49), none⟩, xc1 51 210 50, xm 8 51]
  (xr [xk 10 0, xk 11 9999]
  (.seq (.block 2 (.loop (.seq (xr [xm 52 10, xm 53 11, xb 54 .lss 52 53]
   (
    xd 54
    .skip
    (.exit 2)))
   (
    .block 3 (xr [xm 55 10, xm 56 11, xb 57 .add 55 56, xbk 58 .add 57 1, xbk 59 .quo 58 2, xm 12 59]
    (xr [xm 60 1, xm 61 12, ⟨(some 62), .conv .u64 (.t 61), none⟩, xc1 63 167 62, xc2 64 182 60 63, xm 65 8, xc2 66 235 64 65, xbk 67 .leq 66 0]
    (
    xd 67
    (xR [xm 68 12, xm 10 68])
    (xR [xm 69 12, xbk 70 .sub 69 1, xm 11 70]))))))))
  (xr [xm 71 6, xm 72 9, xm 73 10, xi 74 1 71 72, xs 1 74 73]
  (xR [xm 75 8, xm 76 1, xm 77 10, ⟨(some 78), .conv .u64 (.t 77), none⟩, xc1 79 167 78, xc2 80 182 76 79, xc2 81 236 75 80, xm 8 81]))))))
  (xR [xm 42 9, xbk 43 .sub 42 1, xm 9 43]))))))
 (xr [xm 82 6, xc1 83 210 82, xm 84 8, xm 4 83, xm 5 84]
 .ret))))))))
theorem ok212 : Tryz.f212.body.bind (comp Tryz.prog) = some c212 := by kernel_rfl
def c217 : IR :=
 (xr [xk 4 0]
 (.seq (xr [xm 5 1, xm 6 0, xL 7 6, xb 8 .lss 5 7]
 (
 xd 8
 (xr [xm 9 0, xm 10 1, xi 11 1 9 10, xl 12 11, xm 4 12]
 .ret)
 .skip))
 (xr [xk 4 0]
 .ret)))
theorem ok217 : Tryz.f217.body.bind (comp Tryz.prog) = some c217 := by kernel_rfl
def c235 : IR :=
 (xr [xk 4 0]
 (.seq (xr [xm 6 0, xL 7 6, xm 8 1, xL 9 8, xb 10 .neq 7 9]
 (
 xd 10
 (.seq (xr [xm 11 0, xL 12 11, xm 13 1, xL 14 13, xb 15 .lss 12 14]
 (
  xd 15
  (xr [xk 4 (-1)]
  .ret)
  .skip))
 (xr [xk 4 1]
 .ret))
 .skip))
 (.seq (xr [xm 16 0, xL 17 16, xbk 18 .sub 17 1, xm 5 18]
 (.block 0 (.loop (.seq (xr [xm 19 5, xbk 20 .geq 19 0]
  (
  xd 20
  .skip
  (.exit 0)))
  (
  .seq (.block 1 (.seq (.seq (.reg true [xm 23 0, xm 24 5, xi 25 1 23 24, xl 26 25, xm 27 1, xm 28 5, xi 29 1 27 28, xl 30 29, xb 31 .lss 26 30] [0, 0, 3, 7, 0, 0, 48, 112, 255])
  (
   xd 31
   (xr [xk 4 (-1)]
   .ret)
   .skip))
  (.seq (.reg true [xm 32 0, xm 33 5, xi 34 1 32 33, xl 35 34, xm 36 1, xm 37 5, xi 38 1 36 37, xl 39 38, xb 40 .gtr 35 39] [0, 0, 3, 7, 0, 0, 48, 112, 255])
  (
   xd 40
   (xr [xk 4 1]
   .ret)
   .skip))))
  (xR [xm 21 5, xbk 22 .sub 21 1, xm 5 22]))))))
 (xr [xk 4 0]
 .ret))))
theorem ok235 : Tryz.f235.body.bind (comp Tryz.prog) = some c235 := by kernel_rfl
def c236 : IR :=
 (xr [⟨(some 4), .mv (.c .nils), none⟩]
 (xr [⟨(some 5), .mv (.c .nils), none⟩]
 (xr [xk 6 0]
 (.seq (xr [xk 7 0]
 (.block 0 (.loop (.seq (xr [xm 9 7, xm 10 0, xL 11 10, xb 12 .lss 9 11]
  (
  xd 12
  .skip
  (.exit 0)))
  (
  .seq (.block 1 (xr [xm 15 0, xm 16 7, xc2 17 217 15 16, xm 18 1, xm 19 7, xc2 20 217 18 19, xb 21 .sub 17 20, xm 22 6, xb 23 .sub 21 22, xm 8 23]
  (xr [xk 6 0]
  (.seq (xr [xm 24 8, xbk 25 .lss 24 0]
  (
   xd 25
   (xR [xm 26 8, xbk 27 .add 26 10000, xm 8 27, xk 6 1])
   .skip))
  (xR [xm 28 5, xm 29 8, ⟨(some 30), .lit 3 1 1 [(.int .i64 0)] [(0, 1, (.t 29))], none⟩, ⟨(some 31), .app 3 1 8 (.t 28) (.t 30), none⟩, xm 5 31])))))
  (xR [xm 13 7, xbk 14 .add 13 1, xm 7 14]))))))
 (xr [xm 32 5, xc1 33 210 32, xm 4 33]
 .ret)))))
theorem ok236 : Tryz.f236.body.bind (comp Tryz.prog) = some c236 := by kernel_rfl
end Go.Proofs.YtgdbkigaaooifaaGreatDoorK.NatIr
