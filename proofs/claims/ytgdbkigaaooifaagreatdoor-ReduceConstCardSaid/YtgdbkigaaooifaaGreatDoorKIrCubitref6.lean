/-
 The compiled bodies, printed: IrCubitref6.
-/
import Derived.Test.YtgdbkigaaooifaaGreatDoorKSh
import Derived.Test.YtgdbkigaaooifaaGreatDoorProg
set_option linter.all false
set_option maxHeartbeats 4000000
namespace Go.Proofs.YtgdbkigaaooifaaGreatDoorK.NatIr
open AI Go.Proofs
def c23 : IR :=
 (xr [⟨(some 2), .mv (.c .nils), none⟩, xk 3 0, xk 4 0]
 (.seq (xr [xm 11 0, xS 12 11, xbk 13 .gtr 12 65536]
 (
 xd 13
 (xr [⟨(some 2), .mv (.c .nils), none⟩, xk 3 0, xk 4 11]
 .ret)
 .skip))
 (xr [⟨(some 5), .mv (.c .nils), none⟩]
 (xr [xk 6 0, xk 7 0]
 (.seq (xr [xk 8 0]
 (.block 0 (.loop (.seq (xr [xm 14 8, xm 15 0, xS 16 15, xb 17 .leq 14 16]
  (
  xd 17
  .skip
  (.exit 0)))
  (
  .seq (.block 1 (.seq (xr [xm 20 8, xm 21 0, xS 22 21, xb 23 .lss 20 22, xm 24 23, xmg 25 0 24 true, xmg 26 8 24 true, ⟨(some 27), .idxs (.t 25) (.t 26), (some ((some 24), true))⟩, ⟨(some 28), .bin .neq (.t 27) (.c (.int .u8 10)), (some ((some 24), true))⟩, xp 29 24 28 false, xm 30 29, xmg 31 8 30 false, xmg 32 0 30 false, ⟨(some 33), .lenS (.t 32), (some ((some 30), false))⟩, ⟨(some 34), .bin .eql (.t 31) (.t 33), (some ((some 30), false))⟩, xmg 35 34 30 false, xmg 36 7 35 true, xmg 37 8 35 true, ⟨(some 38), .bin .eql (.t 36) (.t 37), (some ((some 35), true))⟩, ⟨(some 39), .pick (.t 35) (.t 38) (.c (.bool false)), (some ((some 30), false))⟩, xpb 40 30 true 39]
  (
   xd 40
   (.exit 1)
   .skip))
  (xr [xm 41 6, xbk 42 .add 41 1, xm 6 42]
  (xr [xm 44 0, xm 45 7, xm 46 8, ⟨(some 47), .slcS (.t 44) (some (.t 45)) (some (.t 46)), none⟩, xc1 48 51 47, xm 43 48, xe 49 43 0, xe 50 43 1, xm 9 49, xm 10 50]
  (.seq (xr [xm 51 10, xn 52 51, xm 53 52, xmg 54 9 53 false, ⟨(some 55), .lenL (.t 54), (some ((some 53), false))⟩, xbg 56 .gtr 55 24 53 false, xpb 57 53 true 56]
  (
   xd 57
   (xr [xm 58 6, ⟨(some 2), .mv (.c .nils), none⟩, xm 3 58, xk 4 2]
   .ret)
   .skip))
  (.seq (xr [xm 59 9, xL 60 59, xbk 61 .gtr 60 0]
  (
   xd 61
   (.seq (xr [xm 62 5, xL 63 62, xbk 64 .eql 63 2000]
   (
   xd 64
   (xr [xm 65 6, ⟨(some 2), .mv (.c .nils), none⟩, xm 3 65, xk 4 11]
   .ret)
   .skip))
   (xR [xm 66 5, xm 67 6, xm 68 9, ⟨(some 69), .build [(.int .i64 0), .nils] [(0, 1, (.t 67)), (1, 1, (.t 68))], none⟩, ⟨(some 70), .lit 123 2 1 [(.int .i64 0), .nils] [(0, 2, (.t 69))], none⟩, ⟨(some 71), .app 123 2 32 (.t 66) (.t 70), none⟩, xm 5 71]))
   .skip))
  (xR [xm 72 8, xbk 73 .add 72 1, xm 7 73])))))))
  (xR [xm 18 8, xbk 19 .add 18 1, xm 8 19]))))))
 (xr [xm 74 5, xm 2 74, xk 3 0, xk 4 0]
 .ret))))))
theorem ok23 : Tryz.f23.body.bind (comp Tryz.prog) = some c23 := by kernel_rfl
def c25 : IR :=
 (xr [⟨(some 2), .mv (.c .null), none⟩, xk 3 0, xk 4 0]
 (xr [⟨(some 8), .build [.nils, .nils, .nils, .nils, .nils, .nils, .nils, .nils, (.int .i64 0)] [], none⟩, ⟨(some 9), .box 131 9 (.t 8), none⟩, xm 5 9]
 (.seq (xr [xk 6 0]
 (.block 0 (.loop (.seq (xr [xm 10 6, xm 11 0, xL 12 11, xb 13 .lss 10 12]
  (
  xd 13
  .skip
  (.exit 0)))
  (
  .seq (.block 1 (.seq (xr [xm 16 0, xm 17 6, xi 18 2 16 17, xf 19 1 18, xl 20 19, xL 21 20, xbk 22 .eql 21 0]
  (
   xd 22
   (.exit 1)
   .skip))
  (xr [xm 23 5, xm 24 0, xm 25 6, xi 26 2 24 25, xf 27 1 26, xl 28 27, xc2 29 58 23 28, xm 7 29]
  (xr [xm 30 7, xbk 31 .neq 30 0]
  (
   xd 31
   (.seq (.reg true [xm 32 0, xm 33 6, xi 34 2 32 33, xf 35 0 34, xl 36 35, xm 37 7, ⟨(some 2), .mv (.c .null), none⟩, xm 3 36, xm 4 37] [0, 0, 3, 7, 15, 0, 0, 95, 255])
   .ret)
   .skip)))))
  (xR [xm 14 6, xbk 15 .add 14 1, xm 6 15]))))))
 (xr [xm 38 5, xm 2 38, xk 3 0, xk 4 0]
 .ret))))
theorem ok25 : Tryz.f25.body.bind (comp Tryz.prog) = some c25 := by kernel_rfl
def c51 : IR :=
 (xr [⟨(some 2), .mv (.c .nils), none⟩, xkb 3 false]
 (xr [⟨(some 4), .mv (.c .nils), none⟩]
 (xr [⟨(some 5), .mv (.c (.str ⟨#[]⟩)), none⟩]
 (.seq (xr [xk 6 0]
 (.block 0 (.loop (.seq (xr [xm 8 6, xm 9 0, xS 10 9, xb 11 .lss 8 10]
  (
  xd 11
  .skip
  (.exit 0)))
  (
  .seq (.block 1 (xr [xm 14 0, xm 15 6, ⟨(some 16), .idxs (.t 14) (.t 15), none⟩, ⟨(some 17), .bin .lss (.t 16) (.c (.int .u8 32)), none⟩, xm 18 17, xmg 19 0 18 false, xmg 20 6 18 false, ⟨(some 21), .idxs (.t 19) (.t 20), (some ((some 18), false))⟩, ⟨(some 22), .bin .gtr (.t 21) (.c (.int .u8 126)), (some ((some 18), false))⟩, xpb 23 18 true 22]
  (
   xd 23
   (xr [⟨(some 2), .mv (.c .nils), none⟩, xkb 3 false]
   .ret)
   .skip)))
  (xR [xm 12 6, xbk 13 .add 12 1, xm 6 13]))))))
 (.seq (xr [xk 7 0]
 (.block 2 (.loop (.seq (xr [xm 24 7, xm 25 0, xS 26 25, xb 27 .leq 24 26]
  (
  xd 27
  .skip
  (.exit 2)))
  (
  .seq (.block 3 (.seq (xr [xm 30 7, xm 31 0, xS 32 31, xb 33 .lss 30 32, xm 34 33, xmg 35 0 34 true, xmg 36 7 34 true, ⟨(some 37), .idxs (.t 35) (.t 36), (some ((some 34), true))⟩, ⟨(some 38), .bin .neq (.t 37) (.c (.int .u8 32)), (some ((some 34), true))⟩, xp 39 34 38 false]
  (
   xd 39
   (.seq (xr [xm 40 0, xm 41 7, ⟨(some 42), .idxs (.t 40) (.t 41), none⟩, ⟨(some 43), .bin .eql (.t 42) (.c (.int .u8 35)), none⟩, xm 44 43, xmg 45 5 44 true, ⟨(some 46), .bin .eql (.t 45) (.c (.str ⟨#[]⟩)), (some ((some 44), true))⟩, xp 47 44 46 false]
   (
   xd 47
   (xr [xm 48 4, xm 2 48, xkb 3 true]
   .ret)
   .skip))
   (xr [xm 49 5, xm 50 0, xm 51 7, xm 52 7, xbk 53 .add 52 1, ⟨(some 54), .slcS (.t 50) (some (.t 51)) (some (.t 53)), none⟩, xb 55 .add 49 54, xm 5 55]
   (.exit 3)))
   .skip))
  (.seq (xr [xm 56 5, ⟨(some 57), .bin .neq (.t 56) (.c (.str ⟨#[]⟩)), none⟩]
  (
   xd 57
   (xR [xm 58 4, xm 59 5, ⟨(some 60), .lit 9 1 1 [(.str ⟨#[]⟩)] [(0, 1, (.t 59))], none⟩, ⟨(some 61), .app 9 1 16 (.t 58) (.t 60), none⟩, xm 4 61])
   .skip))
  (xR [⟨(some 5), .mv (.c (.str ⟨#[]⟩)), none⟩]))))
  (xR [xm 28 7, xbk 29 .add 28 1, xm 7 29]))))))
 (xr [xm 62 4, xm 2 62, xkb 3 true]
 .ret))))))
theorem ok51 : Tryz.f51.body.bind (comp Tryz.prog) = some c51 := by kernel_rfl
def c58 : IR :=
 (xr [xk 4 0]
 (.seq (xr [xm 5 1, ⟨(some 6), .iaddrS 1 (.t 5) (.c (.int .i64 0)), none⟩, xl 7 6]
 (
 .block 0 (xr [⟨(some 9), .bin .eql (.t 7) (.c (.str ⟨#[98, 97, 115, 101]⟩)), none⟩, xm 8 9]
 (
  xd 8
  (xr [xm 10 0, xm 11 1, xc2 12 93 10 11, xm 4 12]
  .ret)
  (xr [⟨(some 14), .bin .eql (.t 7) (.c (.str ⟨#[112, 114, 101, 102, 105, 120]⟩)), none⟩, xm 13 14]
  (
  xd 13
  (xr [xm 15 0, xm 16 1, xc2 17 94 15 16, xm 4 17]
  .ret)
  (xr [⟨(some 19), .bin .eql (.t 7) (.c (.str ⟨#[117, 110, 105, 116]⟩)), none⟩, xm 18 19]
  (
   xd 18
   (xr [xm 20 0, xm 21 1, xc2 22 95 20 21, xm 4 22]
   .ret)
   (xr [⟨(some 24), .bin .eql (.t 7) (.c (.str ⟨#[113, 117, 97, 110, 116, 105, 116, 121]⟩)), none⟩, xm 23 24]
   (
   xd 23
   (xr [xm 25 0, xm 26 1, xc2 27 96 25 26, xm 4 27]
   .ret)
   (xr [⟨(some 29), .bin .eql (.t 7) (.c (.str ⟨#[97, 108, 105, 97, 115]⟩)), none⟩, xm 28 29]
   (
    xd 28
    (xr [xm 30 0, xm 31 1, xc2 32 97 30 31, xm 4 32]
    .ret)
    .skip))))))))))))
 (xr [xk 4 0]
 .ret)))
theorem ok58 : Tryz.f58.body.bind (comp Tryz.prog) = some c58 := by kernel_rfl
def c93 : IR :=
 (xr [xk 4 0]
 (.seq (xr [xm 9 1, xL 10 9, xbk 11 .neq 10 3]
 (
 xd 11
 (xr [xk 4 2]
 .ret)
 .skip))
 (xr [xm 12 0, xm 13 1, ⟨(some 14), .iaddrS 1 (.t 13) (.c (.int .i64 1)), none⟩, xl 15 14, xc2 16 127 12 15, xm 5 16]
 (.seq (xr [xm 17 5, xbk 18 .neq 17 0]
 (
 xd 18
 (xr [xm 19 5, xm 4 19]
 .ret)
 .skip))
 (.seq (xr [xm 20 1, ⟨(some 21), .iaddrS 1 (.t 20) (.c (.int .i64 2)), none⟩, xl 22 21, xc1 23 128 22, xn 24 23]
 (
 xd 24
 (xr [xk 4 2]
 .ret)
 .skip))
 (.seq (xr [xm 25 0, ⟨(some 26), .nilck (.t 25), none⟩, xf 27 8 26, xl 28 27, xbk 29 .eql 28 8]
 (
 xd 29
 (xr [xk 4 11]
 .ret)
 .skip))
 (xr [⟨(some 6), .new 209 8 [(.int .i64 0), (.int .i64 0), (.int .i64 0), (.int .i64 0), (.int .i64 0), (.int .i64 0), (.int .i64 0), (.int .i64 0)], none⟩]
 (xr [xm 30 0, ⟨(some 31), .nilck (.t 30), none⟩, xf 32 8 31, xl 33 32, ⟨(some 34), .iaddrA 8 1 (.t 6) (.t 33), none⟩, ⟨none, .store 1 (.t 34) (.c (.int .i64 1)), none⟩]
 (xr [xm 36 0, xg 37 8 6, xc2 38 129 36 37, xm 35 38, xe 39 35 0, xe 40 35 1, xm 7 39, xm 8 40]
 (.seq (xr [xm 41 8]
 (
 xd 41
 (xr [xk 4 10]
 .ret)
 .skip))
 (.seq (.reg true [xm 42 0, xm 43 0, ⟨(some 44), .nilck (.t 43), none⟩, xf 45 2 44, xl 46 45, xm 47 1, ⟨(some 48), .iaddrS 1 (.t 47) (.c (.int .i64 1)), none⟩, xl 49 48, xm 50 1, ⟨(some 51), .iaddrS 1 (.t 50) (.c (.int .i64 1)), none⟩, xl 52 51, xm 53 0, ⟨(some 54), .nilck (.t 53), none⟩, xf 55 8 54, xl 56 55, ⟨(some 57), .call 130 [(.c (.int .i64 1))], none⟩, ⟨(some 58), .call 130 [(.c (.int .i64 0))], none⟩, xg 59 8 6, ⟨(some 60), .call 130 [(.c (.int .i64 1))], none⟩, ⟨(some 61), .build [(.str ⟨#[]⟩), (.str ⟨#[]⟩), (.int .i64 0), (.bool false), .nils, .nils, (.bool false), .nils, .nils, (.bool false), (.int .i64 0), (.int .i64 0), (.int .i64 0), (.int .i64 0), (.int .i64 0), (.int .i64 0), (.int .i64 0), (.int .i64 0), (.bool false), .nils, .nils] [(0, 1, (.t 49)), (1, 1, (.t 52)), (2, 1, (.t 56)), (3, 3, (.t 57)), (6, 3, (.t 58)), (10, 8, (.t 59)), (18, 3, (.t 60))], none⟩, ⟨(some 62), .lit 218 21 1 [(.str ⟨#[]⟩), (.str ⟨#[]⟩), (.int .i64 0), (.bool false), .nils, .nils, (.bool false), .nils, .nils, (.bool false), (.int .i64 0), (.int .i64 0), (.int .i64 0), (.int .i64 0), (.int .i64 0), (.int .i64 0), (.int .i64 0), (.int .i64 0), (.bool false), .nils, .nils] [(0, 21, (.t 61))], none⟩, ⟨(some 63), .app 218 21 280 (.t 46) (.t 62), none⟩, ⟨(some 64), .nilck (.t 42), none⟩, xf 65 2 64, xs 1 65 63] [0, 0, 2, 6, 14, 0, 32, 96, 0, 256, 768, 0, 2048, 6144, 14336, 0, 32768, 0, 98304, 524256, 1048544, 2097150, 4194303, 8388607, 16777215])
 (.seq (.reg true [xm 66 0, ⟨(some 67), .lit 9 1 0 [] [], none⟩, xm 68 0, ⟨(some 69), .nilck (.t 68), none⟩, xf 70 0 69, xf 71 0 70, xl 72 71, ⟨(some 73), .app 9 1 16 (.t 67) (.t 72), none⟩, xm 74 1, ⟨(some 75), .iaddrS 1 (.t 74) (.c (.int .i64 1)), none⟩, xl 76 75, ⟨(some 77), .lit 9 1 1 [(.str ⟨#[]⟩)] [(0, 1, (.t 76))], none⟩, ⟨(some 78), .app 9 1 16 (.t 73) (.t 77), none⟩, ⟨(some 79), .nilck (.t 66), none⟩, xf 80 0 79, xf 81 0 80, xs 1 81 78] [0, 0, 0, 4, 12, 28, 60, 126, 0, 256, 768, 1792, 4094, 8191, 16383, 32767, 65535])
 (.seq (.reg true [xm 82 0, xm 83 0, xm 84 0, ⟨(some 85), .nilck (.t 84), none⟩, xf 86 6 85, xl 87 86, xg 88 8 6, ⟨(some 89), .lit 209 8 1 [(.int .i64 0), (.int .i64 0), (.int .i64 0), (.int .i64 0), (.int .i64 0), (.int .i64 0), (.int .i64 0), (.int .i64 0)] [(0, 8, (.t 88))], none⟩, ⟨(some 90), .app 209 8 64 (.t 87) (.t 89), none⟩, xm 91 0, ⟨(some 92), .nilck (.t 91), none⟩, xf 93 7 92, xl 94 93, xm 95 1, ⟨(some 96), .iaddrS 1 (.t 95) (.c (.int .i64 2)), none⟩, xl 97 96, ⟨(some 98), .lit 9 1 1 [(.str ⟨#[]⟩)] [(0, 1, (.t 97))], none⟩, ⟨(some 99), .app 9 1 16 (.t 94) (.t 98), none⟩, ⟨(some 100), .nilck (.t 82), none⟩, xf 101 6 100, xs 1 101 90, ⟨(some 102), .nilck (.t 83), none⟩, xf 103 7 102, xs 1 103 99] [0, 0, 0, 4, 12, 28, 0, 64, 252, 0, 512, 1536, 3584, 0, 8192, 24576, 57344, 131068, 262141, 524285, 1048573, 2097151, 4194303, 8388607])
 (xr [xm 104 0, ⟨(some 105), .nilck (.t 104), none⟩, xf 106 8 105, xl 107 106, xbk 108 .add 107 1, ⟨(some 109), .nilck (.t 104), none⟩, xf 110 8 109, xs 1 110 108]
 (xr [xk 4 0]
 .ret)))))))))))))))
theorem ok93 : Tryz.f93.body.bind (comp Tryz.prog) = some c93 := by kernel_rfl
def c94 : IR :=
 (xr [xk 4 0]
 (.seq (xr [xm 10 1, xL 11 10, xbk 12 .neq 11 4, xm 13 12, xmg 14 1 13 false, ⟨(some 15), .iaddrS 1 (.t 14) (.c (.int .i64 1)), (some ((some 13), false))⟩, xlg 16 15 13 false, ⟨(some 17), .call 131 [(.t 16)], (some ((some 13), false))⟩, xng 18 17 13 false, xpb 19 13 true 18]
 (
 xd 19
 (xr [xk 4 2]
 .ret)
 .skip))
 (.seq (.seq (.reg true [xm 20 0, ⟨(some 21), .nilck (.t 20), none⟩, xf 22 0 21, xf 23 1 22, xl 24 23, xm 25 1, ⟨(some 26), .iaddrS 1 (.t 25) (.c (.int .i64 1)), none⟩, xl 27 26, xc2 28 132 24 27] [0, 1, 3, 7, 15, 0, 32, 96, 255])
 (
 xd 28
 (xr [xk 4 10]
 .ret)
 .skip))
 (xr [xm 30 1, ⟨(some 31), .iaddrS 1 (.t 30) (.c (.int .i64 3)), none⟩, xl 32 31, xc1 33 133 32, xm 29 33, xe 34 29 0, xe 35 29 1, xm 5 34, xm 6 35]
 (.seq (xr [xm 36 6, xn 37 36, xm 38 37, xmg 39 1 38 false, ⟨(some 40), .iaddrS 1 (.t 39) (.c (.int .i64 2)), (some ((some 38), false))⟩, xlg 41 40 38 false, ⟨(some 42), .bin .neq (.t 41) (.c (.str ⟨#[49, 48]⟩)), (some ((some 38), false))⟩, xmg 43 42 38 false, xmg 44 1 43 true, ⟨(some 45), .iaddrS 1 (.t 44) (.c (.int .i64 2)), (some ((some 43), true))⟩, xlg 46 45 43 true, ⟨(some 47), .bin .neq (.t 46) (.c (.str ⟨#[50]⟩)), (some ((some 43), true))⟩, ⟨(some 48), .pick (.t 43) (.t 47) (.c (.bool false)), (some ((some 38), false))⟩, xpb 49 38 true 48]
 (
 xd 49
 (xr [xk 4 2]
 .ret)
 .skip))
 (xr [⟨(some 50), .call 130 [(.c (.int .i64 10))], none⟩, ⟨(some 7), .new 215 3 [(.bool false), .nils, .nils], none⟩, xs 3 7 50]
 (.seq (xr [xm 51 1, ⟨(some 52), .iaddrS 1 (.t 51) (.c (.int .i64 2)), none⟩, xl 53 52, ⟨(some 54), .bin .eql (.t 53) (.c (.str ⟨#[50]⟩)), none⟩]
 (
 xd 54
 (xR [⟨(some 55), .call 130 [(.c (.int .i64 2))], none⟩, xs 3 7 55])
 .skip))
 (xr [xg 57 3 7, xm 58 5, xc2 59 134 57 58, xm 56 59, xe 60 56 0, xe 61 56 1, ⟨(some 8), .new 215 3 [(.bool false), .nils, .nils], none⟩, xs 3 8 60, xm 9 61]
 (.seq (.reg true [xm 62 0, ⟨(some 63), .lit 9 1 0 [] [], none⟩, xm 64 0, ⟨(some 65), .nilck (.t 64), none⟩, xf 66 0 65, xf 67 1 66, xl 68 67, ⟨(some 69), .app 9 1 16 (.t 63) (.t 68), none⟩, xm 70 1, ⟨(some 71), .iaddrS 1 (.t 70) (.c (.int .i64 1)), none⟩, xl 72 71, ⟨(some 73), .lit 9 1 1 [(.str ⟨#[]⟩)] [(0, 1, (.t 72))], none⟩, ⟨(some 74), .app 9 1 16 (.t 69) (.t 73), none⟩, ⟨(some 75), .nilck (.t 62), none⟩, xf 76 0 75, xf 77 1 76, xs 1 77 74] [0, 0, 0, 4, 12, 28, 60, 126, 0, 256, 768, 1792, 4094, 8191, 16383, 32767, 65535])
 (.seq (.reg true [xm 78 0, xm 79 0, ⟨(some 80), .nilck (.t 79), none⟩, xf 81 3 80, xl 82 81, xg 83 3 8, ⟨(some 84), .lit 215 3 1 [(.bool false), .nils, .nils] [(0, 3, (.t 83))], none⟩, ⟨(some 85), .app 215 3 56 (.t 82) (.t 84), none⟩, ⟨(some 86), .nilck (.t 78), none⟩, xf 87 3 86, xs 1 87 85] [0, 0, 2, 6, 14, 0, 32, 126, 255, 511, 1023])
 (xr [xk 4 0]
 .ret)))))))))))
theorem ok94 : Tryz.f94.body.bind (comp Tryz.prog) = some c94 := by kernel_rfl
def c95 : IR :=
 (xr [xk 4 0]
 (.seq (xr [xm 16 1, xL 17 16, xbk 18 .neq 17 4, xm 19 18, xmg 20 1 19 true, ⟨(some 21), .lenL (.t 20), (some ((some 19), true))⟩, xbg 22 .neq 21 5 19 true, xp 23 19 22 false]
 (
 xd 23
 (xr [xk 4 2]
 .ret)
 .skip))
 (xr [xm 24 0, xm 25 1, ⟨(some 26), .iaddrS 1 (.t 25) (.c (.int .i64 1)), none⟩, xl 27 26, xc2 28 127 24 27, xm 5 28]
 (.seq (xr [xm 29 5, xbk 30 .neq 29 0]
 (
 xd 30
 (xr [xm 31 5, xm 4 31]
 .ret)
 .skip))
 (.seq (.reg true [xm 32 1, ⟨(some 33), .iaddrS 1 (.t 32) (.c (.int .i64 1)), none⟩, xl 34 33, xm 35 1, ⟨(some 36), .iaddrS 1 (.t 35) (.c (.int .i64 3)), none⟩, xl 37 36, ⟨(some 38), .call 130 [(.c (.int .i64 0))], none⟩, xm 39 1, xL 40 39, xbk 41 .eql 40 5, ⟨(some 42), .build [(.str ⟨#[]⟩), (.str ⟨#[]⟩), (.int .i64 0), (.bool false), .nils, .nils, (.bool false), .nils, .nils, (.bool false), (.int .i64 0), (.int .i64 0), (.int .i64 0), (.int .i64 0), (.int .i64 0), (.int .i64 0), (.int .i64 0), (.int .i64 0), (.bool false), .nils, .nils] [(0, 1, (.t 34)), (1, 1, (.t 37)), (2, 1, (.c (.int .i64 (-1)))), (6, 3, (.t 38)), (9, 1, (.t 41))], none⟩, ⟨(some 6), .new 218 21 [(.str ⟨#[]⟩), (.str ⟨#[]⟩), (.int .i64 0), (.bool false), .nils, .nils, (.bool false), .nils, .nils, (.bool false), (.int .i64 0), (.int .i64 0), (.int .i64 0), (.int .i64 0), (.int .i64 0), (.int .i64 0), (.int .i64 0), (.int .i64 0), (.bool false), .nils, .nils], none⟩, xs 21 6 42] [0, 1, 3, 0, 8, 24, 0, 0, 128, 384, 1023, 0, 4095])
 (xr [xkb 7 true]
 (xr [xm 44 1, ⟨(some 45), .iaddrS 1 (.t 44) (.c (.int .i64 2)), none⟩, xl 46 45, xc1 47 135 46, xm 43 47, xe 48 43 0, xe 49 43 1, xf 50 3 6, xs 3 50 48, xm 7 49]
 (.seq (xr [xm 51 7, xn 52 51, xm 53 52, xfg 54 3 6 53 false, ⟨(some 55), .load true 3 (.t 54), (some ((some 53), false))⟩, ⟨(some 56), .call 136 [(.t 55)], (some ((some 53), false))⟩, xbg 57 .leq 56 0 53 false, xpb 58 53 true 57, xm 59 58, xmg 60 1 59 false, ⟨(some 61), .iaddrS 1 (.t 60) (.c (.int .i64 2)), (some ((some 59), false))⟩, xlg 62 61 59 false, ⟨(some 63), .lenS (.t 62), (some ((some 59), false))⟩, xbg 64 .gtr 63 100 59 false, xpb 65 59 true 64]
 (
 xd 65
 (xr [xk 4 2]
 .ret)
 .skip))
 (xr [xm 67 0, xm 68 1, ⟨(some 69), .iaddrS 1 (.t 68) (.c (.int .i64 3)), none⟩, xl 70 69, xc2 71 137 67 70, xm 66 71, xe 72 66 0, xe 73 66 1, ⟨(some 8), .new 228 3 [.nils, .nils, (.str ⟨#[]⟩)], none⟩, xs 3 8 72, xm 9 73]
 (.seq (xr [xm 74 9, xbk 75 .neq 74 0]
 (
 xd 75
 (xr [xm 76 9, xm 4 76]
 .ret)
 .skip))
 (.seq (xr [xf 77 9 6, xl 78 77]
 (
 xd 78
 (xr [xm 80 1, ⟨(some 81), .iaddrS 1 (.t 80) (.c (.int .i64 4)), none⟩, xl 82 81, xc1 83 135 82, xm 79 83, xe 84 79 0, xe 85 79 1, xf 86 6 6, xs 3 86 84, xm 7 85]
 (xr [xm 87 7, xn 88 87, xm 89 88, xmg 90 1 89 false, ⟨(some 91), .iaddrS 1 (.t 90) (.c (.int .i64 4)), (some ((some 89), false))⟩, xlg 92 91 89 false, ⟨(some 93), .lenS (.t 92), (some ((some 89), false))⟩, xbg 94 .gtr 93 100 89 false, xpb 95 89 true 94]
 (
  xd 95
  (xr [xk 4 2]
  .ret)
  .skip)))
 .skip))
 (xr [xm 97 0, xm 98 1, ⟨(some 99), .iaddrS 1 (.t 98) (.c (.int .i64 3)), none⟩, xl 100 99, xc2 101 138 97 100, xm 96 101, xe 102 96 0, xe 103 96 1, ⟨(some 10), .new 218 21 [(.str ⟨#[]⟩), (.str ⟨#[]⟩), (.int .i64 0), (.bool false), .nils, .nils, (.bool false), .nils, .nils, (.bool false), (.int .i64 0), (.int .i64 0), (.int .i64 0), (.int .i64 0), (.int .i64 0), (.int .i64 0), (.int .i64 0), (.int .i64 0), (.bool false), .nils, .nils], none⟩, xs 21 10 102, xm 11 103]
 (.seq (xr [xf 104 9 6, xl 105 104, xm 106 105, xmg 107 11 106 true, xng 108 107 106 true, xmg 109 108 106 true, xfg 110 2 10 109 false, xlg 111 110 109 false, xbg 112 .lss 111 0 109 false, ⟨(some 113), .pick (.t 109) (.c (.bool true)) (.t 112), (some ((some 106), true))⟩, xp 114 106 113 false, xm 115 114, xmg 116 0 115 false, ⟨(some 117), .load true 3 (.t 8), (some ((some 115), false))⟩, ⟨(some 118), .call 139 [(.t 116), (.t 117)], (some ((some 115), false))⟩, xpb 119 115 true 118]
 (
 xd 119
 (xr [xk 4 6]
 .ret)
 .skip))
 (xr [xm 121 0, xg 122 3 8, xc2 123 140 121 122, xm 120 123, xe 124 120 0, xe 125 120 1, ⟨(some 12), .new 209 8 [(.int .i64 0), (.int .i64 0), (.int .i64 0), (.int .i64 0), (.int .i64 0), (.int .i64 0), (.int .i64 0), (.int .i64 0)], none⟩, xs 8 12 124, xm 13 125]
 (.seq (xr [xm 126 13, xn 127 126]
 (
 xd 127
 (xr [xk 4 5]
 .ret)
 .skip))
 (xr [xm 129 0, xg 130 3 8, xc2 131 141 129 130, xm 128 131, xe 132 128 0, xe 133 128 1, ⟨(some 14), .new 237 15 [(.int .i64 0), (.int .i64 0), (.int .i64 0), (.int .i64 0), (.int .i64 0), (.int .i64 0), (.int .i64 0), (.int .i64 0), (.bool false), .nils, .nils, (.bool false), .nils, .nils, (.bool false)], none⟩, xs 15 14 132, xm 15 133]
 (.seq (.reg true [xg 134 8 12, xf 135 8 14, xg 136 3 135, xf 137 3 6, xg 138 3 137, xc2 139 142 136 138, xf 140 10 6, xs 8 140 134, xf 141 18 6, xs 3 141 139] [0, 0, 2, 0, 8, 30, 25, 127, 255, 511])
 (.seq (xr [xf 142 18 6, xf 143 0 142, xf 144 1 143, xl 145 144, xc1 146 143 145, xS 147 146, xbk 148 .gtr 147 100, xm 149 148, xfg 150 18 6 149 false, xfg 151 2 150 149 false, xlg 152 151 149 false, ⟨(some 153), .call 143 [(.t 152)], (some ((some 149), false))⟩, ⟨(some 154), .lenS (.t 153), (some ((some 149), false))⟩, xbg 155 .gtr 154 100 149 false, xpb 156 149 true 155]
 (
 xd 156
 (xr [xk 4 11]
 .ret)
 .skip))
 (.seq (.reg true [xm 157 0, xm 158 0, ⟨(some 159), .nilck (.t 158), none⟩, xf 160 2 159, xl 161 160, xg 162 21 6, ⟨(some 163), .lit 218 21 1 [(.str ⟨#[]⟩), (.str ⟨#[]⟩), (.int .i64 0), (.bool false), .nils, .nils, (.bool false), .nils, .nils, (.bool false), (.int .i64 0), (.int .i64 0), (.int .i64 0), (.int .i64 0), (.int .i64 0), (.int .i64 0), (.int .i64 0), (.int .i64 0), (.bool false), .nils, .nils] [(0, 21, (.t 162))], none⟩, ⟨(some 164), .app 218 21 280 (.t 161) (.t 163), none⟩, ⟨(some 165), .nilck (.t 157), none⟩, xf 166 2 165, xs 1 166 164] [0, 0, 2, 6, 14, 0, 32, 126, 255, 511, 1023])
 (.seq (.reg true [xm 167 0, ⟨(some 168), .lit 9 1 0 [] [], none⟩, xm 169 0, ⟨(some 170), .nilck (.t 169), none⟩, xf 171 0 170, xf 172 0 171, xl 173 172, ⟨(some 174), .app 9 1 16 (.t 168) (.t 173), none⟩, xm 175 1, ⟨(some 176), .iaddrS 1 (.t 175) (.c (.int .i64 1)), none⟩, xl 177 176, ⟨(some 178), .lit 9 1 1 [(.str ⟨#[]⟩)] [(0, 1, (.t 177))], none⟩, ⟨(some 179), .app 9 1 16 (.t 174) (.t 178), none⟩, ⟨(some 180), .nilck (.t 167), none⟩, xf 181 0 180, xf 182 0 181, xs 1 182 179] [0, 0, 0, 4, 12, 28, 60, 126, 0, 256, 768, 1792, 4094, 8191, 16383, 32767, 65535])
 (xr [xk 4 0]
 .ret)))))))))))))))))))))
theorem ok95 : Tryz.f95.body.bind (comp Tryz.prog) = some c95 := by kernel_rfl
def c96 : IR :=
 (xr [xk 4 0]
 (.seq (xr [xm 11 1, xL 12 11, xbk 13 .neq 12 3, xm 14 13, xmg 15 1 14 false, ⟨(some 16), .iaddrS 1 (.t 15) (.c (.int .i64 1)), (some ((some 14), false))⟩, xlg 17 16 14 false, ⟨(some 18), .call 128 [(.t 17)], (some ((some 14), false))⟩, xng 19 18 14 false, xpb 20 14 true 19]
 (
 xd 20
 (xr [xk 4 2]
 .ret)
 .skip))
 (xr [xm 22 0, xm 23 1, ⟨(some 24), .iaddrS 1 (.t 23) (.c (.int .i64 2)), none⟩, xl 25 24, xc2 26 137 22 25, xm 21 26, xe 27 21 0, xe 28 21 1, ⟨(some 5), .new 228 3 [.nils, .nils, (.str ⟨#[]⟩)], none⟩, xs 3 5 27, xm 6 28]
 (.seq (xr [xm 29 6, xbk 30 .neq 29 0]
 (
 xd 30
 (xr [xm 31 6, xm 4 31]
 .ret)
 .skip))
 (xr [xm 33 0, xg 34 3 5, xc2 35 140 33 34, xm 32 35, xe 36 32 0, xe 37 32 1, ⟨(some 7), .new 209 8 [(.int .i64 0), (.int .i64 0), (.int .i64 0), (.int .i64 0), (.int .i64 0), (.int .i64 0), (.int .i64 0), (.int .i64 0)], none⟩, xs 8 7 36, xm 8 37]
 (.seq (xr [xm 38 8, xn 39 38]
 (
 xd 39
 (xr [xk 4 5]
 .ret)
 .skip))
 (xr [xm 41 0, xg 42 8 7, xc2 43 129 41 42, xm 40 43, xe 44 40 0, xe 45 40 1, xm 9 44, xm 10 45]
 (.seq (xr [xm 46 10]
 (
 xd 46
 (xr [xk 4 10]
 .ret)
 .skip))
 (.seq (.reg true [xm 47 0, xm 48 0, xm 49 0, ⟨(some 50), .nilck (.t 49), none⟩, xf 51 6 50, xl 52 51, xg 53 8 7, ⟨(some 54), .lit 209 8 1 [(.int .i64 0), (.int .i64 0), (.int .i64 0), (.int .i64 0), (.int .i64 0), (.int .i64 0), (.int .i64 0), (.int .i64 0)] [(0, 8, (.t 53))], none⟩, ⟨(some 55), .app 209 8 64 (.t 52) (.t 54), none⟩, xm 56 0, ⟨(some 57), .nilck (.t 56), none⟩, xf 58 7 57, xl 59 58, xm 60 1, ⟨(some 61), .iaddrS 1 (.t 60) (.c (.int .i64 1)), none⟩, xl 62 61, ⟨(some 63), .lit 9 1 1 [(.str ⟨#[]⟩)] [(0, 1, (.t 62))], none⟩, ⟨(some 64), .app 9 1 16 (.t 59) (.t 63), none⟩, ⟨(some 65), .nilck (.t 47), none⟩, xf 66 6 65, xs 1 66 55, ⟨(some 67), .nilck (.t 48), none⟩, xf 68 7 67, xs 1 68 64] [0, 0, 0, 4, 12, 28, 0, 64, 252, 0, 512, 1536, 3584, 0, 8192, 24576, 57344, 131068, 262141, 524285, 1048573, 2097151, 4194303, 8388607])
 (xr [xk 4 0]
 .ret))))))))))
theorem ok96 : Tryz.f96.body.bind (comp Tryz.prog) = some c96 := by kernel_rfl
def c97 : IR :=
 (xr [xk 4 0]
 (.seq (xr [xm 8 1, xL 9 8, xbk 10 .neq 9 3]
 (
 xd 10
 (xr [xk 4 2]
 .ret)
 .skip))
 (xr [xm 11 0, xm 12 1, ⟨(some 13), .iaddrS 1 (.t 12) (.c (.int .i64 1)), none⟩, xl 14 13, xc2 15 127 11 14, xm 5 15]
 (.seq (xr [xm 16 5, xbk 17 .neq 16 0]
 (
 xd 17
 (xr [xm 18 5, xm 4 18]
 .ret)
 .skip))
 (xr [xm 20 0, xm 21 1, ⟨(some 22), .iaddrS 1 (.t 21) (.c (.int .i64 2)), none⟩, xl 23 22, xc2 24 137 20 23, xm 19 24, xe 25 19 0, xe 26 19 1, ⟨(some 6), .new 228 3 [.nils, .nils, (.str ⟨#[]⟩)], none⟩, xs 3 6 25, xm 7 26]
 (.seq (xr [xm 27 7, xbk 28 .neq 27 0]
 (
 xd 28
 (xr [xm 29 7, xm 4 29]
 .ret)
 .skip))
 (.seq (.reg true [xm 30 0, xm 31 0, ⟨(some 32), .lit 9 1 0 [] [], none⟩, xm 33 0, ⟨(some 34), .nilck (.t 33), none⟩, xf 35 4 34, xl 36 35, ⟨(some 37), .app 9 1 16 (.t 32) (.t 36), none⟩, xm 38 1, ⟨(some 39), .iaddrS 1 (.t 38) (.c (.int .i64 1)), none⟩, xl 40 39, ⟨(some 41), .lit 9 1 1 [(.str ⟨#[]⟩)] [(0, 1, (.t 40))], none⟩, ⟨(some 42), .app 9 1 16 (.t 37) (.t 41), none⟩, ⟨(some 43), .lit 9 1 0 [] [], none⟩, xm 44 0, ⟨(some 45), .nilck (.t 44), none⟩, xf 46 5 45, xl 47 46, ⟨(some 48), .app 9 1 16 (.t 43) (.t 47), none⟩, xm 49 1, ⟨(some 50), .iaddrS 1 (.t 49) (.c (.int .i64 2)), none⟩, xl 51 50, ⟨(some 52), .lit 9 1 1 [(.str ⟨#[]⟩)] [(0, 1, (.t 51))], none⟩, ⟨(some 53), .app 9 1 16 (.t 48) (.t 52), none⟩, ⟨(some 54), .nilck (.t 30), none⟩, xf 55 4 54, xs 1 55 42, ⟨(some 56), .nilck (.t 31), none⟩, xf 57 5 56, xs 1 57 53] [0, 0, 0, 0, 8, 24, 56, 124, 0, 256, 768, 1792, 4092, 0, 0, 16384, 49152, 114688, 262140, 0, 524288, 1572864, 3670016, 8388604, 16777213, 33554429, 67108861, 134217727, 268435455, 536870911])
 (xr [xk 4 0]
 .ret))))))))
theorem ok97 : Tryz.f97.body.bind (comp Tryz.prog) = some c97 := by kernel_rfl
def c127 : IR :=
 (xr [xk 4 0]
 (.seq (xr [xm 5 1, xc1 6 131 5, xn 7 6]
 (
 xd 7
 (xr [xk 4 2]
 .ret)
 .skip))
 (.seq (xr [xm 8 0, ⟨(some 9), .nilck (.t 8), none⟩, xf 10 0 9, xf 11 0 10, xl 12 11, xm 13 1, xc2 14 132 12 13, xm 15 14, xmg 16 0 15 false, ⟨(some 17), .nilck (.t 16), (some ((some 15), false))⟩, xfg 18 4 17 15 false, xlg 19 18 15 false, xmg 20 1 15 false, ⟨(some 21), .call 132 [(.t 19), (.t 20)], (some ((some 15), false))⟩, xpb 22 15 true 21]
 (
 xd 22
 (xr [xk 4 10]
 .ret)
 .skip))
 (xr [xk 4 0]
 .ret))))
theorem ok127 : Tryz.f127.body.bind (comp Tryz.prog) = some c127 := by kernel_rfl
def c128 : IR :=
 (xr [xkb 2 false]
 (xr [xm 6 0, xc1 7 165 6, xm 5 7, xe 8 5 0, xe 9 5 1, xm 3 8, xm 4 9]
 (xr [xm 10 4, xbk 11 .eql 10 0, xm 2 11]
 .ret)))
theorem ok128 : Tryz.f128.body.bind (comp Tryz.prog) = some c128 := by kernel_rfl
def c129 : IR :=
 (xr [⟨(some 3), .box 209 8 (.t 1), none⟩, ⟨(some 4), .mv (.c (.str ⟨#[]⟩)), none⟩, xkb 5 false]
 (.seq (xr [xk 6 0]
 (.block 0 (.loop (.seq (xr [xm 7 6, xm 8 0, ⟨(some 9), .nilck (.t 8), none⟩, xf 10 6 9, xl 11 10, xL 12 11, xb 13 .lss 7 12]
  (
  xd 13
  .skip
  (.exit 0)))
  (
  .seq (.block 1 (.seq (.reg true [xm 16 0, ⟨(some 17), .nilck (.t 16), none⟩, xf 18 6 17, xl 19 18, xm 20 6, xi 21 8 19 20, xg 22 8 21, xg 23 8 3, ⟨(some 24), .aeq 8 false (.t 22) (.t 23), none⟩] [0, 1, 3, 7, 0, 31, 63, 0, 255])
  (
   xd 24
   (xr [xm 25 0, ⟨(some 26), .nilck (.t 25), none⟩, xf 27 7 26, xl 28 27, xm 29 6, xi 30 1 28 29, xl 31 30, xm 4 31, xkb 5 true]
   .ret)
   .skip)))
  (xR [xm 14 6, xbk 15 .add 14 1, xm 6 15]))))))
 (xr [⟨(some 4), .mv (.c (.str ⟨#[]⟩)), none⟩, xkb 5 false]
 .ret)))
theorem ok129 : Tryz.f129.body.bind (comp Tryz.prog) = some c129 := by kernel_rfl
def c131 : IR :=
 (xr [xkb 2 false]
 (xr [xm 3 0, xc1 4 168 3, xm 5 4, xmg 6 0 5 true, ⟨(some 7), .bin .neq (.t 6) (.c (.str ⟨#[112, 101, 114]⟩)), (some ((some 5), true))⟩, xp 8 5 7 false, xm 9 8, xmg 10 0 9 true, ⟨(some 11), .bin .neq (.t 10) (.c (.str ⟨#[97, 110, 100]⟩)), (some ((some 9), true))⟩, xp 12 9 11 false, xm 13 12, xmg 14 0 13 true, ⟨(some 15), .bin .neq (.t 14) (.c (.str ⟨#[115, 113, 117, 97, 114, 101]⟩)), (some ((some 13), true))⟩, xp 16 13 15 false, xm 17 16, xmg 18 0 17 true, ⟨(some 19), .bin .neq (.t 18) (.c (.str ⟨#[99, 117, 98, 105, 99]⟩)), (some ((some 17), true))⟩, xp 20 17 19 false, xm 21 20, xmg 22 0 21 true, ⟨(some 23), .call 169 [(.t 22)], (some ((some 21), true))⟩, xng 24 23 21 true, xp 25 21 24 false, xm 26 25, xmg 27 0 26 true, ⟨(some 28), .lenS (.t 27), (some ((some 26), true))⟩, xbg 29 .gtr 28 3 26 true, xmg 30 29 26 true, xmg 31 0 30 true, ⟨(some 32), .slcS (.t 31) none (some (.c (.int .i64 3))), (some ((some 30), true))⟩, ⟨(some 33), .bin .eql (.t 32) (.c (.str ⟨#[112, 111, 119]⟩)), (some ((some 30), true))⟩, ⟨(some 34), .pick (.t 30) (.t 33) (.c (.bool false)), (some ((some 26), true))⟩, xmg 35 34 26 true, xmg 36 0 35 true, ⟨(some 37), .slcS (.t 36) (some (.c (.int .i64 3))) none, (some ((some 35), true))⟩, ⟨(some 38), .call 169 [(.t 37)], (some ((some 35), true))⟩, ⟨(some 39), .pick (.t 35) (.t 38) (.c (.bool false)), (some ((some 26), true))⟩, xng 40 39 26 true, xp 41 26 40 false, xm 2 41]
 .ret))
theorem ok131 : Tryz.f131.body.bind (comp Tryz.prog) = some c131 := by kernel_rfl
def c132 : IR :=
 (xr [xkb 4 false]
 (.seq (xr [xk 5 0]
 (.block 0 (.loop (.seq (xr [xm 6 5, xm 7 0, xL 8 7, xb 9 .lss 6 8]
  (
  xd 9
  .skip
  (.exit 0)))
  (
  .seq (.block 1 (xr [xm 12 0, xm 13 5, xi 14 1 12 13, xl 15 14, xm 16 1, xb 17 .eql 15 16]
  (
   xd 17
   (xr [xkb 4 true]
   .ret)
   .skip)))
  (xR [xm 10 5, xbk 11 .add 10 1, xm 5 11]))))))
 (xr [xkb 4 false]
 .ret)))
theorem ok132 : Tryz.f132.body.bind (comp Tryz.prog) = some c132 := by kernel_rfl
def c133 : IR :=
 (xr [xk 2 0, xkb 3 false]
 (.seq (xr [xk 4 (-30)]
 (.block 0 (.loop (.seq (xr [xm 5 4, xbk 6 .leq 5 30]
  (
  xd 6
  .skip
  (.exit 0)))
  (
  .seq (.block 1 (xr [xm 9 4, xc1 10 166 9, xc1 11 170 10, xm 12 0, xb 13 .eql 11 12]
  (
   xd 13
   (xr [xm 14 4, xm 2 14, xkb 3 true]
   .ret)
   .skip)))
  (xR [xm 7 4, xbk 8 .add 7 1, xm 4 8]))))))
 (xr [xk 2 0, xkb 3 false]
 .ret)))
theorem ok133 : Tryz.f133.body.bind (comp Tryz.prog) = some c133 := by kernel_rfl
def c137 : IR :=
 (xr [⟨(some 4), .new 228 3 [.nils, .nils, (.str ⟨#[]⟩)], none⟩, xk 5 0]
 (xr [xm 9 0, ⟨(some 10), .nilck (.t 9), none⟩, xf 11 0 10, xg 12 2 11, xm 13 1, xc2 14 176 12 13, xm 8 14, xe 15 8 0, xe 16 8 1, xm 6 15, xm 7 16]
 (.seq (xr [xm 17 7, xbk 18 .neq 17 0]
 (
 xd 18
 (xr [⟨(some 19), .build [.nils, .nils, (.str ⟨#[]⟩)] [], none⟩, xm 20 7, xs 3 4 19, xm 5 20]
 .ret)
 .skip))
 (.seq (xr [xm 21 6, xL 22 21, xbk 23 .neq 22 1]
 (
 xd 23
 (xr [⟨(some 24), .build [.nils, .nils, (.str ⟨#[]⟩)] [], none⟩, xs 3 4 24, xk 5 2]
 .ret)
 .skip))
 (xr [xm 25 6, ⟨(some 26), .iaddrS 3 (.t 25) (.c (.int .i64 0)), none⟩, xg 27 3 26, xs 3 4 27, xk 5 0]
 .ret)))))
theorem ok137 : Tryz.f137.body.bind (comp Tryz.prog) = some c137 := by kernel_rfl
def c138 : IR :=
 (xr [⟨(some 4), .new 218 21 [(.str ⟨#[]⟩), (.str ⟨#[]⟩), (.int .i64 0), (.bool false), .nils, .nils, (.bool false), .nils, .nils, (.bool false), (.int .i64 0), (.int .i64 0), (.int .i64 0), (.int .i64 0), (.int .i64 0), (.int .i64 0), (.int .i64 0), (.int .i64 0), (.bool false), .nils, .nils], none⟩, xkb 5 false]
 (.seq (xr [xk 6 0]
 (.block 0 (.loop (.seq (xr [xm 7 6, xm 8 0, ⟨(some 9), .nilck (.t 8), none⟩, xf 10 2 9, xl 11 10, xL 12 11, xb 13 .lss 7 12]
  (
  xd 13
  .skip
  (.exit 0)))
  (
  .seq (.block 1 (xr [xm 16 0, ⟨(some 17), .nilck (.t 16), none⟩, xf 18 2 17, xl 19 18, xm 20 6, xi 21 21 19 20, xf 22 0 21, xl 23 22, xm 24 1, xb 25 .eql 23 24]
  (
   xd 25
   (xr [xm 26 0, ⟨(some 27), .nilck (.t 26), none⟩, xf 28 2 27, xl 29 28, xm 30 6, xi 31 21 29 30, xg 32 21 31, xs 21 4 32, xkb 5 true]
   .ret)
   .skip)))
  (xR [xm 14 6, xbk 15 .add 14 1, xm 6 15]))))))
 (xr [⟨(some 33), .build [(.str ⟨#[]⟩), (.str ⟨#[]⟩), (.int .i64 0), (.bool false), .nils, .nils, (.bool false), .nils, .nils, (.bool false), (.int .i64 0), (.int .i64 0), (.int .i64 0), (.int .i64 0), (.int .i64 0), (.int .i64 0), (.int .i64 0), (.int .i64 0), (.bool false), .nils, .nils] [], none⟩, xs 21 4 33, xkb 5 false]
 .ret)))
theorem ok138 : Tryz.f138.body.bind (comp Tryz.prog) = some c138 := by kernel_rfl
def c139 : IR :=
 (xr [⟨(some 3), .box 228 3 (.t 1), none⟩, xkb 4 false]
 (.seq (.reg true [⟨(some 9), .lit 277 3 0 [] [], none⟩, xf 10 0 3, xl 11 10, ⟨(some 12), .app 277 3 40 (.t 9) (.t 11), none⟩, xf 13 1 3, xl 14 13, ⟨(some 15), .app 277 3 40 (.t 12) (.t 14), none⟩, xm 5 15] [0, 0, 2, 7, 0, 16, 63, 127])
 (.seq (xr [xk 6 0]
 (.block 0 (.loop (.seq (xr [xm 16 6, xm 17 5, xL 18 17, xb 19 .lss 16 18]
  (
  xd 19
  .skip
  (.exit 0)))
  (
  .seq (.block 1 (xr [xm 23 0, xm 24 5, xm 25 6, xi 26 3 24 25, xf 27 1 26, xl 28 27, xc2 29 138 23 28, xm 22 29, xe 30 22 0, xe 31 22 1, ⟨(some 7), .new 218 21 [(.str ⟨#[]⟩), (.str ⟨#[]⟩), (.int .i64 0), (.bool false), .nils, .nils, (.bool false), .nils, .nils, (.bool false), (.int .i64 0), (.int .i64 0), (.int .i64 0), (.int .i64 0), (.int .i64 0), (.int .i64 0), (.int .i64 0), (.int .i64 0), (.bool false), .nils, .nils], none⟩, xs 21 7 30, xm 8 31]
  (xr [xf 32 9 7, xl 33 32]
  (
   xd 33
   (xr [xkb 4 true]
   .ret)
   .skip))))
  (xR [xm 20 6, xbk 21 .add 20 1, xm 6 21]))))))
 (xr [xkb 4 false]
 .ret))))
theorem ok139 : Tryz.f139.body.bind (comp Tryz.prog) = some c139 := by kernel_rfl
def c140 : IR :=
 (xr [⟨(some 3), .box 228 3 (.t 1), none⟩, ⟨(some 4), .new 209 8 [(.int .i64 0), (.int .i64 0), (.int .i64 0), (.int .i64 0), (.int .i64 0), (.int .i64 0), (.int .i64 0), (.int .i64 0)], none⟩, xkb 5 false]
 (xr [⟨(some 6), .new 209 8 [(.int .i64 0), (.int .i64 0), (.int .i64 0), (.int .i64 0), (.int .i64 0), (.int .i64 0), (.int .i64 0), (.int .i64 0)], none⟩]
 (.seq (.reg true [⟨(some 13), .lit 277 3 0 [] [], none⟩, xf 14 0 3, xl 15 14, ⟨(some 16), .app 277 3 40 (.t 13) (.t 15), none⟩, xf 17 1 3, xl 18 17, ⟨(some 19), .app 277 3 40 (.t 16) (.t 18), none⟩, xm 7 19] [0, 0, 2, 7, 0, 16, 63, 127])
 (.seq (xr [xk 8 0]
 (.block 0 (.loop (.seq (xr [xm 20 8, xm 21 7, xL 22 21, xb 23 .lss 20 22]
  (
  xd 23
  .skip
  (.exit 0)))
  (
  .seq (.block 1 (xr [xm 27 0, xm 28 7, xm 29 8, xi 30 3 28 29, xf 31 1 30, xl 32 31, xc2 33 138 27 32, xm 26 33, xe 34 26 0, xe 35 26 1, ⟨(some 9), .new 218 21 [(.str ⟨#[]⟩), (.str ⟨#[]⟩), (.int .i64 0), (.bool false), .nils, .nils, (.bool false), .nils, .nils, (.bool false), (.int .i64 0), (.int .i64 0), (.int .i64 0), (.int .i64 0), (.int .i64 0), (.int .i64 0), (.int .i64 0), (.int .i64 0), (.bool false), .nils, .nils], none⟩, xs 21 9 34, xm 10 35]
  (.seq (xr [xm 36 10, xn 37 36]
  (
   xd 37
   (xr [⟨(some 38), .build [(.int .i64 0), (.int .i64 0), (.int .i64 0), (.int .i64 0), (.int .i64 0), (.int .i64 0), (.int .i64 0), (.int .i64 0)] [], none⟩, xs 8 4 38, xkb 5 false]
   .ret)
   .skip))
  (.seq (.reg true [xf 40 10 9, xg 41 8 40, xm 42 7, xm 43 8, xi 44 3 42 43, xf 45 2 44, xl 46 45, xc2 47 177 41 46, xm 39 47, xe 48 39 0, xe 49 39 1, ⟨(some 11), .new 209 8 [(.int .i64 0), (.int .i64 0), (.int .i64 0), (.int .i64 0), (.int .i64 0), (.int .i64 0), (.int .i64 0), (.int .i64 0)], none⟩, xs 8 11 48, xm 12 49] [0, 1, 0, 0, 12, 28, 60, 127, 255, 511, 511, 0, 3071, 8191])
  (.seq (xr [xm 50 12, xm 51 50, xmg 52 8 51 true, xfg 53 0 3 51 true, xlg 54 53 51 true, ⟨(some 55), .lenL (.t 54), (some ((some 51), true))⟩, ⟨(some 56), .bin .geq (.t 52) (.t 55), (some ((some 51), true))⟩, xp 57 51 56 false]
  (
   xd 57
   (xR [xg 58 8 11, xc1 59 178 58, xs 8 11 59])
   .skip))
  (.seq (xr [xm 60 12]
  (
   xd 60
   (xR [xg 62 8 6, xg 63 8 11, xc2 64 179 62 63, xm 61 64, xe 65 61 0, xe 66 61 1, xs 8 6 65, xm 12 66])
   .skip))
  (xr [xm 67 12, xn 68 67]
  (
   xd 68
   (xr [⟨(some 69), .build [(.int .i64 0), (.int .i64 0), (.int .i64 0), (.int .i64 0), (.int .i64 0), (.int .i64 0), (.int .i64 0), (.int .i64 0)] [], none⟩, xs 8 4 69, xkb 5 false]
   .ret)
   .skip))))))))
  (xR [xm 24 8, xbk 25 .add 24 1, xm 8 25]))))))
 (xr [xg 70 8 6, xs 8 4 70, xkb 5 true]
 .ret)))))
theorem ok140 : Tryz.f140.body.bind (comp Tryz.prog) = some c140 := by kernel_rfl
def c141 : IR :=
 (xr [⟨(some 3), .box 228 3 (.t 1), none⟩, ⟨(some 4), .new 237 15 [(.int .i64 0), (.int .i64 0), (.int .i64 0), (.int .i64 0), (.int .i64 0), (.int .i64 0), (.int .i64 0), (.int .i64 0), (.bool false), .nils, .nils, (.bool false), .nils, .nils, (.bool false)], none⟩, xk 5 0]
 (xr [⟨(some 19), .call 130 [(.c (.int .i64 1))], none⟩, ⟨(some 20), .call 130 [(.c (.int .i64 0))], none⟩, ⟨(some 21), .build [(.int .i64 0), (.int .i64 0), (.int .i64 0), (.int .i64 0), (.int .i64 0), (.int .i64 0), (.int .i64 0), (.int .i64 0), (.bool false), .nils, .nils, (.bool false), .nils, .nils, (.bool false)] [(8, 3, (.t 19)), (11, 3, (.t 20))], none⟩, ⟨(some 6), .new 237 15 [(.int .i64 0), (.int .i64 0), (.int .i64 0), (.int .i64 0), (.int .i64 0), (.int .i64 0), (.int .i64 0), (.int .i64 0), (.bool false), .nils, .nils, (.bool false), .nils, .nils, (.bool false)], none⟩, xs 15 6 21]
 (xr [xf 22 0 3, xl 23 22, xL 24 23, xm 7 24]
 (.seq (.reg true [⟨(some 25), .lit 277 3 0 [] [], none⟩, xf 26 0 3, xl 27 26, ⟨(some 28), .app 277 3 40 (.t 25) (.t 27), none⟩, xf 29 1 3, xl 30 29, ⟨(some 31), .app 277 3 40 (.t 28) (.t 30), none⟩, xm 8 31] [0, 0, 2, 7, 0, 16, 63, 127])
 (xr [xm 32 7, xbk 33 .eql 32 1, xm 34 33, xfg 35 1 3 34 true, xlg 36 35 34 true, ⟨(some 37), .lenL (.t 36), (some ((some 34), true))⟩, xbg 38 .eql 37 0 34 true, xp 39 34 38 false, xm 40 39, xfg 41 2 3 40 true, xlg 42 41 40 true, ⟨(some 43), .bin .eql (.t 42) (.c (.str ⟨#[49]⟩)), (some ((some 40), true))⟩, xp 44 40 43 false, xm 9 44]
 (.seq (xr [xk 10 0]
 (.block 0 (.loop (.seq (xr [xm 45 10, xm 46 8, xL 47 46, xb 48 .lss 45 47]
  (
  xd 48
  .skip
  (.exit 0)))
  (
  .seq (.block 1 (xr [xm 52 0, xm 53 8, xm 54 10, xi 55 3 53 54, xg 56 3 55, xc2 57 180 52 56, xm 51 57, xe 58 51 0, xe 59 51 1, ⟨(some 11), .new 237 15 [(.int .i64 0), (.int .i64 0), (.int .i64 0), (.int .i64 0), (.int .i64 0), (.int .i64 0), (.int .i64 0), (.int .i64 0), (.bool false), .nils, .nils, (.bool false), .nils, .nils, (.bool false)], none⟩, xs 15 11 58, xm 12 59]
  (.seq (xr [xm 60 12, xbk 61 .neq 60 0]
  (
   xd 61
   (xr [⟨(some 62), .build [(.int .i64 0), (.int .i64 0), (.int .i64 0), (.int .i64 0), (.int .i64 0), (.int .i64 0), (.int .i64 0), (.int .i64 0), (.bool false), .nils, .nils, (.bool false), .nils, .nils, (.bool false)] [], none⟩, xm 63 12, xs 15 4 62, xm 5 63]
   .ret)
   .skip))
  (.seq (xr [xf 64 14 11, xl 65 64, xm 66 65, xmg 67 9 66 true, xng 68 67 66 true, xp 69 66 68 false]
  (
   xd 69
   (xr [⟨(some 70), .build [(.int .i64 0), (.int .i64 0), (.int .i64 0), (.int .i64 0), (.int .i64 0), (.int .i64 0), (.int .i64 0), (.int .i64 0), (.bool false), .nils, .nils, (.bool false), .nils, .nils, (.bool false)] [], none⟩, xs 15 4 70, xk 5 6]
   .ret)
   .skip))
  (.seq (xr [xf 71 14 11, xl 72 71]
  (
   xd 72
   (xr [xg 73 15 11, xs 15 4 73, xk 5 0]
   .ret)
   .skip))
  (xr [xk 13 1]
  (xr [xf 74 8 11, xg 75 3 74, ⟨(some 14), .new 215 3 [(.bool false), .nils, .nils], none⟩, xs 3 14 75]
  (.seq (xr [xm 76 10, xm 77 7, xb 78 .geq 76 77]
  (
   xd 78
   (xR [xg 79 3 14, xc1 80 171 79, xk 13 (-1), xs 3 14 80])
   .skip))
  (xr [xf 82 0 11, xg 83 8 82, xm 84 13, xc2 85 177 83 84, xm 81 85, xe 86 81 0, xe 87 81 1, ⟨(some 15), .new 209 8 [(.int .i64 0), (.int .i64 0), (.int .i64 0), (.int .i64 0), (.int .i64 0), (.int .i64 0), (.int .i64 0), (.int .i64 0)], none⟩, xs 8 15 86, xm 16 87]
  (.seq (xr [xm 88 16]
  (
   xd 88
   (xR [xf 90 0 6, xg 91 8 90, xg 92 8 15, xc2 93 179 91 92, xm 89 93, xe 94 89 0, xe 95 89 1, xs 8 15 94, xm 16 95])
   .skip))
  (.seq (xr [xm 96 16, xn 97 96]
  (
   xd 97
   (xr [⟨(some 98), .build [(.int .i64 0), (.int .i64 0), (.int .i64 0), (.int .i64 0), (.int .i64 0), (.int .i64 0), (.int .i64 0), (.int .i64 0), (.bool false), .nils, .nils, (.bool false), .nils, .nils, (.bool false)] [], none⟩, xs 15 4 98, xk 5 5]
   .ret)
   .skip))
  (.reg true [xg 99 8 15, xf 100 8 6, xg 101 3 100, xg 102 3 14, xc2 103 142 101 102, xf 104 0 6, xs 8 104 99, xf 105 8 6, xs 3 105 103] [0, 0, 2, 0, 14, 7, 63, 127, 255]))))))))))))
  (xR [xm 49 10, xbk 50 .add 49 1, xm 10 50]))))))
 (xr [xf 107 2 3, xl 108 107, xc1 109 173 108, xm 106 109, xe 110 106 0, xe 111 106 1, xm 17 110, xm 18 111]
 (.seq (xr [xm 112 17, xL 113 112, xbk 114 .eql 113 0]
 (
 xd 114
 (xr [⟨(some 115), .build [(.int .i64 0), (.int .i64 0), (.int .i64 0), (.int .i64 0), (.int .i64 0), (.int .i64 0), (.int .i64 0), (.int .i64 0), (.bool false), .nils, .nils, (.bool false), .nils, .nils, (.bool false)] [], none⟩, xs 15 4 115, xk 5 4]
 .ret)
 .skip))
 (.seq (.reg true [xf 116 8 6, xg 117 3 116, ⟨(some 118), .call 166 [(.c (.int .i64 1))], none⟩, xm 119 17, xc2 120 174 118 119, xc2 121 142 117 120, xf 122 8 6, xs 3 122 121] [0, 1, 0, 0, 12, 31, 63, 127])
 (xr [xg 123 15 6, xs 15 4 123, xk 5 0]
 .ret))))))))))
theorem ok141 : Tryz.f141.body.bind (comp Tryz.prog) = some c141 := by kernel_rfl
def c165 : IR :=
 (xr [⟨(some 2), .mv (.c .nils), none⟩, xk 3 0]
 (.seq (xr [xm 7 0, xS 8 7, xbk 9 .gtr 8 256]
 (
 xd 9
 (xr [⟨(some 2), .mv (.c .nils), none⟩, xk 3 11]
 .ret)
 .skip))
 (xr [⟨(some 10), .lit 9 1 1 [(.str ⟨#[]⟩)] [(0, 1, (.c (.str ⟨#[]⟩)))], none⟩, xm 4 10]
 (.seq (xr [xk 5 0]
 (.block 0 (.loop (.seq (xr [xm 11 5, xm 12 0, xS 13 12, xb 14 .lss 11 13]
  (
  xd 14
  .skip
  (.exit 0)))
  (
  .seq (.block 1 (xr [xm 17 0, xm 18 5, ⟨(some 19), .idxs (.t 17) (.t 18), none⟩, ⟨(some 20), .bin .eql (.t 19) (.c (.int .u8 45)), none⟩]
  (
   xd 20
   (xR [xm 21 4, ⟨(some 22), .lit 9 1 1 [(.str ⟨#[]⟩)] [(0, 1, (.c (.str ⟨#[]⟩)))], none⟩, ⟨(some 23), .app 9 1 16 (.t 21) (.t 22), none⟩, xm 4 23])
   (.reg true [xm 24 4, xm 25 4, xL 26 25, xbk 27 .sub 26 1, xm 28 4, xm 29 4, xL 30 29, xbk 31 .sub 30 1, xi 32 1 28 31, xl 33 32, xm 34 0, xm 35 5, xm 36 5, xbk 37 .add 36 1, ⟨(some 38), .slcS (.t 34) (some (.t 35)) (some (.t 37)), none⟩, xb 39 .add 33 38, xi 40 1 24 27, xs 1 40 39] [0, 0, 2, 6, 0, 0, 32, 96, 240, 496, 0, 0, 0, 4096, 15360, 32752, 65535, 131071]))))
  (xR [xm 15 5, xbk 16 .add 15 1, xm 5 16]))))))
 (.seq (xr [xk 6 0]
 (.block 2 (.loop (.seq (xr [xm 41 6, xm 42 4, xL 43 42, xb 44 .lss 41 43]
  (
  xd 44
  .skip
  (.exit 2)))
  (
  .seq (.block 3 (xr [xm 47 4, xm 48 6, xi 49 1 47 48, xl 50 49, xc1 51 168 50, xn 52 51]
  (
   xd 52
   (xr [⟨(some 2), .mv (.c .nils), none⟩, xk 3 2]
   .ret)
   .skip)))
  (xR [xm 45 6, xbk 46 .add 45 1, xm 6 46]))))))
 (xr [xm 53 4, xm 2 53, xk 3 0]
 .ret))))))
theorem ok165 : Tryz.f165.body.bind (comp Tryz.prog) = some c165 := by kernel_rfl
def c168 : IR :=
 (xr [xkb 2 false]
 (.seq (xr [xk 3 0]
 (.block 0 (.loop (.seq (xr [xm 4 3, xm 5 0, xS 6 5, xb 7 .lss 4 6]
  (
  xd 7
  .skip
  (.exit 0)))
  (
  .seq (.block 1 (xr [xm 10 0, xm 11 3, ⟨(some 12), .idxs (.t 10) (.t 11), none⟩, ⟨(some 13), .bin .lss (.t 12) (.c (.int .u8 97)), none⟩, xm 14 13, xmg 15 0 14 false, xmg 16 3 14 false, ⟨(some 17), .idxs (.t 15) (.t 16), (some ((some 14), false))⟩, ⟨(some 18), .bin .gtr (.t 17) (.c (.int .u8 122)), (some ((some 14), false))⟩, xpb 19 14 true 18, xm 20 19, xmg 21 0 20 true, xmg 22 3 20 true, ⟨(some 23), .idxs (.t 21) (.t 22), (some ((some 20), true))⟩, ⟨(some 24), .bin .lss (.t 23) (.c (.int .u8 48)), (some ((some 20), true))⟩, xmg 25 24 20 true, xmg 26 0 25 false, xmg 27 3 25 false, ⟨(some 28), .idxs (.t 26) (.t 27), (some ((some 25), false))⟩, ⟨(some 29), .bin .gtr (.t 28) (.c (.int .u8 57)), (some ((some 25), false))⟩, ⟨(some 30), .pick (.t 25) (.c (.bool true)) (.t 29), (some ((some 20), true))⟩, xp 31 20 30 false]
  (
   xd 31
   (xr [xkb 2 false]
   .ret)
   .skip)))
  (xR [xm 8 3, xbk 9 .add 8 1, xm 3 9]))))))
 (xr [xm 32 0, xS 33 32, xbk 34 .geq 33 1, xm 35 34, xmg 36 0 35 true, ⟨(some 37), .lenS (.t 36), (some ((some 35), true))⟩, xbg 38 .leq 37 20 35 true, xp 39 35 38 false, xm 2 39]
 .ret)))
theorem ok168 : Tryz.f168.body.bind (comp Tryz.prog) = some c168 := by kernel_rfl
def c169 : IR :=
 (xr [xkb 2 false]
 (.seq (xr [xk 3 0]
 (.block 0 (.loop (.seq (xr [xm 4 3, xm 5 0, xS 6 5, xb 7 .lss 4 6]
  (
  xd 7
  .skip
  (.exit 0)))
  (
  .seq (.block 1 (xr [xm 10 0, xm 11 3, ⟨(some 12), .idxs (.t 10) (.t 11), none⟩, ⟨(some 13), .bin .lss (.t 12) (.c (.int .u8 48)), none⟩, xm 14 13, xmg 15 0 14 false, xmg 16 3 14 false, ⟨(some 17), .idxs (.t 15) (.t 16), (some ((some 14), false))⟩, ⟨(some 18), .bin .gtr (.t 17) (.c (.int .u8 57)), (some ((some 14), false))⟩, xpb 19 14 true 18]
  (
   xd 19
   (xr [xkb 2 false]
   .ret)
   .skip)))
  (xR [xm 8 3, xbk 9 .add 8 1, xm 3 9]))))))
 (xr [xm 20 0, ⟨(some 21), .bin .neq (.t 20) (.c (.str ⟨#[]⟩)), none⟩, xm 2 21]
 .ret)))
theorem ok169 : Tryz.f169.body.bind (comp Tryz.prog) = some c169 := by kernel_rfl
def c176 : IR :=
 (xr [⟨(some 2), .box 126 2 (.t 0), none⟩, ⟨(some 4), .mv (.c .nils), none⟩, xk 5 0]
 (xr [xm 14 1, xc1 15 165 14, xm 13 15, xe 16 13 0, xe 17 13 1, xm 6 16, xm 7 17]
 (.seq (xr [xm 18 7, xbk 19 .neq 18 0]
 (
 xd 19
 (xr [xm 20 7, ⟨(some 4), .mv (.c .nils), none⟩, xm 5 20]
 .ret)
 .skip))
 (xr [xm 21 6, ⟨(some 22), .call 213 [(.t 21), (.c (.str ⟨#[97, 110, 100]⟩))], none⟩, xm 8 22]
 (.seq (xr [xm 23 8, xL 24 23, xbk 25 .gtr 24 4]
 (
 xd 25
 (xr [⟨(some 4), .mv (.c .nils), none⟩, xk 5 2]
 .ret)
 .skip))
 (xr [⟨(some 9), .mv (.c .nils), none⟩]
 (.seq (xr [xk 10 0]
 (.block 0 (.loop (.seq (xr [xm 26 10, xm 27 8, xL 28 27, xb 29 .lss 26 28]
  (
  xd 29
  .skip
  (.exit 0)))
  (
  .seq (.block 1 (.seq (.reg true [xg 33 2 2, xm 34 8, xm 35 10, xi 36 1 34 35, xl 37 36, xc2 38 214 33 37, xm 32 38, xe 39 32 0, xe 40 32 1, ⟨(some 11), .new 228 3 [.nils, .nils, (.str ⟨#[]⟩)], none⟩, xs 3 11 39, xm 12 40] [0, 0, 0, 6, 14, 31, 63, 127, 127, 0, 767, 2047])
  (.seq (xr [xm 41 12, xn 42 41]
  (
   xd 42
   (xr [⟨(some 4), .mv (.c .nils), none⟩, xk 5 2]
   .ret)
   .skip))
  (xR [xm 43 9, xg 44 3 11, ⟨(some 45), .lit 228 3 1 [.nils, .nils, (.str ⟨#[]⟩)] [(0, 3, (.t 44))], none⟩, ⟨(some 46), .app 228 3 64 (.t 43) (.t 45), none⟩, xm 9 46]))))
  (xR [xm 30 10, xbk 31 .add 30 1, xm 10 31]))))))
 (xr [xm 47 9, xm 4 47, xk 5 0]
 .ret))))))))
theorem ok176 : Tryz.f176.body.bind (comp Tryz.prog) = some c176 := by kernel_rfl
def c177 : IR :=
 (xr [⟨(some 2), .box 209 8 (.t 0), none⟩, ⟨(some 4), .new 209 8 [(.int .i64 0), (.int .i64 0), (.int .i64 0), (.int .i64 0), (.int .i64 0), (.int .i64 0), (.int .i64 0), (.int .i64 0)], none⟩, xkb 5 false]
 (xr [⟨(some 6), .new 209 8 [(.int .i64 0), (.int .i64 0), (.int .i64 0), (.int .i64 0), (.int .i64 0), (.int .i64 0), (.int .i64 0), (.int .i64 0)], none⟩]
 (.seq (xr [xg 8 8 2, xc1 9 215 8, xn 10 9]
 (
 xd 10
 (xr [xg 11 8 6, xs 8 4 11, xkb 5 false]
 .ret)
 .skip))
 (.seq (xr [xk 7 0]
 (.block 0 (.loop (.seq (xr [xm 12 7, xbk 13 .lss 12 8]
  (
  xd 13
  .skip
  (.exit 0)))
  (
  .seq (.block 1 (.seq (xr [xm 16 7, ⟨(some 17), .iaddrA 8 1 (.t 2) (.t 16), none⟩, xl 18 17, xbk 19 .neq 18 0, xm 20 19, xmg 21 1 20 true, xbg 22 .gtr 21 100 20 true, xmg 23 22 20 true, xmg 24 1 23 false, xbg 25 .lss 24 (-100) 23 false, ⟨(some 26), .pick (.t 23) (.c (.bool true)) (.t 25), (some ((some 20), true))⟩, xp 27 20 26 false]
  (
   xd 27
   (xr [⟨(some 28), .build [(.int .i64 0), (.int .i64 0), (.int .i64 0), (.int .i64 0), (.int .i64 0), (.int .i64 0), (.int .i64 0), (.int .i64 0)] [], none⟩, xs 8 4 28, xkb 5 false]
   .ret)
   .skip))
  (xr [xm 29 7, ⟨(some 30), .iaddrA 8 1 (.t 2) (.t 29), none⟩, xl 31 30, xbk 32 .neq 31 0]
  (
   xd 32
   (xR [xm 33 7, xm 34 7, ⟨(some 35), .iaddrA 8 1 (.t 2) (.t 34), none⟩, xl 36 35, xm 37 1, xb 38 .mul 36 37, ⟨(some 39), .iaddrA 8 1 (.t 6) (.t 33), none⟩, xs 1 39 38])
   .skip))))
  (xR [xm 14 7, xbk 15 .add 14 1, xm 7 15]))))))
 (.seq (xr [xg 40 8 6, xc1 41 215 40, xn 42 41]
 (
 xd 42
 (xr [⟨(some 43), .build [(.int .i64 0), (.int .i64 0), (.int .i64 0), (.int .i64 0), (.int .i64 0), (.int .i64 0), (.int .i64 0), (.int .i64 0)] [], none⟩, xs 8 4 43, xkb 5 false]
 .ret)
 .skip))
 (xr [xg 44 8 6, xs 8 4 44, xkb 5 true]
 .ret))))))
theorem ok177 : Tryz.f177.body.bind (comp Tryz.prog) = some c177 := by kernel_rfl
def c178 : IR :=
 (xr [⟨(some 1), .box 209 8 (.t 0), none⟩, ⟨(some 2), .new 209 8 [(.int .i64 0), (.int .i64 0), (.int .i64 0), (.int .i64 0), (.int .i64 0), (.int .i64 0), (.int .i64 0), (.int .i64 0)], none⟩]
 (xr [xg 6 8 1, ⟨(some 7), .call 177 [(.t 6), (.c (.int .i64 (-1)))], none⟩, xm 5 7, xe 8 5 0, xe 9 5 1, ⟨(some 3), .new 209 8 [(.int .i64 0), (.int .i64 0), (.int .i64 0), (.int .i64 0), (.int .i64 0), (.int .i64 0), (.int .i64 0), (.int .i64 0)], none⟩, xs 8 3 8, xm 4 9]
 (xr [xg 10 8 3, xs 8 2 10]
 .ret)))
theorem ok178 : Tryz.f178.body.bind (comp Tryz.prog) = some c178 := by kernel_rfl
def c179 : IR :=
 (xr [⟨(some 2), .box 209 8 (.t 0), none⟩, ⟨(some 3), .box 209 8 (.t 1), none⟩, ⟨(some 4), .new 209 8 [(.int .i64 0), (.int .i64 0), (.int .i64 0), (.int .i64 0), (.int .i64 0), (.int .i64 0), (.int .i64 0), (.int .i64 0)], none⟩, xkb 5 false]
 (xr [⟨(some 6), .new 209 8 [(.int .i64 0), (.int .i64 0), (.int .i64 0), (.int .i64 0), (.int .i64 0), (.int .i64 0), (.int .i64 0), (.int .i64 0)], none⟩]
 (.seq (xr [xg 8 8 2, xc1 9 215 8, xn 10 9, xm 11 10, ⟨(some 12), .load true 8 (.t 3), (some ((some 11), false))⟩, ⟨(some 13), .call 215 [(.t 12)], (some ((some 11), false))⟩, xng 14 13 11 false, xpb 15 11 true 14]
 (
 xd 15
 (xr [xg 16 8 6, xs 8 4 16, xkb 5 false]
 .ret)
 .skip))
 (.seq (xr [xk 7 0]
 (.block 0 (.loop (.seq (xr [xm 17 7, xbk 18 .lss 17 8]
  (
  xd 18
  .skip
  (.exit 0)))
  (.seq (.block 1 (.reg true [xm 21 7, xm 22 7, ⟨(some 23), .iaddrA 8 1 (.t 2) (.t 22), none⟩, xl 24 23, xm 25 7, ⟨(some 26), .iaddrA 8 1 (.t 3) (.t 25), none⟩, xl 27 26, xb 28 .add 24 27, ⟨(some 29), .iaddrA 8 1 (.t 6) (.t 21), none⟩, xs 1 29 28] [0, 0, 2, 6, 0, 16, 48, 126, 255, 511]))
  (xR [xm 19 7, xbk 20 .add 19 1, xm 7 20]))))))
 (.seq (xr [xg 30 8 6, xc1 31 215 30, xn 32 31]
 (
 xd 32
 (xr [⟨(some 33), .build [(.int .i64 0), (.int .i64 0), (.int .i64 0), (.int .i64 0), (.int .i64 0), (.int .i64 0), (.int .i64 0), (.int .i64 0)] [], none⟩, xs 8 4 33, xkb 5 false]
 .ret)
 .skip))
 (xr [xg 34 8 6, xs 8 4 34, xkb 5 true]
 .ret))))))
theorem ok179 : Tryz.f179.body.bind (comp Tryz.prog) = some c179 := by kernel_rfl
def c180 : IR :=
 (xr [⟨(some 3), .box 277 3 (.t 1), none⟩, ⟨(some 4), .new 237 15 [(.int .i64 0), (.int .i64 0), (.int .i64 0), (.int .i64 0), (.int .i64 0), (.int .i64 0), (.int .i64 0), (.int .i64 0), (.bool false), .nils, .nils, (.bool false), .nils, .nils, (.bool false)], none⟩, xk 5 0]
 (xr [xm 14 0, xf 15 1 3, xl 16 15, xc2 17 138 14 16, xm 13 17, xe 18 13 0, xe 19 13 1, ⟨(some 6), .new 218 21 [(.str ⟨#[]⟩), (.str ⟨#[]⟩), (.int .i64 0), (.bool false), .nils, .nils, (.bool false), .nils, .nils, (.bool false), (.int .i64 0), (.int .i64 0), (.int .i64 0), (.int .i64 0), (.int .i64 0), (.int .i64 0), (.int .i64 0), (.int .i64 0), (.bool false), .nils, .nils], none⟩, xs 21 6 18, xm 7 19]
 (xr [⟨(some 20), .call 130 [(.c (.int .i64 1))], none⟩, ⟨(some 8), .new 215 3 [(.bool false), .nils, .nils], none⟩, xs 3 8 20]
 (xr [xkb 9 true]
 (.seq (xr [xf 21 0 3, xl 22 21, ⟨(some 23), .bin .neq (.t 22) (.c (.str ⟨#[]⟩)), none⟩]
 (
 xd 23
 (xR [xm 25 0, xf 26 0 3, xl 27 26, xc2 28 216 25 27, xm 24 28, xe 29 24 0, xe 30 24 1, xs 3 8 29, xm 9 30])
 .skip))
 (.seq (xr [xm 31 7, xn 32 31, xm 33 32, xmg 34 9 33 false, xng 35 34 33 false, xpb 36 33 true 35]
 (
 xd 36
 (xr [⟨(some 37), .build [(.int .i64 0), (.int .i64 0), (.int .i64 0), (.int .i64 0), (.int .i64 0), (.int .i64 0), (.int .i64 0), (.int .i64 0), (.bool false), .nils, .nils, (.bool false), .nils, .nils, (.bool false)] [], none⟩, xs 15 4 37, xk 5 3]
 .ret)
 .skip))
 (.seq (xr [xf 38 2 3, xl 39 38, xbk 40 .lss 39 1, xm 41 40, xfg 42 2 3 41 false, xlg 43 42 41 false, xbg 44 .gtr 43 15 41 false, xpb 45 41 true 44]
 (
 xd 45
 (xr [⟨(some 46), .build [(.int .i64 0), (.int .i64 0), (.int .i64 0), (.int .i64 0), (.int .i64 0), (.int .i64 0), (.int .i64 0), (.int .i64 0), (.bool false), .nils, .nils, (.bool false), .nils, .nils, (.bool false)] [], none⟩, xs 15 4 46, xk 5 1]
 .ret)
 .skip))
 (.seq (.reg true [xf 47 10 6, xg 48 8 47, xf 49 18 6, xg 50 3 49, ⟨(some 51), .call 130 [(.c (.int .i64 0))], none⟩, ⟨(some 52), .build [(.int .i64 0), (.int .i64 0), (.int .i64 0), (.int .i64 0), (.int .i64 0), (.int .i64 0), (.int .i64 0), (.int .i64 0), (.bool false), .nils, .nils, (.bool false), .nils, .nils, (.bool false)] [(0, 8, (.t 48)), (8, 3, (.t 50)), (11, 3, (.t 51))], none⟩, ⟨(some 10), .new 237 15 [(.int .i64 0), (.int .i64 0), (.int .i64 0), (.int .i64 0), (.int .i64 0), (.int .i64 0), (.int .i64 0), (.int .i64 0), (.bool false), .nils, .nils, (.bool false), .nils, .nils, (.bool false)], none⟩, xs 15 10 52] [0, 1, 0, 4, 0, 31, 0, 127])
 (.seq (xr [xf 53 9 6, xl 54 53]
 (
 xd 54
 (.seq (xr [xf 55 0 3, xl 56 55, ⟨(some 57), .bin .neq (.t 56) (.c (.str ⟨#[]⟩)), none⟩, xm 58 57, xfg 59 2 3 58 false, xlg 60 59 58 false, xbg 61 .neq 60 1 58 false, xpb 62 58 true 61]
 (
  xd 62
  (xr [⟨(some 63), .build [(.int .i64 0), (.int .i64 0), (.int .i64 0), (.int .i64 0), (.int .i64 0), (.int .i64 0), (.int .i64 0), (.int .i64 0), (.bool false), .nils, .nils, (.bool false), .nils, .nils, (.bool false)] [], none⟩, xs 15 4 63, xk 5 6]
  .ret)
  .skip))
 (xR [xf 64 6 6, xg 65 3 64, xf 66 11 10, xs 3 66 65, xf 67 14 10, ⟨none, .store 1 (.t 67) (.c (.bool true)), none⟩]))
 .skip))
 (xr [xf 68 8 10, xg 69 3 68, xg 70 3 8, xc2 71 142 69 70, xf 72 8 10, xs 3 72 71]
 (xr [xf 74 8 10, xg 75 3 74, xf 76 2 3, xl 77 76, xc2 78 134 75 77, xm 73 78, xe 79 73 0, xe 80 73 1, xf 81 8 10, xs 3 81 79]
 (xr [xf 83 0 10, xg 84 8 83, xf 85 2 3, xl 86 85, xc2 87 177 84 86, xm 82 87, xe 88 82 0, xe 89 82 1, ⟨(some 11), .new 209 8 [(.int .i64 0), (.int .i64 0), (.int .i64 0), (.int .i64 0), (.int .i64 0), (.int .i64 0), (.int .i64 0), (.int .i64 0)], none⟩, xs 8 11 88, xm 12 89]
 (.seq (xr [xm 90 12, xn 91 90]
 (
 xd 91
 (xr [⟨(some 92), .build [(.int .i64 0), (.int .i64 0), (.int .i64 0), (.int .i64 0), (.int .i64 0), (.int .i64 0), (.int .i64 0), (.int .i64 0), (.bool false), .nils, .nils, (.bool false), .nils, .nils, (.bool false)] [], none⟩, xs 15 4 92, xk 5 5]
 .ret)
 .skip))
 (xr [xg 93 8 11, xf 94 0 10, xs 8 94 93]
 (xr [xg 95 15 10, xs 15 4 95, xk 5 0]
 .ret)))))))))))))))
theorem ok180 : Tryz.f180.body.bind (comp Tryz.prog) = some c180 := by kernel_rfl
def c213 : IR :=
 (xr [⟨(some 4), .mv (.c .nils), none⟩]
 (xr [⟨(some 7), .lit 86 1 1 [.nils] [(0, 1, (.c .nils))], none⟩, xm 5 7]
 (.seq (xr [xk 6 0]
 (.block 0 (.loop (.seq (xr [xm 8 6, xm 9 0, xL 10 9, xb 11 .lss 8 10]
  (
  xd 11
  .skip
  (.exit 0)))
  (
  .seq (.block 1 (xr [xm 14 0, xm 15 6, xi 16 1 14 15, xl 17 16, xm 18 1, xb 19 .eql 17 18]
  (
   xd 19
   (xR [xm 20 5, ⟨(some 21), .lit 86 1 1 [.nils] [(0, 1, (.c .nils))], none⟩, ⟨(some 22), .app 86 1 24 (.t 20) (.t 21), none⟩, xm 5 22])
   (.reg true [xm 23 5, xm 24 5, xL 25 24, xbk 26 .sub 25 1, ⟨(some 27), .lit 9 1 0 [] [], none⟩, xm 28 5, xm 29 5, xL 30 29, xbk 31 .sub 30 1, xi 32 1 28 31, xl 33 32, ⟨(some 34), .app 9 1 16 (.t 27) (.t 33), none⟩, xm 35 0, xm 36 6, xi 37 1 35 36, xl 38 37, ⟨(some 39), .lit 9 1 1 [(.str ⟨#[]⟩)] [(0, 1, (.t 38))], none⟩, ⟨(some 40), .app 9 1 16 (.t 34) (.t 39), none⟩, xi 41 1 23 26, xs 1 41 40] [0, 0, 2, 6, 0, 0, 0, 64, 192, 480, 992, 2032, 0, 0, 12288, 28672, 61440, 131056, 262143, 524287]))))
  (xR [xm 12 6, xbk 13 .add 12 1, xm 6 13]))))))
 (xr [xm 42 5, xm 4 42]
 .ret))))
theorem ok213 : Tryz.f213.body.bind (comp Tryz.prog) = some c213 := by kernel_rfl
def c214 : IR :=
 (xr [⟨(some 2), .box 126 2 (.t 0), none⟩, ⟨(some 4), .new 228 3 [.nils, .nils, (.str ⟨#[]⟩)], none⟩, xkb 5 false]
 (xr [xm 11 1, ⟨(some 12), .call 213 [(.t 11), (.c (.str ⟨#[112, 101, 114]⟩))], none⟩, xm 6 12]
 (xr [⟨(some 13), .build [.nils, .nils, (.str ⟨#[]⟩)] [(2, 1, (.c (.str ⟨#[49]⟩)))], none⟩, ⟨(some 7), .new 228 3 [.nils, .nils, (.str ⟨#[]⟩)], none⟩, xs 3 7 13]
 (.seq (xr [xm 14 6, xL 15 14, xbk 16 .gtr 15 2]
 (
 xd 16
 (xr [⟨(some 17), .build [.nils, .nils, (.str ⟨#[]⟩)] [], none⟩, xs 3 4 17, xkb 5 false]
 .ret)
 .skip))
 (xr [xkb 8 true]
 (.seq (.reg true [xg 19 2 2, xm 20 6, ⟨(some 21), .iaddrS 1 (.t 20) (.c (.int .i64 0)), none⟩, xl 22 21, xc2 23 237 19 22, xm 18 23, xe 24 18 0, xe 25 18 1, xf 26 0 7, xs 1 26 24, xm 8 25] [0, 0, 2, 6, 15, 31, 63, 63, 127, 383, 1023])
 (.seq (xr [xm 27 6, xL 28 27, xbk 29 .eql 28 1]
 (
 xd 29
 (.seq (.reg true [xg 30 3 7, xm 31 8, xm 32 31, xfg 33 0 7 32 true, xlg 34 33 32 true, ⟨(some 35), .lenL (.t 34), (some ((some 32), true))⟩, xbg 36 .gtr 35 0 32 true, xp 37 32 36 false, xm 38 37, xfg 39 0 7 38 true, xlg 40 39 38 true, ⟨(some 41), .lenL (.t 40), (some ((some 38), true))⟩, xbg 42 .leq 41 8 38 true, xp 43 38 42 false, xs 3 4 30, xm 5 43] [0, 0, 2, 6, 14, 30, 62, 126, 254, 510, 1022, 2046, 4094, 8190, 511, 32767])
 .ret)
 .skip))
 (xr [xm 44 6, ⟨(some 45), .iaddrS 1 (.t 44) (.c (.int .i64 1)), none⟩, xl 46 45, xm 9 46]
 (.seq (xr [xm 47 9, xL 48 47, xbk 49 .gtr 48 0, xm 50 49, xmg 51 9 50 true, ⟨(some 52), .iaddrS 1 (.t 51) (.c (.int .i64 0)), (some ((some 50), true))⟩, xlg 53 52 50 true, ⟨(some 54), .call 238 [(.t 53)], (some ((some 50), true))⟩, xp 55 50 54 false, xm 56 55, xmg 57 9 56 true, ⟨(some 58), .iaddrS 1 (.t 57) (.c (.int .i64 0)), (some ((some 56), true))⟩, xlg 59 58 56 true, ⟨(some 60), .bin .neq (.t 59) (.c (.str ⟨#[49]⟩)), (some ((some 56), true))⟩, xp 61 56 60 false]
 (
 xd 61
 (.reg true [xm 62 9, ⟨(some 63), .iaddrS 1 (.t 62) (.c (.int .i64 0)), none⟩, xl 64 63, xm 65 9, ⟨(some 66), .slcL 1 (.t 65) (some (.c (.int .i64 1))) none, none⟩, xf 67 2 7, xs 1 67 64, xm 9 66] [0, 1, 3, 0, 8, 7, 39, 127])
 (xr [xm 68 9, xL 69 68, xbk 70 .eql 69 0]
 (
  xd 70
  (xr [⟨(some 71), .build [.nils, .nils, (.str ⟨#[]⟩)] [], none⟩, xs 3 4 71, xkb 5 false]
  .ret)
  .skip))))
 (xr [xkb 10 true]
 (xr [xg 73 2 2, xm 74 9, xc2 75 237 73 74, xm 72 75, xe 76 72 0, xe 77 72 1, xf 78 1 7, xs 1 78 76, xm 10 77]
 (.seq (.reg true [xg 79 3 7, xm 80 8, xm 81 80, xmg 82 10 81 true, xp 83 81 82 false, xm 84 83, xfg 85 0 7 84 true, xlg 86 85 84 true, ⟨(some 87), .lenL (.t 86), (some ((some 84), true))⟩, xfg 88 1 7 84 true, xlg 89 88 84 true, ⟨(some 90), .lenL (.t 89), (some ((some 84), true))⟩, ⟨(some 91), .bin .add (.t 87) (.t 90), (some ((some 84), true))⟩, xbg 92 .leq 91 8 84 true, xp 93 84 92 false, xs 3 4 79, xm 5 93] [0, 0, 2, 6, 14, 30, 62, 126, 254, 62, 574, 1598, 4094, 8190, 16382, 63, 65535])
 .ret))))))))))))
theorem ok214 : Tryz.f214.body.bind (comp Tryz.prog) = some c214 := by kernel_rfl
def c215 : IR :=
 (xr [⟨(some 1), .box 209 8 (.t 0), none⟩, xkb 2 false]
 (.seq (xr [xk 3 0]
 (.block 0 (.loop (.seq (xr [xm 4 3, xbk 5 .lss 4 8]
  (
  xd 5
  .skip
  (.exit 0)))
  (
  .seq (.block 1 (xr [xm 8 3, ⟨(some 9), .iaddrA 8 1 (.t 1) (.t 8), none⟩, xl 10 9, xbk 11 .lss 10 (-100), xm 12 11, xmg 13 3 12 false, ⟨(some 14), .iaddrA 8 1 (.t 1) (.t 13), (some ((some 12), false))⟩, xlg 15 14 12 false, xbg 16 .gtr 15 100 12 false, xpb 17 12 true 16]
  (
   xd 17
   (xr [xkb 2 false]
   .ret)
   .skip)))
  (xR [xm 6 3, xbk 7 .add 6 1, xm 3 7]))))))
 (xr [xkb 2 true]
 .ret)))
theorem ok215 : Tryz.f215.body.bind (comp Tryz.prog) = some c215 := by kernel_rfl
def c216 : IR :=
 (xr [⟨(some 4), .new 215 3 [(.bool false), .nils, .nils], none⟩, xkb 5 false]
 (.seq (xr [xk 6 0]
 (.block 0 (.loop (.seq (xr [xm 7 6, xm 8 0, ⟨(some 9), .nilck (.t 8), none⟩, xf 10 3 9, xl 11 10, xL 12 11, xb 13 .lss 7 12]
  (
  xd 13
  .skip
  (.exit 0)))
  (
  .seq (.block 1 (xr [xm 16 0, ⟨(some 17), .nilck (.t 16), none⟩, xf 18 0 17, xf 19 1 18, xl 20 19, xm 21 6, xi 22 1 20 21, xl 23 22, xm 24 1, xb 25 .eql 23 24]
  (
   xd 25
   (xr [xm 26 0, ⟨(some 27), .nilck (.t 26), none⟩, xf 28 3 27, xl 29 28, xm 30 6, xi 31 3 29 30, xg 32 3 31, xs 3 4 32, xkb 5 true]
   .ret)
   .skip)))
  (xR [xm 14 6, xbk 15 .add 14 1, xm 6 15]))))))
 (xr [⟨(some 33), .call 130 [(.c (.int .i64 0))], none⟩, xs 3 4 33, xkb 5 false]
 .ret)))
theorem ok216 : Tryz.f216.body.bind (comp Tryz.prog) = some c216 := by kernel_rfl
def c237 : IR :=
 (xr [⟨(some 2), .box 126 2 (.t 0), none⟩, ⟨(some 4), .mv (.c .nils), none⟩, xkb 5 false]
 (xr [⟨(some 6), .mv (.c .nils), none⟩]
 (.seq (.block 0 (.loop (.seq (xr [xm 10 1, xL 11 10, xbk 12 .gtr 11 0]
  (
  xd 12
  .skip
  (.exit 0)))
  (
  .block 1 (xr [xg 14 2 2, xm 15 1, xc2 16 247 14 15, xm 13 16, xe 17 13 0, xe 18 13 1, xe 19 13 2, ⟨(some 7), .new 277 3 [(.str ⟨#[]⟩), (.str ⟨#[]⟩), (.int .i64 0)], none⟩, xs 3 7 17, xm 8 18, xm 9 19]
  (.seq (xr [xm 20 9, xn 21 20]
  (
   xd 21
   (xr [⟨(some 4), .mv (.c .nils), none⟩, xkb 5 false]
   .ret)
   .skip))
  (xr [xm 22 6, xg 23 3 7, ⟨(some 24), .lit 277 3 1 [(.str ⟨#[]⟩), (.str ⟨#[]⟩), (.int .i64 0)] [(0, 3, (.t 23))], none⟩, ⟨(some 25), .app 277 3 40 (.t 22) (.t 24), none⟩, xm 6 25]
  (xR [xm 26 1, xm 27 8, ⟨(some 28), .slcL 1 (.t 26) (some (.t 27)) none, none⟩, xm 1 28]))))))))
 (xr [xm 29 6, xm 4 29, xkb 5 true]
 .ret))))
theorem ok237 : Tryz.f237.body.bind (comp Tryz.prog) = some c237 := by kernel_rfl
def c238 : IR :=
 (xr [xkb 2 false]
 (xr [xm 3 0, xc1 4 169 3, xm 5 4, xmg 6 0 5 true, ⟨(some 7), .lenS (.t 6), (some ((some 5), true))⟩, xbg 8 .leq 7 20 5 true, xp 9 5 8 false, xm 10 9, xmg 11 0 10 true, ⟨(some 12), .idxs (.t 11) (.c (.int .i64 0)), (some ((some 10), true))⟩, ⟨(some 13), .bin .neq (.t 12) (.c (.int .u8 48)), (some ((some 10), true))⟩, xp 14 10 13 false, xm 2 14]
 .ret))
theorem ok238 : Tryz.f238.body.bind (comp Tryz.prog) = some c238 := by kernel_rfl
def c247 : IR :=
 (xr [⟨(some 2), .box 126 2 (.t 0), none⟩, ⟨(some 4), .new 277 3 [(.str ⟨#[]⟩), (.str ⟨#[]⟩), (.int .i64 0)], none⟩, xk 5 0, xkb 6 false]
 (.seq (xr [xm 14 1, xL 15 14, xbk 16 .eql 15 0]
 (
 xd 16
 (xr [⟨(some 17), .build [(.str ⟨#[]⟩), (.str ⟨#[]⟩), (.int .i64 0)] [], none⟩, xs 3 4 17, xk 5 0, xkb 6 false]
 .ret)
 .skip))
 (xr [⟨(some 18), .build [(.str ⟨#[]⟩), (.str ⟨#[]⟩), (.int .i64 0)] [(2, 1, (.c (.int .i64 1)))], none⟩, ⟨(some 7), .new 277 3 [(.str ⟨#[]⟩), (.str ⟨#[]⟩), (.int .i64 0)], none⟩, xs 3 7 18]
 (xr [xk 8 0]
 (xr [xm 19 1, ⟨(some 20), .iaddrS 1 (.t 19) (.c (.int .i64 0)), none⟩, xl 21 20, xc1 22 251 21, xm 9 22]
 (.seq (xr [xm 23 9, xbk 24 .gtr 23 0]
 (
 xd 24
 (xR [xm 25 9, xf 26 2 7, xs 1 26 25, xk 8 1])
 .skip))
 (.seq (xr [xm 27 8, xm 28 1, xL 29 28, xb 30 .eql 27 29]
 (
 xd 30
 (xr [⟨(some 31), .build [(.str ⟨#[]⟩), (.str ⟨#[]⟩), (.int .i64 0)] [], none⟩, xs 3 4 31, xk 5 0, xkb 6 false]
 .ret)
 .skip))
 (xr [xm 32 1, xm 33 8, xi 34 1 32 33, xl 35 34, xm 10 35]
 (.seq (xr [xf 36 0 2, xl 37 36, xm 38 10, xc2 39 132 37 38]
 (
 xd 39
 (xr [xm 40 10, xf 41 1 7, xs 1 41 40]
 (xr [xg 42 3 7, xm 43 8, xbk 44 .add 43 1, xs 3 4 42, xm 5 44, xkb 6 true]
 .ret))
 .skip))
 (xr [xk 11 (-1)]
 (.seq (xr [xk 12 0]
 (.block 0 (.loop (.seq (xr [xm 45 12, xf 46 1 2, xl 47 46, xL 48 47, xb 49 .lss 45 48]
  (
  xd 49
  .skip
  (.exit 0)))
  (
  .seq (.block 1 (xr [xf 52 1 2, xl 53 52, xm 54 12, xi 55 1 53 54, xl 56 55, xS 57 56, xm 13 57]
  (.seq (.reg true [xm 58 13, xm 59 10, xS 60 59, xb 61 .leq 58 60, xm 62 61, xmg 63 10 62 true, xmg 64 13 62 true, ⟨(some 65), .slcS (.t 63) none (some (.t 64)), (some ((some 62), true))⟩, xfg 66 1 2 62 true, xlg 67 66 62 true, xmg 68 12 62 true, ⟨(some 69), .iaddrS 1 (.t 67) (.t 68), (some ((some 62), true))⟩, xlg 70 69 62 true, ⟨(some 71), .bin .eql (.t 65) (.t 70), (some ((some 62), true))⟩, xp 72 62 71 false, xm 73 72, xfg 74 0 2 73 true, xlg 75 74 73 true, xmg 76 10 73 true, xmg 77 13 73 true, ⟨(some 78), .slcS (.t 76) (some (.t 77)) none, (some ((some 73), true))⟩, ⟨(some 79), .call 132 [(.t 75), (.t 78)], (some ((some 73), true))⟩, xp 80 73 79 false, xm 81 80, xmg 82 11 81 true, xbg 83 .lss 82 0 81 true, xmg 84 83 81 true, xmg 85 13 84 false, xfg 86 1 2 84 false, xlg 87 86 84 false, xmg 88 11 84 false, ⟨(some 89), .iaddrS 1 (.t 87) (.t 88), (some ((some 84), false))⟩, xlg 90 89 84 false, ⟨(some 91), .lenS (.t 90), (some ((some 84), false))⟩, ⟨(some 92), .bin .gtr (.t 85) (.t 91), (some ((some 84), false))⟩, ⟨(some 93), .pick (.t 84) (.c (.bool true)) (.t 92), (some ((some 81), true))⟩, xp 94 81 93 false] [0, 0, 2, 7, 15, 31, 31, 127, 31, 287, 31, 1823, 3871, 8191, 16383, 32767, 65535, 131071, 65535, 65535, 851967, 2097151, 4194303, 8388607, 16777215, 33554431, 67108863, 134217727, 134217727, 402653183, 134217727, 2013265919, 4160749567, 8455716863, 17179869183, 34359738367, 68719476735])
  (
   xd 94
   (xR [xm 95 12, xm 11 95])
   .skip))))
  (xR [xm 50 12, xbk 51 .add 50 1, xm 12 51]))))))
 (.seq (xr [xm 96 11, xbk 97 .lss 96 0]
 (
 xd 97
 (xr [⟨(some 98), .build [(.str ⟨#[]⟩), (.str ⟨#[]⟩), (.int .i64 0)] [], none⟩, xs 3 4 98, xk 5 0, xkb 6 false]
 .ret)
 .skip))
 (.seq (.reg true [xf 99 1 2, xl 100 99, xm 101 11, xi 102 1 100 101, xl 103 102, xm 104 10, xf 105 1 2, xl 106 105, xm 107 11, xi 108 1 106 107, xl 109 108, xS 110 109, ⟨(some 111), .slcS (.t 104) (some (.t 110)) none, none⟩, xf 112 0 7, xs 1 112 103, xf 113 1 7, xs 1 113 111] [0, 1, 0, 7, 15, 0, 0, 64, 0, 448, 960, 1984, 4064, 31, 8223, 32767, 65535])
 (xr [xg 114 3 7, xm 115 8, xbk 116 .add 115 1, xs 3 4 114, xm 5 116, xkb 6 true]
 .ret))))))))))))))
theorem ok247 : Tryz.f247.body.bind (comp Tryz.prog) = some c247 := by kernel_rfl
def c251 : IR :=
 (xr [xk 2 0]
 (.seq (xr [xm 4 0, ⟨(some 5), .bin .eql (.t 4) (.c (.str ⟨#[115, 113, 117, 97, 114, 101]⟩)), none⟩]
 (
 xd 5
 (xr [xk 2 2]
 .ret)
 .skip))
 (.seq (xr [xm 6 0, ⟨(some 7), .bin .eql (.t 6) (.c (.str ⟨#[99, 117, 98, 105, 99]⟩)), none⟩]
 (
 xd 7
 (xr [xk 2 3]
 .ret)
 .skip))
 (.seq (xr [xk 3 4]
 (.block 0 (.loop (.seq (xr [xm 8 3, xbk 9 .leq 8 15]
  (
  xd 9
  .skip
  (.exit 0)))
  (
  .seq (.block 1 (xr [xm 12 0, xm 13 3, xc1 14 253 13, ⟨(some 15), .bin .add (.c (.str ⟨#[112, 111, 119]⟩)) (.t 14), none⟩, xb 16 .eql 12 15]
  (
   xd 16
   (xr [xm 17 3, xm 2 17]
   .ret)
   .skip)))
  (xR [xm 10 3, xbk 11 .add 10 1, xm 3 11]))))))
 (xr [xk 2 0]
 .ret)))))
theorem ok251 : Tryz.f251.body.bind (comp Tryz.prog) = some c251 := by kernel_rfl
def c253 : IR :=
 (xr [⟨(some 2), .mv (.c (.str ⟨#[]⟩)), none⟩]
 (xr [xm 3 0, ⟨(some 4), .conv .u64 (.t 3), none⟩, xc1 5 167 4, xc1 6 143 5, xm 2 6]
 .ret))
theorem ok253 : Tryz.f253.body.bind (comp Tryz.prog) = some c253 := by kernel_rfl
end Go.Proofs.YtgdbkigaaooifaaGreatDoorK.NatIr
