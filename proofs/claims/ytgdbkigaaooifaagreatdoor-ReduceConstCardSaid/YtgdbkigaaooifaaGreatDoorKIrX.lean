/-
 The compiled bodies, printed: IrX.
-/
import Derived.Test.YtgdbkigaaooifaaGreatDoorKSh
import Derived.Test.YtgdbkigaaooifaaGreatDoorProg
set_option linter.all false
set_option maxHeartbeats 4000000
namespace Go.Proofs.YtgdbkigaaooifaaGreatDoorK.NatIr
open AI Go.Proofs
def c10 : IR :=
 (xr [⟨(some 3), .box 43 3 (.t 1), none⟩, ⟨(some 4), .new 38 15 [(.int .i64 0), (.int .i64 0), (.int .i64 0), (.int .i64 0), (.int .i64 0), (.int .i64 0), (.int .i64 0), (.int .i64 0), (.bool false), .nils, .nils, (.bool false), .nils, .nils, (.bool false)], none⟩, xk 5 0]
 (xr [xm 15 0, xf 16 1 3, xl 17 16, xc2 18 26 15 17, xm 14 18, xe 19 14 0, xe 20 14 1, ⟨(some 6), .new 79 10 [(.str ⟨#[]⟩), (.str ⟨#[]⟩), (.int .i64 0), (.bool false), .nils, .nils, (.bool false), .nils, .nils, (.bool false)], none⟩, xs 10 6 19, xm 7 20]
 (xr [xm 22 0, xf 23 1 3, xl 24 23, xc2 25 27 22 24, xm 21 25, xe 26 21 0, xe 27 21 1, xe 28 21 2, ⟨(some 8), .new 29 8 [(.int .i64 0), (.int .i64 0), (.int .i64 0), (.int .i64 0), (.int .i64 0), (.int .i64 0), (.int .i64 0), (.int .i64 0)], none⟩, ⟨(some 9), .new 36 3 [(.bool false), .nils, .nils], none⟩, xs 8 8 26, xs 3 9 27, xm 10 28]
 (.seq (xr [xf 29 0 3, xl 30 29, ⟨(some 31), .bin .neq (.t 30) (.c (.str ⟨#[]⟩)), none⟩]
 (
 xd 31
 (xr [xm 33 0, xf 34 0 3, xl 35 34, xc2 36 11 33 35, xm 32 36, xe 37 32 0, xe 38 32 1, ⟨(some 11), .new 36 3 [(.bool false), .nils, .nils], none⟩, xs 3 11 37, xm 12 38]
 (xr [xm 39 7, xm 40 39, xmg 41 12 40 true, xp 42 40 41 false, xm 7 42]
 (xR [xg 43 3 9, xg 44 3 11, xc2 45 14 43 44, xs 3 9 45])))
 .skip))
 (
 .seq (.block 0 (xr [xm 47 7, xn 48 47, xm 46 48]
 (
  xd 46
  (xr [⟨(some 49), .build [(.int .i64 0), (.int .i64 0), (.int .i64 0), (.int .i64 0), (.int .i64 0), (.int .i64 0), (.int .i64 0), (.int .i64 0), (.bool false), .nils, .nils, (.bool false), .nils, .nils, (.bool false)] [], none⟩, xs 15 4 49, xk 5 3]
  .ret)
  (xr [xf 51 2 3, xl 52 51, xbk 53 .lss 52 1, xm 54 53, xfg 55 2 3 54 false, xlg 56 55 54 false, xbg 57 .gtr 56 15 54 false, xpb 58 54 true 57, xm 50 58]
  (
  xd 50
  (xr [⟨(some 59), .build [(.int .i64 0), (.int .i64 0), (.int .i64 0), (.int .i64 0), (.int .i64 0), (.int .i64 0), (.int .i64 0), (.int .i64 0), (.bool false), .nils, .nils, (.bool false), .nils, .nils, (.bool false)] [], none⟩, xs 15 4 59, xk 5 1]
  .ret)
  (xr [xf 61 9 6, xl 62 61, xm 63 62, xfg 64 0 3 63 true, xlg 65 64 63 true, ⟨(some 66), .bin .neq (.t 65) (.c (.str ⟨#[]⟩)), (some ((some 63), true))⟩, xmg 67 66 63 true, xfg 68 2 3 67 false, xlg 69 68 67 false, xbg 70 .neq 69 1 67 false, ⟨(some 71), .pick (.t 67) (.c (.bool true)) (.t 70), (some ((some 63), true))⟩, xp 72 63 71 false, xm 60 72]
  (
   xd 60
   (xr [⟨(some 73), .build [(.int .i64 0), (.int .i64 0), (.int .i64 0), (.int .i64 0), (.int .i64 0), (.int .i64 0), (.int .i64 0), (.int .i64 0), (.bool false), .nils, .nils, (.bool false), .nils, .nils, (.bool false)] [], none⟩, xs 15 4 73, xk 5 6]
   .ret)
   .skip)))))))
 (xr [xg 75 8 8, xf 76 2 3, xl 77 76, xc2 78 28 75 77, xm 74 78, xe 79 74 0, xe 80 74 1, xs 8 8 79, xm 13 80]
 (.seq (xr [xm 81 13, xn 82 81]
 (
 xd 82
 (xr [⟨(some 83), .build [(.int .i64 0), (.int .i64 0), (.int .i64 0), (.int .i64 0), (.int .i64 0), (.int .i64 0), (.int .i64 0), (.int .i64 0), (.bool false), .nils, .nils, (.bool false), .nils, .nils, (.bool false)] [], none⟩, xs 15 4 83, xk 5 5]
 .ret)
 .skip))
 (xr [xg 85 3 9, xf 86 2 3, xl 87 86, xc2 88 12 85 87, xm 84 88, xe 89 84 0, xe 90 84 1, xs 3 9 89]
 (xr [xg 91 8 8, xg 92 3 9, xf 93 6 6, xg 94 3 93, xf 95 9 6, xl 96 95, ⟨(some 97), .build [(.int .i64 0), (.int .i64 0), (.int .i64 0), (.int .i64 0), (.int .i64 0), (.int .i64 0), (.int .i64 0), (.int .i64 0), (.bool false), .nils, .nils, (.bool false), .nils, .nils, (.bool false)] [(0, 8, (.t 91)), (8, 3, (.t 92)), (11, 3, (.t 94)), (14, 1, (.t 96))], none⟩, xs 15 4 97, xk 5 0]
 .ret)))))))))
theorem ok10 : Tryz.f10.body.bind (comp Tryz.prog) = some c10 := by kernel_rfl
def c16 : IR :=
 (xr [⟨(some 3), .box 55 3 (.t 1), none⟩, ⟨(some 4), .new 38 15 [(.int .i64 0), (.int .i64 0), (.int .i64 0), (.int .i64 0), (.int .i64 0), (.int .i64 0), (.int .i64 0), (.int .i64 0), (.bool false), .nils, .nils, (.bool false), .nils, .nils, (.bool false)], none⟩, xk 5 0]
 (.seq (.reg true [xf 16 0 3, xl 17 16, xL 18 17, xbk 19 .eql 18 1, xm 20 19, xfg 21 1 3 20 true, xlg 22 21 20 true, ⟨(some 23), .lenL (.t 22), (some ((some 20), true))⟩, xbg 24 .eql 23 0 20 true, xp 25 20 24 false, xm 26 25, xfg 27 2 3 26 true, ⟨(some 28), .load true 1 (.t 27), (some ((some 26), true))⟩, ⟨(some 29), .call 15 [(.c (.int .u64 1))], (some ((some 26), true))⟩, ⟨(some 30), .call 39 [(.t 28), (.t 29)], (some ((some 26), true))⟩, xbg 31 .eql 30 0 26 true, xp 32 26 31 false, xm 6 32] [0, 1, 3, 7, 15, 31, 63, 127, 255, 511, 1023, 2047, 4095, 2047, 16383, 32767, 65535, 131071])
 (xr [⟨(some 33), .call 29 [(.c (.int .i64 1))], none⟩, ⟨(some 34), .call 29 [(.c (.int .i64 0))], none⟩, ⟨(some 35), .build [(.int .i64 0), (.int .i64 0), (.int .i64 0), (.int .i64 0), (.int .i64 0), (.int .i64 0), (.int .i64 0), (.int .i64 0), (.bool false), .nils, .nils, (.bool false), .nils, .nils, (.bool false)] [(8, 3, (.t 33)), (11, 3, (.t 34))], none⟩, ⟨(some 7), .new 38 15 [(.int .i64 0), (.int .i64 0), (.int .i64 0), (.int .i64 0), (.int .i64 0), (.int .i64 0), (.int .i64 0), (.int .i64 0), (.bool false), .nils, .nils, (.bool false), .nils, .nils, (.bool false)], none⟩, xs 15 7 35]
 (.seq (xr [xf 36 0 3, xl 37 36, xf 38 1 3, xl 39 38, ⟨(some 40), .lit 50 1 2 [.nils, .nils] [(0, 1, (.t 37)), (1, 1, (.t 39))], none⟩, xc1 41 40 40, xL 42 41, xk 43 0]
 (.block 0 (.loop (xr [xb 44 .lss 43 42]
  (
  .seq (xd 44
  .skip
  (.exit 0))
  (
  .seq (.block 1 (xr [xm 45 43, xi 46 3 41 43, xg 47 3 46, ⟨(some 9), .new 43 3 [(.str ⟨#[]⟩), (.str ⟨#[]⟩), (.int .i64 0)], none⟩, xm 8 45, xs 3 9 47]
  (xr [xm 49 0, xg 50 3 9, xc2 51 10 49 50, xm 48 51, xe 52 48 0, xe 53 48 1, ⟨(some 10), .new 38 15 [(.int .i64 0), (.int .i64 0), (.int .i64 0), (.int .i64 0), (.int .i64 0), (.int .i64 0), (.int .i64 0), (.int .i64 0), (.bool false), .nils, .nils, (.bool false), .nils, .nils, (.bool false)], none⟩, xs 15 10 52, xm 11 53]
  (
   .seq (.block 2 (xr [xm 55 11, xbk 56 .neq 55 0, xm 54 56]
   (
   xd 54
   (xr [⟨(some 57), .build [(.int .i64 0), (.int .i64 0), (.int .i64 0), (.int .i64 0), (.int .i64 0), (.int .i64 0), (.int .i64 0), (.int .i64 0), (.bool false), .nils, .nils, (.bool false), .nils, .nils, (.bool false)] [], none⟩, xm 58 11, xs 15 4 57, xm 5 58]
   .ret)
   (xr [xf 60 14 10, xl 61 60, xm 62 61, xmg 63 6 62 true, xng 64 63 62 true, xp 65 62 64 false, xm 59 65]
   (
    xd 59
    (xr [⟨(some 66), .build [(.int .i64 0), (.int .i64 0), (.int .i64 0), (.int .i64 0), (.int .i64 0), (.int .i64 0), (.int .i64 0), (.int .i64 0), (.bool false), .nils, .nils, (.bool false), .nils, .nils, (.bool false)] [], none⟩, xs 15 4 66, xk 5 6]
    .ret)
    .skip)))))
  (.seq (xr [xm 67 8, xf 68 0 3, xl 69 68, xL 70 69, xb 71 .geq 67 70]
  (
   xd 71
   (xr [xf 72 0 10, xg 73 8 72, xc1 74 20 73, xf 75 0 10, xs 8 75 74]
   (xR [xf 77 8 10, xg 78 3 77, xc1 79 19 78, xm 76 79, xe 80 76 0, xe 81 76 1, xf 82 8 10, xs 3 82 80]))
   .skip))
  (xr [xf 84 0 7, xg 85 8 84, xf 86 0 10, xg 87 8 86, xc2 88 41 85 87, xm 83 88, xe 89 83 0, xe 90 83 1, ⟨(some 12), .new 29 8 [(.int .i64 0), (.int .i64 0), (.int .i64 0), (.int .i64 0), (.int .i64 0), (.int .i64 0), (.int .i64 0), (.int .i64 0)], none⟩, xs 8 12 89, xm 13 90]
  (.seq (xr [xm 91 13, xn 92 91]
  (
   xd 92
   (xr [⟨(some 93), .build [(.int .i64 0), (.int .i64 0), (.int .i64 0), (.int .i64 0), (.int .i64 0), (.int .i64 0), (.int .i64 0), (.int .i64 0), (.bool false), .nils, .nils, (.bool false), .nils, .nils, (.bool false)] [], none⟩, xs 15 4 93, xk 5 5]
   .ret)
   .skip))
  (.reg true [xg 94 8 12, xf 95 8 7, xg 96 3 95, xf 97 8 10, xg 98 3 97, xc2 99 14 96 98, xf 100 11 10, xg 101 3 100, xf 102 14 10, xl 103 102, ⟨(some 104), .build [(.int .i64 0), (.int .i64 0), (.int .i64 0), (.int .i64 0), (.int .i64 0), (.int .i64 0), (.int .i64 0), (.int .i64 0), (.bool false), .nils, .nils, (.bool false), .nils, .nils, (.bool false)] [(0, 8, (.t 94)), (8, 3, (.t 99)), (11, 3, (.t 101)), (14, 1, (.t 103))], none⟩, xs 15 7 104] [0, 0, 2, 0, 8, 30, 0, 64, 0, 256, 1023, 2047]))))))))
  (xR [xbk 105 .add 43 1, xm 43 105])))))))
 (.seq (.reg true [⟨(some 107), .call 43 [(.c (.int .i64 1))], none⟩, xf 108 2 3, xg 109 1 108, xc2 110 42 107 109, xm 106 110, xe 111 106 0, xe 112 106 1, ⟨(some 14), .new 36 3 [(.bool false), .nils, .nils], none⟩, xs 3 14 111, xm 15 112] [0, 0, 2, 7, 15, 31, 31, 0, 191, 511])
 (.seq (xr [xm 113 15, xn 114 113]
 (
 xd 114
 (xr [⟨(some 115), .build [(.int .i64 0), (.int .i64 0), (.int .i64 0), (.int .i64 0), (.int .i64 0), (.int .i64 0), (.int .i64 0), (.int .i64 0), (.bool false), .nils, .nils, (.bool false), .nils, .nils, (.bool false)] [], none⟩, xs 15 4 115, xk 5 4]
 .ret)
 .skip))
 (xr [xf 116 8 7, xg 117 3 116, xg 118 3 14, xc2 119 14 117 118, xf 120 8 7, xs 3 120 119]
 (xr [xg 121 15 7, xs 15 4 121, xk 5 0]
 .ret))))))))
theorem ok16 : Tryz.f16.body.bind (comp Tryz.prog) = some c16 := by kernel_rfl
def c20 : IR :=
 (xr [⟨(some 1), .box 29 8 (.t 0), none⟩, ⟨(some 2), .new 29 8 [(.int .i64 0), (.int .i64 0), (.int .i64 0), (.int .i64 0), (.int .i64 0), (.int .i64 0), (.int .i64 0), (.int .i64 0)], none⟩]
 (xr [xg 6 8 1, ⟨(some 7), .call 28 [(.t 6), (.c (.int .i64 (-1)))], none⟩, xm 5 7, xe 8 5 0, xe 9 5 1, ⟨(some 3), .new 29 8 [(.int .i64 0), (.int .i64 0), (.int .i64 0), (.int .i64 0), (.int .i64 0), (.int .i64 0), (.int .i64 0), (.int .i64 0)], none⟩, xs 8 3 8, xm 4 9]
 (xr [xg 10 8 3, xs 8 2 10]
 .ret)))
theorem ok20 : Tryz.f20.body.bind (comp Tryz.prog) = some c20 := by kernel_rfl
def c22 : IR :=
 (xr [⟨(some 2), .mv (.c .nils), none⟩, xk 3 0, xk 4 0]
 (.seq (xr [xm 9 0, xS 10 9, xbk 11 .gtr 10 65536]
 (
 xd 11
 (xr [⟨(some 2), .mv (.c .nils), none⟩, xk 3 0, xk 4 11]
 .ret)
 .skip))
 (xr [⟨(some 5), .mv (.c .nils), none⟩]
 (.seq (xr [xm 12 0, ⟨(some 13), .call 47 [(.t 12), (.c (.str ⟨#[10]⟩))], none⟩, xL 14 13, xk 15 0]
 (.block 0 (.loop (xr [xb 16 .lss 15 14]
  (
  .seq (xd 16
  .skip
  (.exit 0))
  (
  .seq (.block 1 (xr [xm 17 15, xi 18 1 13 15, xl 19 18, xm 6 17, xm 7 19]
  (xr [xm 20 7, xc1 21 48 20, xm 8 21]
  (
   .block 2 (.seq (xr [xm 30 7, ⟨(some 31), .call 49 [(.t 30), (.c (.fn 50 []))], none⟩, xm 29 31]
   (
   xd 29
   .skip
   (xR [xm 32 8, xL 33 32, xbk 34 .gtr 33 24, xm 29 34])))
   (
   xd 29
   (xr [xm 35 6, xbk 36 .add 35 1, ⟨(some 2), .mv (.c .nils), none⟩, xm 3 36, xk 4 2]
   .ret)
   (xr [xm 38 8, xL 39 38, xbk 40 .eql 39 0, xm 37 40]
   (
    xd 37
    .skip
    (xr [xm 42 5, xL 43 42, xbk 44 .eql 43 2000, xm 41 44]
    (
    xd 41
    (xr [xm 45 6, xbk 46 .add 45 1, ⟨(some 2), .mv (.c .nils), none⟩, xm 3 46, xk 4 11]
    .ret)
    (xR [xm 22 5, xm 23 6, xbk 24 .add 23 1, xm 25 8, ⟨(some 26), .build [(.int .i64 0), .nils] [(0, 1, (.t 24)), (1, 1, (.t 25))], none⟩, ⟨(some 27), .lit 120 2 1 [(.int .i64 0), .nils] [(0, 2, (.t 26))], none⟩, ⟨(some 28), .app 120 2 32 (.t 22) (.t 27), none⟩, xm 5 28])))))))))))
  (xR [xbk 47 .add 15 1, xm 15 47])))))))
 (xr [xm 48 5, xm 2 48, xk 3 0, xk 4 0]
 .ret)))))
theorem ok22 : Tryz.f22.body.bind (comp Tryz.prog) = some c22 := by kernel_rfl
def c28 : IR :=
 (xr [⟨(some 2), .box 29 8 (.t 0), none⟩, ⟨(some 4), .new 29 8 [(.int .i64 0), (.int .i64 0), (.int .i64 0), (.int .i64 0), (.int .i64 0), (.int .i64 0), (.int .i64 0), (.int .i64 0)], none⟩, xkb 5 false]
 (.seq (xr [xg 8 8 2, xc1 9 59 8, xn 10 9]
 (
 xd 10
 (xr [⟨(some 11), .build [(.int .i64 0), (.int .i64 0), (.int .i64 0), (.int .i64 0), (.int .i64 0), (.int .i64 0), (.int .i64 0), (.int .i64 0)] [], none⟩, xs 8 4 11, xkb 5 false]
 .ret)
 .skip))
 (.seq (xr [xg 12 8 2, xk 13 0]
 (.block 0 (.loop (xr [xbk 14 .lss 13 8]
  (
  .seq (xd 14
  .skip
  (.exit 0))
  (
  .seq (.block 1 (xr [xm 15 13, ⟨(some 16), .idxA 8 1 false (.t 12) (.t 13), none⟩, xm 6 15, xm 7 16]
  (.seq (xr [xm 17 7, xbk 18 .eql 17 0]
  (
   xd 18
   (.exit 1)
   .skip))
  (.seq (xr [xm 19 1, xc1 20 60 19, xn 21 20, xm 22 21, xmg 23 7 22 false, xmg 24 1 22 false, ⟨(some 25), .bin .mul (.t 23) (.t 24), (some ((some 22), false))⟩, ⟨(some 26), .call 60 [(.t 25)], (some ((some 22), false))⟩, xng 27 26 22 false, xpb 28 22 true 27]
  (
   xd 28
   (xr [⟨(some 29), .build [(.int .i64 0), (.int .i64 0), (.int .i64 0), (.int .i64 0), (.int .i64 0), (.int .i64 0), (.int .i64 0), (.int .i64 0)] [], none⟩, xs 8 4 29, xkb 5 false]
   .ret)
   .skip))
  (xR [xm 30 6, xm 31 7, xm 32 1, xb 33 .mul 31 32, ⟨(some 34), .iaddrA 8 1 (.t 2) (.t 30), none⟩, xs 1 34 33])))))
  (xR [xbk 35 .add 13 1, xm 13 35])))))))
 (xr [xg 36 8 2, xs 8 4 36, xkb 5 true]
 .ret))))
theorem ok28 : Tryz.f28.body.bind (comp Tryz.prog) = some c28 := by kernel_rfl
def c41 : IR :=
 (xr [⟨(some 2), .box 29 8 (.t 0), none⟩, ⟨(some 3), .box 29 8 (.t 1), none⟩, ⟨(some 4), .new 29 8 [(.int .i64 0), (.int .i64 0), (.int .i64 0), (.int .i64 0), (.int .i64 0), (.int .i64 0), (.int .i64 0), (.int .i64 0)], none⟩, xkb 5 false]
 (.seq (xr [xg 8 8 2, xc1 9 59 8, xn 10 9, xm 11 10, ⟨(some 12), .load true 8 (.t 3), (some ((some 11), false))⟩, ⟨(some 13), .call 59 [(.t 12)], (some ((some 11), false))⟩, xng 14 13 11 false, xpb 15 11 true 14]
 (
 xd 15
 (xr [⟨(some 16), .build [(.int .i64 0), (.int .i64 0), (.int .i64 0), (.int .i64 0), (.int .i64 0), (.int .i64 0), (.int .i64 0), (.int .i64 0)] [], none⟩, xs 8 4 16, xkb 5 false]
 .ret)
 .skip))
 (.seq (xr [xg 17 8 3, xk 18 0]
 (.block 0 (.loop (xr [xbk 19 .lss 18 8]
  (
  .seq (xd 19
  .skip
  (.exit 0))
  (
  .seq (.block 1 (xr [xm 20 18, ⟨(some 21), .idxA 8 1 false (.t 17) (.t 18), none⟩, xm 6 20, xm 7 21]
  (xR [xm 22 6, ⟨(some 23), .iaddrA 8 1 (.t 2) (.t 22), none⟩, xl 24 23, xm 25 7, xb 26 .add 24 25, ⟨(some 27), .iaddrA 8 1 (.t 2) (.t 22), none⟩, xs 1 27 26])))
  (xR [xbk 28 .add 18 1, xm 18 28])))))))
 (.seq (xr [xg 29 8 2, xc1 30 59 29, xn 31 30]
 (
 xd 31
 (xr [⟨(some 32), .build [(.int .i64 0), (.int .i64 0), (.int .i64 0), (.int .i64 0), (.int .i64 0), (.int .i64 0), (.int .i64 0), (.int .i64 0)] [], none⟩, xs 8 4 32, xkb 5 false]
 .ret)
 .skip))
 (xr [xg 33 8 2, xs 8 4 33, xkb 5 true]
 .ret)))))
theorem ok41 : Tryz.f41.body.bind (comp Tryz.prog) = some c41 := by kernel_rfl
def c48 : IR :=
 (xr [⟨(some 2), .mv (.c .nils), none⟩]
 (xr [⟨(some 3), .mv (.c .nils), none⟩]
 (.seq (xr [xm 6 0, ⟨(some 7), .call 47 [(.t 6), (.c (.str ⟨#[32]⟩))], none⟩, xL 8 7, xk 9 0]
 (.block 0 (.loop (xr [xb 10 .lss 9 8]
  (
  .seq (xd 10
  .skip
  (.exit 0))
  (
  .seq (.block 1 (xr [xi 11 1 7 9, xl 12 11, xm 5 12]
  (.seq (xr [xm 13 5, ⟨(some 14), .call 77 [(.t 13), (.c (.str ⟨#[35]⟩))], none⟩]
  (
   xd 14
   (.exit 0)
   .skip))
  (xr [xm 15 5, ⟨(some 16), .bin .neq (.t 15) (.c (.str ⟨#[]⟩)), none⟩]
  (
   xd 16
   (xR [xm 17 3, xm 18 5, ⟨(some 19), .lit 9 1 1 [(.str ⟨#[]⟩)] [(0, 1, (.t 18))], none⟩, ⟨(some 20), .app 9 1 16 (.t 17) (.t 19), none⟩, xm 3 20])
   .skip)))))
  (xR [xbk 21 .add 9 1, xm 9 21])))))))
 (xr [xm 22 3, xm 2 22]
 .ret))))
theorem ok48 : Tryz.f48.body.bind (comp Tryz.prog) = some c48 := by kernel_rfl
def c50 : IR :=
 (xr [xkb 2 false]
 (xr [xm 3 0, ⟨(some 4), .bin .lss (.t 3) (.c (.int .i32 32)), none⟩, xm 5 4, xmg 6 0 5 false, ⟨(some 7), .bin .gtr (.t 6) (.c (.int .i32 126)), (some ((some 5), false))⟩, xpb 8 5 true 7, xm 2 8]
 .ret))
theorem ok50 : Tryz.f50.body.bind (comp Tryz.prog) = some c50 := by kernel_rfl
def c52 : IR :=
 (xr [⟨(some 0), .mv (.c .null), none⟩]
 (xr [⟨(some 1), .mkmap 156, none⟩, ⟨(some 2), .build [.nilm, .nils] [(0, 1, (.t 1))], none⟩, ⟨(some 3), .box 158 2 (.t 2), none⟩, xm 0 3]
 .ret))
theorem ok52 : Tryz.f52.body.bind (comp Tryz.prog) = some c52 := by kernel_rfl
def c59 : IR :=
 (xr [⟨(some 1), .box 29 8 (.t 0), none⟩, xkb 2 false]
 (xr [⟨(some 3), .slcA 8 1 (.t 1), none⟩, ⟨(some 4), .call 98 [(.t 3), (.c (.fn 99 []))], none⟩, xn 5 4, xm 2 5]
 .ret))
theorem ok59 : Tryz.f59.body.bind (comp Tryz.prog) = some c59 := by kernel_rfl
def c60 : IR :=
 (xr [xkb 2 false]
 (xr [xm 3 0, xbk 4 .geq 3 (-100), xm 5 4, xmg 6 0 5 true, xbg 7 .leq 6 100 5 true, xp 8 5 7 false, xm 2 8]
 .ret))
theorem ok60 : Tryz.f60.body.bind (comp Tryz.prog) = some c60 := by kernel_rfl
def c80 : IR :=
 (xr [⟨(some 2), .new 29 8 [(.int .i64 0), (.int .i64 0), (.int .i64 0), (.int .i64 0), (.int .i64 0), (.int .i64 0), (.int .i64 0), (.int .i64 0)], none⟩, xkb 3 false]
 (xr [⟨(some 4), .new 29 8 [(.int .i64 0), (.int .i64 0), (.int .i64 0), (.int .i64 0), (.int .i64 0), (.int .i64 0), (.int .i64 0), (.int .i64 0)], none⟩]
 (.seq (xr [xm 5 0, xbk 6 .lss 5 0, xm 7 6, xmg 8 0 7 false, xbg 9 .geq 8 8 7 false, xpb 10 7 true 9]
 (
 xd 10
 (xr [xg 11 8 4, xs 8 2 11, xkb 3 false]
 .ret)
 .skip))
 (xr [xm 12 0, ⟨(some 13), .iaddrA 8 1 (.t 4) (.t 12), none⟩, ⟨none, .store 1 (.t 13) (.c (.int .i64 1)), none⟩]
 (xr [xg 14 8 4, xs 8 2 14, xkb 3 true]
 .ret)))))
theorem ok80 : Tryz.f80.body.bind (comp Tryz.prog) = some c80 := by kernel_rfl
def c84 : IR :=
 (xr [⟨(some 1), .box 88 2 (.t 0), none⟩, xkb 2 false]
 (xr [xf 3 0 1, xl 4 3, xc1 5 121 4, xm 6 5, xfg 7 1 1 6 true, xlg 8 7 6 true, ⟨(some 9), .call 121 [(.t 8)], (some ((some 6), true))⟩, xp 10 6 9 false, xm 2 10]
 .ret))
theorem ok84 : Tryz.f84.body.bind (comp Tryz.prog) = some c84 := by kernel_rfl
def c99 : IR :=
 (xr [xkb 2 false]
 (xr [xm 3 0, xc1 4 60 3, xn 5 4, xm 2 5]
 .ret))
theorem ok99 : Tryz.f99.body.bind (comp Tryz.prog) = some c99 := by kernel_rfl
def c119 : IR :=
 (xr [⟨(some 2), .mv (.c .nils), none⟩, xk 3 0]
 (.seq (xr [xm 7 0, xS 8 7, xbk 9 .gtr 8 256]
 (
 xd 9
 (xr [⟨(some 2), .mv (.c .nils), none⟩, xk 3 11]
 .ret)
 .skip))
 (xr [xm 10 0, ⟨(some 11), .call 47 [(.t 10), (.c (.str ⟨#[45]⟩))], none⟩, xm 4 11]
 (.seq (xr [xm 12 4, xL 13 12, xk 14 0]
 (.block 0 (.loop (xr [xb 15 .lss 14 13]
  (
  .seq (xd 15
  .skip
  (.exit 0))
  (
  .seq (.block 1 (xr [xi 16 1 12 14, xl 17 16, xm 6 17]
  (xr [xm 18 6, xc1 19 157 18, xn 20 19]
  (
   xd 20
   (xr [⟨(some 2), .mv (.c .nils), none⟩, xk 3 2]
   .ret)
   .skip))))
  (xR [xbk 21 .add 14 1, xm 14 21])))))))
 (xr [xm 22 4, xm 2 22, xk 3 0]
 .ret)))))
theorem ok119 : Tryz.f119.body.bind (comp Tryz.prog) = some c119 := by kernel_rfl
def c120 : IR :=
 (xr [⟨(some 4), .box 29 8 (.t 1), none⟩, xkb 6 false]
 (.seq (.seq (.reg true [xm 7 2, ⟨(some 8), .bin .eql (.t 7) (.c (.str ⟨#[]⟩)), none⟩, xm 9 8, xmg 10 0 9 false, ⟨(some 11), .nilck (.t 10), (some ((some 9), false))⟩, xfg 12 0 11 9 false, xlg 13 12 9 false, ⟨(some 14), .load true 8 (.t 4), (some ((some 9), false))⟩, ⟨(some 15), .look (some 8) false (.str ⟨#[]⟩) (.t 13) (.t 14), (some ((some 9), false))⟩, ⟨(some 16), .bin .neq (.t 15) (.c (.str ⟨#[]⟩)), (some ((some 9), false))⟩, xpb 17 9 true 16] [0, 1, 3, 7, 15, 31, 63, 7, 255, 511, 1023])
 (
 xd 17
 (xr [xkb 6 false]
 .ret)
 .skip))
 (.seq (.reg true [xm 18 0, ⟨(some 19), .nilck (.t 18), none⟩, xf 20 0 19, xl 21 20, xg 22 8 4, xm 23 2, ⟨none, .mput (some 8) (.t 21) (.t 22) (.t 23), none⟩] [0, 1, 3, 7, 0, 0, 63])
 (xr [xm 24 0, xm 25 0, ⟨(some 26), .nilck (.t 25), none⟩, xf 27 1 26, xl 28 27, xm 29 2, ⟨(some 30), .lit 9 1 1 [(.str ⟨#[]⟩)] [(0, 1, (.t 29))], none⟩, ⟨(some 31), .app 9 1 16 (.t 28) (.t 30), none⟩, ⟨(some 32), .nilck (.t 24), none⟩, xf 33 1 32, xs 1 33 31]
 (xr [xkb 6 true]
 .ret)))))
theorem ok120 : Tryz.f120.body.bind (comp Tryz.prog) = some c120 := by kernel_rfl
def c121 : IR :=
 (xr [xkb 2 false]
 (xr [⟨(some 6), .mkmap 94, none⟩, xm 3 6]
 (.seq (xr [xm 7 0, xL 8 7, xk 9 0]
 (.block 0 (.loop (xr [xb 10 .lss 9 8]
  (
  .seq (xd 10
  .skip
  (.exit 0))
  (
  .seq (.block 1 (xr [xi 11 1 7 9, xl 12 11, xm 5 12]
  (.seq (xr [xm 13 5, xc1 14 158 13, xn 15 14, xm 16 15, xmg 17 3 16 false, xmg 18 5 16 false, ⟨(some 19), .look none false (.bool false) (.t 17) (.t 18), (some ((some 16), false))⟩, xpb 20 16 true 19]
  (
   xd 20
   (xr [xkb 2 false]
   .ret)
   .skip))
  (xR [xm 21 3, xm 22 5, ⟨none, .mput none (.t 21) (.t 22) (.c (.bool true)), none⟩]))))
  (xR [xbk 23 .add 9 1, xm 9 23])))))))
 (xr [xkb 2 true]
 .ret))))
theorem ok121 : Tryz.f121.body.bind (comp Tryz.prog) = some c121 := by kernel_rfl
def c125 : IR :=
 (xr [⟨(some 2), .box 88 2 (.t 0), none⟩, ⟨(some 4), .new 61 1 [.nils], none⟩, xk 5 0]
 (xr [xm 15 1, xc1 16 119 15, xm 14 16, xe 17 14 0, xe 18 14 1, xm 6 17, xm 7 18]
 (.seq (xr [xm 19 7, xbk 20 .neq 19 0]
 (
 xd 20
 (xr [⟨(some 21), .build [.nils] [], none⟩, xm 22 7, xs 1 4 21, xm 5 22]
 .ret)
 .skip))
 (xr [xm 23 6, ⟨(some 24), .call 163 [(.t 23), (.c (.str ⟨#[97, 110, 100]⟩))], none⟩, xm 8 24]
 (.seq (xr [xm 25 8, xL 26 25, xbk 27 .gtr 26 4]
 (
 xd 27
 (xr [⟨(some 28), .build [.nils] [], none⟩, xs 1 4 28, xk 5 2]
 .ret)
 .skip))
 (xr [⟨(some 9), .new 61 1 [.nils], none⟩]
 (.seq (xr [xm 29 8, xL 30 29, xk 31 0]
 (.block 0 (.loop (xr [xb 32 .lss 31 30]
  (
  .seq (xd 32
  .skip
  (.exit 0))
  (
  .seq (.block 1 (xr [xi 33 1 29 31, xl 34 33, xm 11 34]
  (xr [xg 36 2 2, xm 37 11, xc2 38 164 36 37, xm 35 38, xe 39 35 0, xe 40 35 1, ⟨(some 12), .new 55 3 [.nils, .nils, .nils], none⟩, xs 3 12 39, xm 13 40]
  (.seq (xr [xm 41 13, xn 42 41]
  (
   xd 42
   (xr [⟨(some 43), .build [.nils] [], none⟩, xs 1 4 43, xk 5 2]
   .ret)
   .skip))
  (xR [xf 44 0 9, xl 45 44, xg 46 3 12, ⟨(some 47), .lit 55 3 1 [.nils, .nils, .nils] [(0, 3, (.t 46))], none⟩, ⟨(some 48), .app 55 3 72 (.t 45) (.t 47), none⟩, xf 49 0 9, xs 1 49 48])))))
  (xR [xbk 50 .add 31 1, xm 31 50])))))))
 (xr [xg 51 1 9, xs 1 4 51, xk 5 0]
 .ret))))))))
theorem ok125 : Tryz.f125.body.bind (comp Tryz.prog) = some c125 := by kernel_rfl
def c157 : IR :=
 (xr [xkb 2 false]
 (xr [xm 3 0, ⟨(some 4), .bin .neq (.t 3) (.c (.str ⟨#[]⟩)), none⟩, xm 5 4, xmg 6 0 5 true, ⟨(some 7), .lenS (.t 6), (some ((some 5), true))⟩, xbg 8 .leq 7 20 5 true, xp 9 5 8 false, xm 10 9, xmg 11 0 10 true, ⟨(some 12), .call 160 [(.t 11), (.c (.str ⟨#[97, 98, 99, 100, 101, 102, 103, 104, 105, 106, 107, 108, 109, 110, 111, 112, 113, 114, 115, 116, 117, 118, 119, 120, 121, 122, 48, 49, 50, 51, 52, 53, 54, 55, 56, 57]⟩))], (some ((some 10), true))⟩, ⟨(some 13), .bin .eql (.t 12) (.c (.str ⟨#[]⟩)), (some ((some 10), true))⟩, xp 14 10 13 false, xm 2 14]
 .ret))
theorem ok157 : Tryz.f157.body.bind (comp Tryz.prog) = some c157 := by kernel_rfl
def c158 : IR :=
 (xr [xkb 2 false]
 (.seq (xr [xm 6 0]
 (
 .block 0 (.seq (xr [⟨(some 8), .bin .eql (.t 6) (.c (.str ⟨#[112, 101, 114]⟩)), none⟩, xm 7 8]
 (
  xd 7
  .skip
  (xr [⟨(some 9), .bin .eql (.t 6) (.c (.str ⟨#[97, 110, 100]⟩)), none⟩, xm 7 9]
  (
  xd 7
  .skip
  (xr [⟨(some 10), .bin .eql (.t 6) (.c (.str ⟨#[115, 113, 117, 97, 114, 101]⟩)), none⟩, xm 7 10]
  (
   xd 7
   .skip
   (xR [⟨(some 11), .bin .eql (.t 6) (.c (.str ⟨#[99, 117, 98, 105, 99]⟩)), none⟩, xm 7 11])))))))
 (
  xd 7
  (xr [xkb 2 false]
  .ret)
  .skip))))
 (xr [xm 13 0, ⟨(some 14), .call 122 [(.t 13), (.c (.str ⟨#[112, 111, 119]⟩))], none⟩, xm 12 14, xe 15 12 0, xe 16 12 1, xm 3 15, xm 4 16]
 (xr [xm 17 3, ⟨(some 18), .bin .neq (.t 17) (.c (.str ⟨#[]⟩)), none⟩, xm 19 18, xmg 20 3 19 true, ⟨(some 21), .call 160 [(.t 20), (.c (.str ⟨#[48, 49, 50, 51, 52, 53, 54, 55, 56, 57]⟩))], (some ((some 19), true))⟩, ⟨(some 22), .bin .eql (.t 21) (.c (.str ⟨#[]⟩)), (some ((some 19), true))⟩, xp 23 19 22 false, xm 5 23]
 (xr [xm 24 0, xc1 25 157 24, xm 26 25, xmg 27 5 26 true, xng 28 27 26 true, xp 29 26 28 false, xm 2 29]
 .ret)))))
theorem ok158 : Tryz.f158.body.bind (comp Tryz.prog) = some c158 := by kernel_rfl
def c163 : IR :=
 (xr [⟨(some 4), .mv (.c .nils), none⟩]
 (xr [⟨(some 9), .lit 86 1 1 [.nils] [(0, 1, (.c .nils))], none⟩, xm 5 9]
 (.seq (xr [xm 10 0, xL 11 10, xk 12 0]
 (.block 0 (.loop (xr [xb 13 .lss 12 11]
  (
  .seq (xd 13
  .skip
  (.exit 0))
  (
  .seq (.block 1 (xr [xi 14 1 10 12, xl 15 14, xm 7 15]
  (.seq (xr [xm 16 7, xm 17 1, xb 18 .eql 16 17]
  (
   xd 18
   (xr [xm 19 5, ⟨(some 20), .lit 86 1 1 [.nils] [(0, 1, (.c .nils))], none⟩, ⟨(some 21), .app 86 1 24 (.t 19) (.t 20), none⟩, xm 5 21]
   (.exit 1))
   .skip))
  (xr [xm 22 5, xL 23 22, xbk 24 .sub 23 1, xm 8 24]
  (xR [xm 25 5, xm 26 8, xm 27 5, xm 28 8, xi 29 1 27 28, xl 30 29, xm 31 7, ⟨(some 32), .lit 9 1 1 [(.str ⟨#[]⟩)] [(0, 1, (.t 31))], none⟩, ⟨(some 33), .app 9 1 16 (.t 30) (.t 32), none⟩, xi 34 1 25 26, xs 1 34 33])))))
  (xR [xbk 35 .add 12 1, xm 12 35])))))))
 (xr [xm 36 5, xm 4 36]
 .ret))))
theorem ok163 : Tryz.f163.body.bind (comp Tryz.prog) = some c163 := by kernel_rfl
def c164 : IR :=
 (xr [⟨(some 2), .box 88 2 (.t 0), none⟩, ⟨(some 4), .new 55 3 [.nils, .nils, .nils], none⟩, xkb 5 false]
 (xr [xc0 11 205, ⟨(some 12), .build [.nils, .nils, .nils] [(2, 1, (.t 11))], none⟩, ⟨(some 6), .new 55 3 [.nils, .nils, .nils], none⟩, xs 3 6 12]
 (xr [xm 13 1, ⟨(some 14), .call 163 [(.t 13), (.c (.str ⟨#[112, 101, 114]⟩))], none⟩, xm 7 14]
 (.seq (xr [xm 15 7, xL 16 15, xbk 17 .gtr 16 2, xm 18 17, xmg 19 7 18 false, ⟨(some 20), .lenL (.t 19), (some ((some 18), false))⟩, xbg 21 .eql 20 1 18 false, xmg 22 21 18 false, xmg 23 1 22 true, ⟨(some 24), .lenL (.t 23), (some ((some 22), true))⟩, xbg 25 .eql 24 0 22 true, ⟨(some 26), .pick (.t 22) (.t 25) (.c (.bool false)), (some ((some 18), false))⟩, xpb 27 18 true 26]
 (
 xd 27
 (xr [⟨(some 28), .build [.nils, .nils, .nils] [], none⟩, xs 3 4 28, xkb 5 false]
 .ret)
 .skip))
 (.seq (.reg true [xg 30 2 2, xm 31 7, ⟨(some 32), .iaddrS 1 (.t 31) (.c (.int .i64 0)), none⟩, xl 33 32, xc2 34 206 30 33, xm 29 34, xe 35 29 0, xe 36 29 1, xm 8 35, xm 9 36] [0, 0, 2, 6, 15, 31, 63, 63, 127, 511])
 (.seq (xr [xm 37 9, xn 38 37]
 (
 xd 38
 (xr [⟨(some 39), .build [.nils, .nils, .nils] [], none⟩, xs 3 4 39, xkb 5 false]
 .ret)
 .skip))
 (xr [xm 40 8, xf 41 0 6, xs 1 41 40]
 (.seq (xr [xm 42 7, xL 43 42, xbk 44 .eql 43 2]
 (
 xd 44
 (xr [xm 45 7, ⟨(some 46), .iaddrS 1 (.t 45) (.c (.int .i64 1)), none⟩, xl 47 46, xm 10 47]
 (.seq (xr [xm 48 10, xL 49 48, xbk 50 .gtr 49 0, xm 51 50, xmg 52 10 51 true, ⟨(some 53), .iaddrS 1 (.t 52) (.c (.int .i64 0)), (some ((some 51), true))⟩, xlg 54 53 51 true, ⟨(some 55), .call 207 [(.t 54)], (some ((some 51), true))⟩, xp 56 51 55 false, xm 57 56, xmg 58 10 57 true, ⟨(some 59), .iaddrS 1 (.t 58) (.c (.int .i64 0)), (some ((some 57), true))⟩, xlg 60 59 57 true, ⟨(some 61), .bin .neq (.t 60) (.c (.str ⟨#[49]⟩)), (some ((some 57), true))⟩, xp 62 57 61 false]
 (
  xd 62
  (xr [xm 64 10, ⟨(some 65), .iaddrS 1 (.t 64) (.c (.int .i64 0)), none⟩, xl 66 65, xc1 67 123 66, xm 63 67, xe 68 63 0, xe 69 63 1, xf 70 2 6, xs 1 70 68]
  (xR [xm 71 10, ⟨(some 72), .slcL 1 (.t 71) (some (.c (.int .i64 1))) none, none⟩, xm 10 72]))
  (xr [xm 73 10, xL 74 73, xbk 75 .eql 74 0]
  (
  xd 75
  (xr [⟨(some 76), .build [.nils, .nils, .nils] [], none⟩, xs 3 4 76, xkb 5 false]
  .ret)
  .skip))))
 (xr [xg 78 2 2, xm 79 10, xc2 80 206 78 79, xm 77 80, xe 81 77 0, xe 82 77 1, xf 83 1 6, xs 1 83 81, xm 9 82]
 (xr [xm 84 9, xn 85 84]
 (
  xd 85
  (xr [⟨(some 86), .build [.nils, .nils, .nils] [], none⟩, xs 3 4 86, xkb 5 false]
  .ret)
  .skip)))))
 .skip))
 (.seq (.reg true [xg 87 3 6, xf 88 0 6, xl 89 88, xL 90 89, xf 91 1 6, xl 92 91, xL 93 92, xb 94 .add 90 93, xbk 95 .leq 94 8, xs 3 4 87, xm 5 95] [0, 0, 2, 6, 0, 16, 48, 126, 254, 1, 1023])
 .ret)))))))))
theorem ok164 : Tryz.f164.body.bind (comp Tryz.prog) = some c164 := by kernel_rfl
def c205 : IR :=
 (xr [⟨(some 0), .new 32 1 [.nils], none⟩]
 (xr [⟨(some 1), .call 15 [(.c (.int .u64 1))], none⟩, xs 1 0 1]
 .ret))
theorem ok205 : Tryz.f205.body.bind (comp Tryz.prog) = some c205 := by kernel_rfl
def c206 : IR :=
 (xr [⟨(some 2), .box 88 2 (.t 0), none⟩, ⟨(some 4), .mv (.c .nils), none⟩, xkb 5 false]
 (xr [⟨(some 6), .mv (.c .nils), none⟩]
 (.seq (.block 0 (.loop (.seq (xr [xm 10 1, xL 11 10, xbk 12 .gtr 11 0]
  (
  xd 12
  .skip
  (.exit 0)))
  (
  .block 1 (xr [xg 14 2 2, xm 15 1, xc2 16 234 14 15, xm 13 16, xe 17 13 0, xe 18 13 1, xe 19 13 2, ⟨(some 7), .new 43 3 [(.str ⟨#[]⟩), (.str ⟨#[]⟩), (.int .i64 0)], none⟩, xs 3 7 17, xm 8 18, xm 9 19]
  (.seq (xr [xm 20 9, xn 21 20]
  (
   xd 21
   (xr [⟨(some 4), .mv (.c .nils), none⟩, xkb 5 false]
   .ret)
   .skip))
  (xr [xm 22 6, xg 23 3 7, ⟨(some 24), .lit 43 3 1 [(.str ⟨#[]⟩), (.str ⟨#[]⟩), (.int .i64 0)] [(0, 3, (.t 23))], none⟩, ⟨(some 25), .app 43 3 40 (.t 22) (.t 24), none⟩, xm 6 25]
  (xR [xm 26 1, xm 27 8, ⟨(some 28), .slcL 1 (.t 26) (some (.t 27)) none, none⟩, xm 1 28]))))))))
 (xr [xm 29 6, xm 4 29, xkb 5 true]
 .ret))))
theorem ok206 : Tryz.f206.body.bind (comp Tryz.prog) = some c206 := by kernel_rfl
def c207 : IR :=
 (xr [xkb 2 false]
 (xr [xm 3 0, ⟨(some 4), .bin .neq (.t 3) (.c (.str ⟨#[]⟩)), none⟩, xm 5 4, xmg 6 0 5 true, ⟨(some 7), .lenS (.t 6), (some ((some 5), true))⟩, xbg 8 .leq 7 20 5 true, xp 9 5 8 false, xm 10 9, xmg 11 0 10 true, ⟨(some 12), .idxs (.t 11) (.c (.int .i64 0)), (some ((some 10), true))⟩, ⟨(some 13), .bin .neq (.t 12) (.c (.int .u8 48)), (some ((some 10), true))⟩, xp 14 10 13 false, xm 15 14, xmg 16 0 15 true, ⟨(some 17), .call 160 [(.t 16), (.c (.str ⟨#[48, 49, 50, 51, 52, 53, 54, 55, 56, 57]⟩))], (some ((some 15), true))⟩, ⟨(some 18), .bin .eql (.t 17) (.c (.str ⟨#[]⟩)), (some ((some 15), true))⟩, xp 19 15 18 false, xm 2 19]
 .ret))
theorem ok207 : Tryz.f207.body.bind (comp Tryz.prog) = some c207 := by kernel_rfl
def c234 : IR :=
 (xr [⟨(some 2), .box 88 2 (.t 0), none⟩, ⟨(some 4), .new 43 3 [(.str ⟨#[]⟩), (.str ⟨#[]⟩), (.int .i64 0)], none⟩, xk 5 0, xkb 6 false]
 (.seq (xr [xm 11 1, xL 12 11, xbk 13 .eql 12 0]
 (
 xd 13
 (xr [⟨(some 14), .build [(.str ⟨#[]⟩), (.str ⟨#[]⟩), (.int .i64 0)] [], none⟩, xs 3 4 14, xk 5 0, xkb 6 false]
 .ret)
 .skip))
 (xr [xm 15 1, ⟨(some 16), .iaddrS 1 (.t 15) (.c (.int .i64 0)), none⟩, xl 17 16, xc1 18 245 17, xm 7 18]
 (xr [xm 19 7, xbk 20 .sub 19 1, ⟨(some 21), .mn (.t 20) (.c (.int .i64 1)), none⟩, xm 8 21]
 (.seq (xr [xm 22 8, xm 23 1, xL 24 23, xb 25 .geq 22 24]
 (
 xd 25
 (xr [⟨(some 26), .build [(.str ⟨#[]⟩), (.str ⟨#[]⟩), (.int .i64 0)] [], none⟩, xs 3 4 26, xk 5 0, xkb 6 false]
 .ret)
 .skip))
 (.seq (.reg true [xg 28 2 2, xm 29 1, xm 30 8, xi 31 1 29 30, xl 32 31, xc2 33 246 28 32, xm 27 33, xe 34 27 0, xe 35 27 1, ⟨(some 9), .new 43 3 [(.str ⟨#[]⟩), (.str ⟨#[]⟩), (.int .i64 0)], none⟩, xs 3 9 34, xm 10 35] [0, 0, 0, 6, 14, 31, 63, 127, 127, 0, 767, 2047])
 (.seq (xr [xm 36 10, xn 37 36]
 (
 xd 37
 (xr [⟨(some 38), .build [(.str ⟨#[]⟩), (.str ⟨#[]⟩), (.int .i64 0)] [], none⟩, xs 3 4 38, xk 5 0, xkb 6 false]
 .ret)
 .skip))
 (xr [xm 39 7, xf 40 2 9, xs 1 40 39]
 (xr [xg 41 3 9, xm 42 8, xbk 43 .add 42 1, xs 3 4 41, xm 5 43, xkb 6 true]
 .ret)))))))))
theorem ok234 : Tryz.f234.body.bind (comp Tryz.prog) = some c234 := by kernel_rfl
def c245 : IR :=
 (xr [xk 2 0]
 (.seq (xr [xm 4 0]
 (
 .block 0 (xr [⟨(some 6), .bin .eql (.t 4) (.c (.str ⟨#[115, 113, 117, 97, 114, 101]⟩)), none⟩, xm 5 6]
 (
  xd 5
  (xr [xk 2 2]
  .ret)
  (xr [⟨(some 8), .bin .eql (.t 4) (.c (.str ⟨#[99, 117, 98, 105, 99]⟩)), none⟩, xm 7 8]
  (
  xd 7
  (xr [xk 2 3]
  .ret)
  .skip))))))
 (.seq (xr [xk 3 4]
 (.block 1 (.loop (.seq (xr [xm 9 3, xbk 10 .leq 9 15]
  (
  xd 10
  .skip
  (.exit 1)))
  (
  .seq (.block 2 (xr [xm 13 0, xm 14 3, xc1 15 72 14, ⟨(some 16), .bin .add (.c (.str ⟨#[112, 111, 119]⟩)) (.t 15), none⟩, xb 17 .eql 13 16]
  (
   xd 17
   (xr [xm 18 3, xm 2 18]
   .ret)
   .skip)))
  (xR [xm 11 3, xbk 12 .add 11 1, xm 3 12]))))))
 (xr [xk 2 1]
 .ret))))
theorem ok245 : Tryz.f245.body.bind (comp Tryz.prog) = some c245 := by kernel_rfl
def c246 : IR :=
 (xr [⟨(some 2), .box 88 2 (.t 0), none⟩, ⟨(some 4), .new 43 3 [(.str ⟨#[]⟩), (.str ⟨#[]⟩), (.int .i64 0)], none⟩, xkb 5 false]
 (.seq (xr [xf 12 0 2, xl 13 12, xm 14 1, xc2 15 250 13 14]
 (
 xd 15
 (xr [xm 16 1, ⟨(some 17), .build [(.str ⟨#[]⟩), (.str ⟨#[]⟩), (.int .i64 0)] [(1, 1, (.t 16))], none⟩, xs 3 4 17, xkb 5 true]
 .ret)
 .skip))
 (xr [⟨(some 18), .build [(.str ⟨#[]⟩), (.str ⟨#[]⟩), (.int .i64 0)] [], none⟩, ⟨(some 6), .new 43 3 [(.str ⟨#[]⟩), (.str ⟨#[]⟩), (.int .i64 0)], none⟩, xs 3 6 18, xkb 7 false]
 (.seq (xr [xf 19 1 2, xl 20 19, xL 21 20, xk 22 0]
 (.block 0 (.loop (xr [xb 23 .lss 22 21]
  (
  .seq (xd 23
  .skip
  (.exit 0))
  (
  .seq (.block 1 (xr [xi 24 1 20 22, xl 25 24, xm 9 25]
  (xr [xm 27 1, xm 28 9, xc2 29 122 27 28, xm 26 29, xe 30 26 0, xe 31 26 1, xm 10 30, xm 11 31]
  (xr [xm 32 11, xm 33 32, xfg 34 0 2 33 true, xlg 35 34 33 true, xmg 36 10 33 true, ⟨(some 37), .call 250 [(.t 35), (.t 36)], (some ((some 33), true))⟩, xp 38 33 37 false, xm 39 38, xmg 40 7 39 true, xng 41 40 39 true, xmg 42 41 39 true, xmg 43 9 42 false, ⟨(some 44), .lenS (.t 43), (some ((some 42), false))⟩, xfg 45 0 6 42 false, xlg 46 45 42 false, ⟨(some 47), .lenS (.t 46), (some ((some 42), false))⟩, ⟨(some 48), .bin .gtr (.t 44) (.t 47), (some ((some 42), false))⟩, ⟨(some 49), .pick (.t 42) (.c (.bool true)) (.t 48), (some ((some 39), true))⟩, xp 50 39 49 false]
  (
   xd 50
   (xR [xm 51 9, xm 52 10, ⟨(some 53), .build [(.str ⟨#[]⟩), (.str ⟨#[]⟩), (.int .i64 0)] [(0, 1, (.t 51)), (1, 1, (.t 52))], none⟩, xs 3 6 53, xkb 7 true])
   .skip)))))
  (xR [xbk 54 .add 22 1, xm 22 54])))))))
 (xr [xg 55 3 6, xm 56 7, xs 3 4 55, xm 5 56]
 .ret)))))
theorem ok246 : Tryz.f246.body.bind (comp Tryz.prog) = some c246 := by kernel_rfl
end Go.Proofs.YtgdbkigaaooifaaGreatDoorK.NatIr
