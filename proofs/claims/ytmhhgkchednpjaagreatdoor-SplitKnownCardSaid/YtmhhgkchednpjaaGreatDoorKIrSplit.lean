/-
 The compiled bodies, printed: IrSplit.
-/
import Derived.Test.YtmhhgkchednpjaaGreatDoorKSh
import Derived.Test.YtmhhgkchednpjaaGreatDoorProg
set_option linter.all false
set_option maxHeartbeats 4000000
namespace Go.Proofs.YtmhhgkchednpjaaGreatDoorK.NatIr
open AI Go.Proofs
def c20 : IR :=
 (xr [⟨(some 6), .box 28 3 (.t 1), none⟩, ⟨(some 7), .box 38 1 (.t 2), none⟩, ⟨(some 10), .new 44 2 [(.bool false), .nils], none⟩, xk 11 0]
 (xr [xm 28 0, xg 29 1 7, xc2 30 64 28 29, xm 27 30, xe 31 27 0, xe 32 27 1, xm 12 31, xm 13 32]
 (.seq (xr [xm 33 13, xbk 34 .neq 33 0]
 (
 xd 34
 (xr [⟨(some 35), .build [(.bool false), .nils] [], none⟩, xm 36 13, xs 2 10 35, xm 11 36]
 .ret)
 .skip))
 (xr [xg 38 3 6, xm 39 3, xm 40 4, xc3 41 21 38 39 40, xm 37 41, xe 42 37 0, xe 43 37 1, ⟨(some 14), .new 48 3 [(.bool false), .nils, (.int .i64 0)], none⟩, xs 3 14 42, xm 13 43]
 (.seq (xr [xm 44 13, xbk 45 .neq 44 0]
 (
 xd 45
 (xr [⟨(some 46), .build [(.bool false), .nils] [], none⟩, xm 47 13, xs 2 10 46, xm 11 47]
 .ret)
 .skip))
 (xr [xf 48 0 14, xl 49 48, ⟨(some 50), .build [(.bool false), .nils] [(0, 1, (.t 49))], none⟩, ⟨(some 15), .new 44 2 [(.bool false), .nils], none⟩, xs 2 15 50]
 (xr [xf 51 0 14, ⟨none, .store 1 (.t 51) (.c (.bool false)), none⟩]
 (xr [xg 52 3 14, xc1 53 24 52, ⟨(some 16), .new 28 3 [(.bool false), .nils, .nils], none⟩, xs 3 16 53]
 (xr [xm 54 12, xL 55 54, xbk 56 .sub 55 1, xm 17 56]
 (.seq (xr [xm 57 12, xm 58 17, ⟨(some 59), .slcL 15 (.t 57) none (some (.t 58)), none⟩, xL 60 59, xk 61 0]
 (.block 0 (.loop (xr [xb 62 .lss 61 60]
  (
  .seq (xd 62
  .skip
  (.exit 0))
  (
  .seq (.block 1 (xr [xi 63 15 59 61, xg 64 15 63, ⟨(some 19), .new 63 15 [(.int .i64 0), (.int .i64 0), (.int .i64 0), (.int .i64 0), (.int .i64 0), (.int .i64 0), (.int .i64 0), (.int .i64 0), (.bool false), .nils, .nils, (.bool false), .nils, .nils, (.bool false)], none⟩, xs 15 19 64]
  (.seq (.reg true [xf 65 8 19, xg 66 3 65, xm 67 12, xm 68 17, xi 69 15 67 68, xf 70 8 69, xg 71 3 70, xc2 72 65 66 71, ⟨(some 20), .new 28 3 [(.bool false), .nils, .nils], none⟩, xs 3 20 72] [0, 1, 0, 0, 12, 28, 60, 127, 0, 511])
  (xr [xg 73 3 16, xg 74 3 20, xc2 75 65 73 74, xc1 76 66 75, ⟨(some 21), .new 26 2 [(.bool false), .nils], none⟩, xs 2 21 76]
  (xr [xf 77 1 15, xl 78 77, xf 79 1 21, xg 80 1 79, ⟨(some 81), .build [(.bool false), .nils, (.int .i64 0)] [(1, 1, (.t 80))], none⟩, ⟨(some 82), .lit 48 3 1 [(.bool false), .nils, (.int .i64 0)] [(0, 3, (.t 81))], none⟩, ⟨(some 83), .app 48 3 40 (.t 78) (.t 82), none⟩, xf 84 1 15, xs 1 84 83]
  (.seq (.reg true [xg 86 2 21, ⟨(some 87), .call 34 [(.c (.int .u64 1))], none⟩, xc2 88 67 86 87, xm 85 88, xe 89 85 0, xe 90 85 1, ⟨(some 22), .new 28 3 [(.bool false), .nils, .nils], none⟩, xs 3 22 89, xm 23 90] [0, 0, 3, 7, 15, 15, 0, 95, 255])
  (.reg true [xg 91 3 16, xg 92 3 22, xg 93 3 20, xc2 94 33 92 93, xc1 95 69 94, xc2 96 68 91 95, xs 3 16 96] [0, 0, 0, 6, 14, 31, 63])))))))
  (xR [xbk 97 .add 61 1, xm 61 97])))))))
 (xr [xg 99 3 16, ⟨(some 100), .call 70 [(.t 99), (.c (.int .i64 60))], none⟩, xm 98 100, xe 101 98 0, xe 102 98 1, ⟨(some 24), .new 48 3 [(.bool false), .nils, (.int .i64 0)], none⟩, xs 3 24 101, xm 25 102]
 (.seq (xr [xm 103 25, xn 104 103]
 (
 xd 104
 (xr [⟨(some 105), .build [(.bool false), .nils] [], none⟩, xs 2 10 105, xk 11 8]
 .ret)
 .skip))
 (.seq (xr [xm 106 3, xf 107 2 24, xl 108 107, xb 109 .sub 106 108, xm 26 109]
 (xr [xm 110 26, xbk 111 .gtr 110 0]
 (
 xd 111
 (.seq (.reg true [xf 112 1 24, xg 113 1 112, ⟨(some 114), .call 34 [(.c (.int .u64 10))], none⟩, xm 115 26, xc2 116 72 114 115, xc2 117 71 113 116, xf 118 1 24, xs 1 118 117] [0, 1, 0, 0, 12, 31, 63, 127])
 (xR [xm 119 3, xf 120 2 24, xs 1 120 119]))
 .skip)))
 (xr [xf 121 1 15, xl 122 121, xg 123 3 24, ⟨(some 124), .lit 48 3 1 [(.bool false), .nils, (.int .i64 0)] [(0, 3, (.t 123))], none⟩, ⟨(some 125), .app 48 3 40 (.t 122) (.t 124), none⟩, xf 126 1 15, xs 1 126 125]
 (xr [xg 127 2 15, xs 2 10 127, xk 11 0]
 .ret)))))))))))))))
theorem ok20 : Tryz.f20.body.bind (comp Tryz.prog) = some c20 := by kernel_rfl
def c64 : IR :=
 (xr [⟨(some 3), .box 38 1 (.t 1), none⟩, ⟨(some 4), .mv (.c .nils), none⟩, xk 5 0]
 (xr [xm 13 0, xg 14 1 3, xc2 15 36 13 14, xm 12 15, xe 16 12 0, xe 17 12 1, xm 6 16, xm 7 17]
 (.seq (xr [xm 18 7, xbk 19 .neq 18 0]
 (
 xd 19
 (xr [xm 20 7, ⟨(some 4), .mv (.c .nils), none⟩, xm 5 20]
 .ret)
 .skip))
 (xr [xkb 8 false, xkb 9 false]
 (.seq (xr [xm 21 6, xL 22 21, xk 23 0]
 (.block 0 (.loop (xr [xb 24 .lss 23 22]
  (
  .seq (xd 24
  .skip
  (.exit 0))
  (
  .seq (.block 1 (xr [xm 25 23, xi 26 15 21 23, xg 27 15 26, ⟨(some 11), .new 63 15 [(.int .i64 0), (.int .i64 0), (.int .i64 0), (.int .i64 0), (.int .i64 0), (.int .i64 0), (.int .i64 0), (.int .i64 0), (.bool false), .nils, .nils, (.bool false), .nils, .nils, (.bool false)], none⟩, xm 10 25, xs 15 11 27]
  (.seq (.seq (.reg true [xf 28 0 11, xg 29 8 28, xm 30 6, ⟨(some 31), .iaddrS 15 (.t 30) (.c (.int .i64 0)), none⟩, xf 32 0 31, xg 33 8 32, xc2 34 93 29 33, xn 35 34] [0, 1, 0, 4, 12, 28, 63, 127])
  (
   xd 35
   (xr [⟨(some 4), .mv (.c .nils), none⟩, xk 5 5]
   .ret)
   .skip))
  (xr [xm 36 8, xm 37 36, xfg 38 14 11 37 false, xlg 39 38 37 false, xpb 40 37 true 39, xm 8 40]
  (.reg true [xm 41 9, xm 42 41, xmg 43 10 42 false, xbg 44 .gtr 43 0 42 false, xmg 45 44 42 false, xfg 46 8 11 45 true, ⟨(some 47), .load true 3 (.t 46), (some ((some 45), true))⟩, xmg 48 6 45 true, xmg 49 10 45 true, xbg 50 .sub 49 1 45 true, ⟨(some 51), .iaddrS 15 (.t 48) (.t 50), (some ((some 45), true))⟩, xfg 52 8 51 45 true, ⟨(some 53), .load true 3 (.t 52), (some ((some 45), true))⟩, ⟨(some 54), .call 23 [(.t 47), (.t 53)], (some ((some 45), true))⟩, xbg 55 .geq 54 0 45 true, ⟨(some 56), .pick (.t 45) (.t 55) (.c (.bool false)), (some ((some 42), false))⟩, xpb 57 42 true 56, xm 9 57] [0, 1, 3, 7, 15, 31, 63, 31, 31, 287, 927, 1951, 3999, 8191, 16383, 32767, 65535, 131071])))))
  (xR [xbk 58 .add 23 1, xm 23 58])))))))
 (
 .seq (.block 2 (xr [xm 60 8, xm 61 60, xmg 62 6 61 true, ⟨(some 63), .lenL (.t 62), (some ((some 61), true))⟩, xbg 64 .gtr 63 1 61 true, xp 65 61 64 false, xm 59 65]
 (
  xd 59
  (xr [⟨(some 4), .mv (.c .nils), none⟩, xk 5 6]
  .ret)
  (xr [xm 67 9, xm 66 67]
  (
  xd 66
  (xr [⟨(some 4), .mv (.c .nils), none⟩, xk 5 7]
  .ret)
  .skip)))))
 (xr [xm 68 6, xm 4 68, xk 5 0]
 .ret)))))))
theorem ok64 : Tryz.f64.body.bind (comp Tryz.prog) = some c64 := by kernel_rfl
def c65 : IR :=
 (xr [⟨(some 2), .box 28 3 (.t 0), none⟩, ⟨(some 3), .box 28 3 (.t 1), none⟩, ⟨(some 4), .new 28 3 [(.bool false), .nils, .nils], none⟩]
 (xr [xg 8 3 3, xc1 9 38 8, xm 7 9, xe 10 7 0, xe 11 7 1, ⟨(some 5), .new 28 3 [(.bool false), .nils, .nils], none⟩, xs 3 5 10, xm 6 11]
 (xr [xg 12 3 2, xg 13 3 5, xc2 14 33 12 13, xs 3 4 14]
 .ret)))
theorem ok65 : Tryz.f65.body.bind (comp Tryz.prog) = some c65 := by kernel_rfl
end Go.Proofs.YtmhhgkchednpjaaGreatDoorK.NatIr
