/-
 The compiled bodies, printed: IrTable.
-/
import Derived.Test.YtoiepmpggabglaaGreatDoorKSh
import Derived.Test.YtoiepmpggabglaaGreatDoorProg
set_option linter.all false
set_option maxHeartbeats 4000000
namespace Go.Proofs.YtoiepmpggabglaaGreatDoorK.NatIr
open AI Go.Proofs
def c7 : IR :=
 (xr [⟨(some 4), .new 30 1 [.nils], none⟩, xk 5 0]
 (xr [xm 13 1, xc1 14 13 13, xm 12 14, xe 15 12 0, xe 16 12 1, xm 6 15, xm 7 16]
 (.seq (xr [xm 17 7, xbk 18 .neq 17 0]
 (
 xd 18
 (xr [⟨(some 19), .build [.nils] [], none⟩, xm 20 7, xs 1 4 19, xm 5 20]
 .ret)
 .skip))
 (.seq (xr [xm 21 6, xL 22 21, xk 23 0]
 (.block 0 (.loop (xr [xb 24 .lss 23 22]
  (
  .seq (xd 24
  .skip
  (.exit 0))
  (
  .seq (.block 1 (xr [xm 25 23, xi 26 1 21 23, xl 27 26, xm 8 25, xm 9 27]
  (xr [xm 29 0, ⟨(some 30), .nilck (.t 29), none⟩, xf 31 5 30, xl 32 31, xm 33 9, ⟨(some 34), .look none true (.str ⟨#[]⟩) (.t 32) (.t 33), none⟩, xm 28 34, xe 35 28 0, xe 36 28 1, xm 10 35, xm 11 36]
  (xr [xm 37 11]
  (
   xd 37
   (xR [xm 38 6, xm 39 8, xm 40 10, xi 41 1 38 39, xs 1 41 40])
   .skip)))))
  (xR [xbk 42 .add 23 1, xm 23 42])))))))
 (.seq (.reg true [xm 43 0, ⟨(some 44), .nilck (.t 43), none⟩, xf 45 0 44, xg 46 2 45, xm 47 6, ⟨(some 48), .call 15 [(.t 47), (.c (.str ⟨#[45]⟩))], none⟩, xc2 49 14 46 48, xe 50 49 0, xe 51 49 1, xs 1 4 50, xm 5 51] [0, 1, 3, 7, 0, 16, 63, 127, 127, 511, 1023])
 .ret)))))
theorem ok7 : Tryz.f7.body.bind (comp Tryz.prog) = some c7 := by kernel_rfl
def c9 : IR :=
 (xr [⟨(some 4), .new 43 10 [(.str ⟨#[]⟩), (.str ⟨#[]⟩), (.int .i64 0), (.bool false), .nils, .nils, (.bool false), .nils, .nils, (.bool false)], none⟩, xkb 5 false]
 (xr [xm 9 0, ⟨(some 10), .nilck (.t 9), none⟩, xf 11 2 10, xl 12 11, xm 13 1, ⟨(some 14), .look none true (.agg [(.str ⟨#[]⟩), (.str ⟨#[]⟩), (.int .i64 0), (.bool false), .nils, .nils, (.bool false), .nils, .nils, (.bool false)]) (.t 12) (.t 13), none⟩, xm 8 14, xe 15 8 0, xe 16 8 1, ⟨(some 6), .new 43 10 [(.str ⟨#[]⟩), (.str ⟨#[]⟩), (.int .i64 0), (.bool false), .nils, .nils, (.bool false), .nils, .nils, (.bool false)], none⟩, xs 10 6 15, xm 7 16]
 (xr [xg 17 10 6, xm 18 7, xs 10 4 17, xm 5 18]
 .ret)))
theorem ok9 : Tryz.f9.body.bind (comp Tryz.prog) = some c9 := by kernel_rfl
def c12 : IR :=
 (xr [⟨(some 2), .mv (.c .null), none⟩, xk 3 0, xk 4 0]
 (xr [⟨(some 10), .mkmap 57, none⟩, ⟨(some 11), .mkmap 58, none⟩, ⟨(some 12), .mkmap 59, none⟩, ⟨(some 13), .mkmap 60, none⟩, xc0 14 26, ⟨(some 15), .mkmap 62, none⟩, ⟨(some 16), .build [.nils, .nils, .nilm, .nilm, .nilm, .nilm, .null, .nilm, (.int .i64 0)] [(2, 1, (.t 10)), (3, 1, (.t 11)), (4, 1, (.t 12)), (5, 1, (.t 13)), (6, 1, (.t 14)), (7, 1, (.t 15))], none⟩, ⟨(some 17), .box 64 9 (.t 16), none⟩, xm 5 17]
 (.seq (xr [xm 18 0, xL 19 18, xk 20 0]
 (.block 0 (.loop (xr [xb 21 .lss 20 19]
  (
  .seq (xd 21
  .skip
  (.exit 0))
  (
  .seq (.block 1 (xr [xi 22 2 18 20, xg 23 2 22, ⟨(some 7), .new 81 2 [(.int .i64 0), .nils], none⟩, xs 2 7 23]
  (.seq (xr [xf 24 1 7, xl 25 24, xL 26 25, xbk 27 .eql 26 0]
  (
   xd 27
   (.exit 1)
   .skip))
  (xr [xk 8 0]
  (.seq (xr [xf 28 1 7, xl 29 28, ⟨(some 30), .slcL 1 (.t 29) (some (.c (.int .i64 1))) none, none⟩, xm 9 30]
  (xr [xf 31 1 7, xl 32 31, ⟨(some 33), .iaddrS 1 (.t 32) (.c (.int .i64 0)), none⟩, xl 34 33]
  (
   .block 2 (xr [⟨(some 36), .bin .eql (.t 34) (.c (.str ⟨#[98, 97, 115, 101]⟩)), none⟩, xm 35 36]
   (
   xd 35
   (xR [xm 37 5, xm 38 9, xc2 39 27 37 38, xm 8 39])
   (xr [⟨(some 41), .bin .eql (.t 34) (.c (.str ⟨#[112, 114, 101, 102, 105, 120]⟩)), none⟩, xm 40 41]
   (
    xd 40
    (xR [xm 42 5, xm 43 9, xc2 44 28 42 43, xm 8 44])
    (xr [⟨(some 46), .bin .eql (.t 34) (.c (.str ⟨#[117, 110, 105, 116]⟩)), none⟩, xm 45 46]
    (
    xd 45
    (xR [xm 47 5, xm 48 9, xc2 49 29 47 48, xm 8 49])
    (xr [⟨(some 51), .bin .eql (.t 34) (.c (.str ⟨#[113, 117, 97, 110, 116, 105, 116, 121]⟩)), none⟩, xm 50 51]
    (
     xd 50
     (xR [xm 52 5, xm 53 9, xc2 54 30 52 53, xm 8 54])
     (xr [⟨(some 56), .bin .eql (.t 34) (.c (.str ⟨#[97, 108, 105, 97, 115]⟩)), none⟩, xm 55 56]
     (
     xd 55
     (xR [xm 57 5, xm 58 9, xc2 59 31 57 58, xm 8 59])
     .skip)))))))))))))
  (xr [xm 60 8, xbk 61 .neq 60 0]
  (
   xd 61
   (.seq (.reg true [xf 62 0 7, xl 63 62, xm 64 8, ⟨(some 2), .mv (.c .null), none⟩, xm 3 63, xm 4 64] [0, 1, 0, 0, 11, 31])
   .ret)
   .skip)))))))
  (xR [xbk 65 .add 20 1, xm 20 65])))))))
 (xr [xm 66 5, xm 2 66, xk 3 0, xk 4 0]
 .ret))))
theorem ok12 : Tryz.f12.body.bind (comp Tryz.prog) = some c12 := by kernel_rfl
def c27 : IR :=
 (xr [xk 4 0]
 (.seq (xr [xm 9 1, xL 10 9, xbk 11 .neq 10 2]
 (
 xd 11
 (xr [xk 4 2]
 .ret)
 .skip))
 (.seq (xr [xm 12 0, xm 13 1, ⟨(some 14), .iaddrS 1 (.t 13) (.c (.int .i64 0)), none⟩, xl 15 14, xc2 16 52 12 15, xm 5 16]
 (xr [xm 17 5, xbk 18 .neq 17 0]
 (
 xd 18
 (xr [xm 19 5, xm 4 19]
 .ret)
 .skip)))
 (xr [xm 21 0, ⟨(some 22), .nilck (.t 21), none⟩, xf 23 8 22, xl 24 23, xc1 25 53 24, xm 20 25, xe 26 20 0, xe 27 20 1, ⟨(some 6), .new 121 8 [(.int .i64 0), (.int .i64 0), (.int .i64 0), (.int .i64 0), (.int .i64 0), (.int .i64 0), (.int .i64 0), (.int .i64 0)], none⟩, xs 8 6 26, xm 7 27]
 (
 .seq (.block 0 (xr [xm 29 1, ⟨(some 30), .iaddrS 1 (.t 29) (.c (.int .i64 1)), none⟩, xl 31 30, xc1 32 54 31, xn 33 32, xm 28 33]
 (
  xd 28
  (xr [xk 4 2]
  .ret)
  (xr [xm 35 7, xn 36 35, xm 34 36]
  (
  xd 34
  (xr [xk 4 11]
  .ret)
  .skip)))))
 (.seq (.seq (.reg true [xm 37 0, xg 38 8 6, xm 39 1, ⟨(some 40), .iaddrS 1 (.t 39) (.c (.int .i64 1)), none⟩, xl 41 40, xc3 42 55 37 38 41, xm 8 42] [0, 0, 0, 4, 12, 31, 63])
 (xr [xm 43 8, xbk 44 .neq 43 0]
 (
 xd 44
 (xr [xm 45 8, xm 4 45]
 .ret)
 .skip)))
 (.seq (.reg true [xm 46 0, xm 47 1, ⟨(some 48), .iaddrS 1 (.t 47) (.c (.int .i64 0)), none⟩, xl 49 48, xm 50 1, ⟨(some 51), .iaddrS 1 (.t 50) (.c (.int .i64 0)), none⟩, xl 52 51, xm 53 0, ⟨(some 54), .nilck (.t 53), none⟩, xf 55 8 54, xl 56 55, ⟨(some 57), .call 57 [(.c (.int .i64 1))], none⟩, ⟨(some 58), .call 57 [(.c (.int .i64 0))], none⟩, ⟨(some 59), .build [(.str ⟨#[]⟩), (.str ⟨#[]⟩), (.int .i64 0), (.bool false), .nils, .nils, (.bool false), .nils, .nils, (.bool false)] [(0, 1, (.t 49)), (1, 1, (.t 52)), (2, 1, (.t 56)), (3, 3, (.t 57)), (6, 3, (.t 58))], none⟩, xg 60 8 6, ⟨(some 61), .call 57 [(.c (.int .i64 1))], none⟩, ⟨(some 62), .build [(.int .i64 0), (.int .i64 0), (.int .i64 0), (.int .i64 0), (.int .i64 0), (.int .i64 0), (.int .i64 0), (.int .i64 0), (.bool false), .nils, .nils] [(0, 8, (.t 60)), (8, 3, (.t 61))], none⟩, xc3 63 56 46 59 62] [0, 0, 2, 6, 0, 16, 48, 0, 128, 384, 896, 0, 2048, 8190, 0, 6144, 55296, 131071])
 (xr [xm 64 0, ⟨(some 65), .nilck (.t 64), none⟩, xf 66 8 65, xl 67 66, xbk 68 .add 67 1, ⟨(some 69), .nilck (.t 64), none⟩, xf 70 8 69, xs 1 70 68]
 (xr [xk 4 0]
 .ret)))))))))
theorem ok27 : Tryz.f27.body.bind (comp Tryz.prog) = some c27 := by kernel_rfl
def c28 : IR :=
 (xr [xk 4 0]
 (.seq (xr [xm 13 1, xL 14 13, xbk 15 .neq 14 3, xm 16 15, xmg 17 1 16 false, ⟨(some 18), .slcL 1 (.t 17) none (some (.c (.int .i64 1))), (some ((some 16), false))⟩, ⟨(some 19), .build [.nils, .nils] [(1, 1, (.t 18))], (some ((some 16), false))⟩, ⟨(some 20), .call 58 [(.t 19)], (some ((some 16), false))⟩, xng 21 20 16 false, xpb 22 16 true 21]
 (
 xd 22
 (xr [xk 4 2]
 .ret)
 .skip))
 (.seq (.seq (.reg true [xm 24 0, ⟨(some 25), .nilck (.t 24), none⟩, xf 26 4 25, xl 27 26, xm 28 1, ⟨(some 29), .iaddrS 1 (.t 28) (.c (.int .i64 0)), none⟩, xl 30 29, ⟨(some 31), .look none true (.agg [(.bool false), .nils, .nils]) (.t 27) (.t 30), none⟩, xm 23 31, xe 32 23 0, xe 33 23 1, ⟨(some 5), .new 41 3 [(.bool false), .nils, .nils], none⟩, xs 3 5 32, xm 6 33] [0, 1, 3, 7, 0, 16, 48, 127, 255, 511, 511, 0, 3071, 8191])
 (xr [xm 34 6]
 (
 xd 34
 (xr [xk 4 10]
 .ret)
 .skip)))
 (xr [⟨(some 35), .mkmap 130, none⟩, ⟨none, .mput none (.t 35) (.c (.str ⟨#[50]⟩)) (.c (.int .i64 2)), none⟩, ⟨none, .mput none (.t 35) (.c (.str ⟨#[49, 48]⟩)) (.c (.int .i64 10)), none⟩, xm 36 35, xm 37 1, ⟨(some 38), .iaddrS 1 (.t 37) (.c (.int .i64 1)), none⟩, xl 39 38, ⟨(some 40), .look none false (.int .i64 0) (.t 36) (.t 39), none⟩, xm 7 40]
 (xr [xm 42 1, ⟨(some 43), .iaddrS 1 (.t 42) (.c (.int .i64 2)), none⟩, xl 44 43, xc1 45 59 44, xm 41 45, xe 46 41 0, xe 47 41 1, ⟨(some 8), .new 39 2 [(.bool false), .nils], none⟩, xs 2 8 46, xm 9 47]
 (xr [xf 49 1 8, xg 50 1 49, xc1 51 60 50, xm 48 51, xe 52 48 0, xe 53 48 1, xm 10 52, xm 11 53]
 (.seq (.seq (.reg true [xm 54 7, xbk 55 .eql 54 0, xm 56 55, xmg 57 9 56 false, xng 58 57 56 false, xpb 59 56 true 58, xm 60 59, ⟨(some 61), .load true 2 (.t 8), (some ((some 60), false))⟩, ⟨(some 62), .call 20 [(.t 61)], (some ((some 60), false))⟩, xmg 63 1 60 false, ⟨(some 64), .iaddrS 1 (.t 63) (.c (.int .i64 2)), (some ((some 60), false))⟩, xlg 65 64 60 false, ⟨(some 66), .bin .neq (.t 62) (.t 65), (some ((some 60), false))⟩, xpb 67 60 true 66, xm 68 67, xmg 69 11 68 false, xng 70 69 68 false, xpb 71 68 true 70, xm 72 71, xmg 73 10 72 false, ⟨(some 74), .bin .gtr (.t 73) (.c (.int .u64 30)), (some ((some 72), false))⟩, xpb 75 72 true 74] [0, 1, 3, 7, 15, 31, 63, 127, 255, 127, 639, 1663, 4095, 8191, 16383, 32767, 65535, 131071, 262143, 524287, 1048575, 2097151])
 (
 xd 75
 (xr [xk 4 2]
 .ret)
 .skip))
 (xr [xm 76 10, ⟨(some 77), .conv .i64 (.t 76), none⟩, xm 12 77]
 (.seq (xr [xf 78 0 8, xl 79 78]
 (
 xd 79
 (xR [xm 80 12, ⟨(some 81), .neg (.t 80), none⟩, xm 12 81])
 .skip))
 (.seq (.reg true [xm 83 0, ⟨(some 84), .nilck (.t 83), none⟩, xf 85 4 84, xl 86 85, xm 87 1, ⟨(some 88), .iaddrS 1 (.t 87) (.c (.int .i64 0)), none⟩, xl 89 88, xm 90 7, xc1 91 57 90, xm 92 12, xc2 93 61 91 92, xm 82 93, xe 94 82 0, xe 95 82 1, ⟨none, .mput none (.t 86) (.t 89) (.t 94), none⟩] [0, 1, 3, 7, 0, 16, 48, 0, 128, 0, 896, 1920, 3968, 3968, 8191])
 (.seq (.reg true [xm 96 0, xm 97 0, ⟨(some 98), .nilck (.t 97), none⟩, xf 99 0 98, xf 100 1 99, xl 101 100, xm 102 1, ⟨(some 103), .iaddrS 1 (.t 102) (.c (.int .i64 0)), none⟩, xl 104 103, ⟨(some 105), .lit 9 1 1 [(.str ⟨#[]⟩)] [(0, 1, (.t 104))], none⟩, ⟨(some 106), .app 9 1 16 (.t 101) (.t 105), none⟩, ⟨(some 107), .nilck (.t 96), none⟩, xf 108 0 107, xf 109 1 108, xs 1 109 106] [0, 0, 2, 6, 14, 30, 0, 64, 192, 448, 1022, 2047, 4095, 8191, 16383])
 (xr [xk 4 0]
 .ret))))))))))))
theorem ok28 : Tryz.f28.body.bind (comp Tryz.prog) = some c28 := by kernel_rfl
def c29 : IR :=
 (xr [⟨(some 2), .box 23 1 (.t 0), none⟩, xk 4 0]
 (.seq (xr [xm 15 1, xL 16 15, xbk 17 .neq 16 3, xm 18 17, xmg 19 1 18 true, ⟨(some 20), .lenL (.t 19), (some ((some 18), true))⟩, xbg 21 .neq 20 4 18 true, xp 22 18 21 false]
 (
 xd 22
 (xr [xk 4 2]
 .ret)
 .skip))
 (.seq (.seq (.reg true [xl 23 2, xm 24 1, ⟨(some 25), .iaddrS 1 (.t 24) (.c (.int .i64 0)), none⟩, xl 26 25, xc2 27 52 23 26, xm 5 27] [0, 0, 2, 6, 15, 31])
 (xr [xm 28 5, xbk 29 .neq 28 0]
 (
 xd 29
 (xr [xm 30 5, xm 4 30]
 .ret)
 .skip)))
 (.seq (.reg true [xm 31 1, ⟨(some 32), .iaddrS 1 (.t 31) (.c (.int .i64 0)), none⟩, xl 33 32, xm 34 1, ⟨(some 35), .iaddrS 1 (.t 34) (.c (.int .i64 2)), none⟩, xl 36 35, ⟨(some 37), .call 57 [(.c (.int .i64 0))], none⟩, xm 38 1, xL 39 38, xbk 40 .eql 39 4, ⟨(some 41), .build [(.str ⟨#[]⟩), (.str ⟨#[]⟩), (.int .i64 0), (.bool false), .nils, .nils, (.bool false), .nils, .nils, (.bool false)] [(0, 1, (.t 33)), (1, 1, (.t 36)), (2, 1, (.c (.int .i64 (-1)))), (6, 3, (.t 37)), (9, 1, (.t 40))], none⟩, ⟨(some 6), .new 43 10 [(.str ⟨#[]⟩), (.str ⟨#[]⟩), (.int .i64 0), (.bool false), .nils, .nils, (.bool false), .nils, .nils, (.bool false)], none⟩, xs 10 6 41] [0, 1, 3, 0, 8, 24, 0, 0, 128, 384, 1023, 0, 4095])
 (xr [xm 43 1, ⟨(some 44), .iaddrS 1 (.t 43) (.c (.int .i64 1)), none⟩, xl 45 44, xc1 46 62 45, xm 42 46, xe 47 42 0, xe 48 42 1, ⟨(some 7), .new 41 3 [(.bool false), .nils, .nils], none⟩, xs 3 7 47, xm 8 48]
 (.seq (xr [xm 49 8, xn 50 49, xm 51 50, ⟨(some 52), .load true 3 (.t 7), (some ((some 51), false))⟩, ⟨(some 53), .call 63 [(.t 52)], (some ((some 51), false))⟩, xbg 54 .leq 53 0 51 false, xpb 55 51 true 54]
 (
 xd 55
 (xr [xk 4 2]
 .ret)
 .skip))
 (xr [xg 56 3 7, xf 57 3 6, xs 3 57 56]
 (.seq (.reg true [xl 59 2, xm 60 1, ⟨(some 61), .iaddrS 1 (.t 60) (.c (.int .i64 2)), none⟩, xl 62 61, xc2 63 64 59 62, xm 58 63, xe 64 58 0, xe 65 58 1, ⟨(some 9), .new 69 3 [.nils, .nils, .nils], none⟩, xs 3 9 64, xm 10 65] [0, 0, 2, 6, 15, 31, 63, 63, 0, 383, 1023])
 (.seq (xr [xm 66 10, xbk 67 .neq 66 0]
 (
 xd 67
 (xr [xm 68 10, xm 4 68]
 .ret)
 .skip))
 (.seq (xr [xf 69 9 6, xl 70 69]
 (
 xd 70
 (xr [xm 72 1, ⟨(some 73), .iaddrS 1 (.t 72) (.c (.int .i64 3)), none⟩, xl 74 73, xc1 75 62 74, xm 71 75, xe 76 71 0, xe 77 71 1, xf 78 6 6, xs 3 78 76, xm 8 77]
 (xr [xm 79 8, xn 80 79]
 (
  xd 80
  (xr [xk 4 2]
  .ret)
  .skip)))
 .skip))
 (.seq (.reg true [xl 82 2, ⟨(some 83), .nilck (.t 82), none⟩, xf 84 2 83, xl 85 84, xm 86 1, ⟨(some 87), .iaddrS 1 (.t 86) (.c (.int .i64 2)), none⟩, xl 88 87, ⟨(some 89), .look none true (.agg [(.str ⟨#[]⟩), (.str ⟨#[]⟩), (.int .i64 0), (.bool false), .nils, .nils, (.bool false), .nils, .nils, (.bool false)]) (.t 85) (.t 88), none⟩, xm 81 89, xe 90 81 0, xe 91 81 1, ⟨(some 11), .new 43 10 [(.str ⟨#[]⟩), (.str ⟨#[]⟩), (.int .i64 0), (.bool false), .nils, .nils, (.bool false), .nils, .nils, (.bool false)], none⟩, xs 10 11 90, xm 12 91] [0, 1, 3, 7, 0, 16, 48, 127, 255, 511, 511, 0, 3071, 8191])
 (xr [⟨(some 92), .mkfn 65 [(.t 2)], none⟩, xm 13 92]
 (.seq (xr [xf 93 9 6, xl 94 93, xm 95 94, xmg 96 12 95 true, xng 97 96 95 true, xmg 98 97 95 true, xfg 99 2 11 98 false, xlg 100 99 98 false, xbg 101 .lss 100 0 98 false, ⟨(some 102), .pick (.t 98) (.c (.bool true)) (.t 101), (some ((some 95), true))⟩, xp 103 95 102 false, xm 104 103, xfg 105 0 9 104 false, xlg 106 105 104 false, xfg 107 1 9 104 false, xlg 108 107 104 false, ⟨(some 109), .lit 67 1 2 [.nils, .nils] [(0, 1, (.t 106)), (1, 1, (.t 108))], (some ((some 104), false))⟩, ⟨(some 110), .call 67 [(.t 109)], (some ((some 104), false))⟩, xmg 111 13 104 false, ⟨(some 112), .call 66 [(.t 110), (.t 111)], (some ((some 104), false))⟩, xpb 113 104 true 112]
 (
 xd 113
 (xr [xk 4 6]
 .ret)
 .skip))
 (xr [xl 115 2, xg 116 3 9, xc2 117 68 115 116, xm 114 117, xe 118 114 0, xe 119 114 1, ⟨(some 14), .new 121 8 [(.int .i64 0), (.int .i64 0), (.int .i64 0), (.int .i64 0), (.int .i64 0), (.int .i64 0), (.int .i64 0), (.int .i64 0)], none⟩, xs 8 14 118, xm 8 119]
 (.seq (xr [xm 120 8, xn 121 120]
 (
 xd 121
 (xr [xk 4 5]
 .ret)
 .skip))
 (.seq (.reg true [xg 122 3 7, xl 123 2, xg 124 3 9, xc2 125 70 123 124, xc2 126 69 122 125, xs 3 7 126] [0, 0, 0, 6, 15, 31])
 (.seq (xr [xf 127 0 7, xf 128 1 127, xg 129 1 128, xc1 130 21 129, xS 131 130, xbk 132 .gtr 131 100, xm 133 132, xfg 134 2 7 133 false, ⟨(some 135), .load true 1 (.t 134), (some ((some 133), false))⟩, ⟨(some 136), .call 21 [(.t 135)], (some ((some 133), false))⟩, ⟨(some 137), .lenS (.t 136), (some ((some 133), false))⟩, xbg 138 .gtr 137 100 133 false, xpb 139 133 true 138]
 (
 xd 139
 (xr [xk 4 11]
 .ret)
 .skip))
 (xr [xl 140 2, xg 141 10 6, xg 142 8 14, xg 143 3 7, ⟨(some 144), .build [(.int .i64 0), (.int .i64 0), (.int .i64 0), (.int .i64 0), (.int .i64 0), (.int .i64 0), (.int .i64 0), (.int .i64 0), (.bool false), .nils, .nils] [(0, 8, (.t 142)), (8, 3, (.t 143))], none⟩, xc3 145 56 140 141 144]
 (xr [xk 4 0]
 .ret)))))))))))))))))))
theorem ok29 : Tryz.f29.body.bind (comp Tryz.prog) = some c29 := by kernel_rfl
def c30 : IR :=
 (xr [xk 4 0]
 (.seq (xr [xm 9 1, xL 10 9, xbk 11 .neq 10 2, xm 12 11, xmg 13 1 12 false, ⟨(some 14), .iaddrS 1 (.t 13) (.c (.int .i64 0)), (some ((some 12), false))⟩, xlg 15 14 12 false, ⟨(some 16), .call 54 [(.t 15)], (some ((some 12), false))⟩, xng 17 16 12 false, xpb 18 12 true 17]
 (
 xd 18
 (xr [xk 4 2]
 .ret)
 .skip))
 (xr [xm 20 0, xm 21 1, ⟨(some 22), .iaddrS 1 (.t 21) (.c (.int .i64 1)), none⟩, xl 23 22, xc2 24 64 20 23, xm 19 24, xe 25 19 0, xe 26 19 1, ⟨(some 5), .new 69 3 [.nils, .nils, .nils], none⟩, xs 3 5 25, xm 6 26]
 (.seq (xr [xm 27 6, xbk 28 .neq 27 0]
 (
 xd 28
 (xr [xm 29 6, xm 4 29]
 .ret)
 .skip))
 (xr [xm 31 0, xg 32 3 5, xc2 33 68 31 32, xm 30 33, xe 34 30 0, xe 35 30 1, ⟨(some 7), .new 121 8 [(.int .i64 0), (.int .i64 0), (.int .i64 0), (.int .i64 0), (.int .i64 0), (.int .i64 0), (.int .i64 0), (.int .i64 0)], none⟩, xs 8 7 34, xm 8 35]
 (.seq (xr [xm 36 8, xn 37 36]
 (
 xd 37
 (xr [xk 4 5]
 .ret)
 .skip))
 (.seq (.reg true [xm 38 0, xg 39 8 7, xm 40 1, ⟨(some 41), .iaddrS 1 (.t 40) (.c (.int .i64 0)), none⟩, xl 42 41, xc3 43 55 38 39 42, xm 4 43] [0, 0, 0, 4, 12, 31, 63])
 .ret)))))))
theorem ok30 : Tryz.f30.body.bind (comp Tryz.prog) = some c30 := by kernel_rfl
def c31 : IR :=
 (xr [xk 4 0]
 (.seq (xr [xm 8 1, xL 9 8, xbk 10 .neq 9 2]
 (
 xd 10
 (xr [xk 4 2]
 .ret)
 .skip))
 (.seq (xr [xm 11 0, xm 12 1, ⟨(some 13), .iaddrS 1 (.t 12) (.c (.int .i64 0)), none⟩, xl 14 13, xc2 15 52 11 14, xm 5 15]
 (xr [xm 16 5, xbk 17 .neq 16 0]
 (
 xd 17
 (xr [xm 18 5, xm 4 18]
 .ret)
 .skip)))
 (.seq (xr [xm 20 0, xm 21 1, ⟨(some 22), .iaddrS 1 (.t 21) (.c (.int .i64 1)), none⟩, xl 23 22, xc2 24 64 20 23, xm 19 24, xe 25 19 0, xe 26 19 1, ⟨(some 6), .new 69 3 [.nils, .nils, .nils], none⟩, xs 3 6 25, xm 7 26]
 (xr [xm 27 7, xbk 28 .neq 27 0]
 (
 xd 28
 (xr [xm 29 7, xm 4 29]
 .ret)
 .skip)))
 (.seq (.reg true [xm 30 0, ⟨(some 31), .nilck (.t 30), none⟩, xf 32 5 31, xl 33 32, xm 34 1, ⟨(some 35), .iaddrS 1 (.t 34) (.c (.int .i64 0)), none⟩, xl 36 35, xm 37 1, ⟨(some 38), .iaddrS 1 (.t 37) (.c (.int .i64 1)), none⟩, xl 39 38, ⟨none, .mput none (.t 33) (.t 36) (.t 39), none⟩] [0, 1, 3, 7, 0, 16, 48, 0, 128, 384, 1023])
 (xr [xk 4 0]
 .ret))))))
theorem ok31 : Tryz.f31.body.bind (comp Tryz.prog) = some c31 := by kernel_rfl
def c52 : IR :=
 (xr [xk 4 0]
 (xr [xm 10 0, ⟨(some 11), .nilck (.t 10), none⟩, xf 12 2 11, xl 13 12, xm 14 1, ⟨(some 15), .look none true (.agg [(.str ⟨#[]⟩), (.str ⟨#[]⟩), (.int .i64 0), (.bool false), .nils, .nils, (.bool false), .nils, .nils, (.bool false)]) (.t 13) (.t 14), none⟩, xm 9 15, xe 16 9 0, xe 17 9 1, ⟨(some 5), .new 43 10 [(.str ⟨#[]⟩), (.str ⟨#[]⟩), (.int .i64 0), (.bool false), .nils, .nils, (.bool false), .nils, .nils, (.bool false)], none⟩, xs 10 5 16, xm 6 17]
 (xr [xm 19 0, ⟨(some 20), .nilck (.t 19), none⟩, xf 21 5 20, xl 22 21, xm 23 1, ⟨(some 24), .look none true (.str ⟨#[]⟩) (.t 22) (.t 23), none⟩, xm 18 24, xe 25 18 0, xe 26 18 1, xm 7 25, xm 8 26]
 (
 .seq (.block 0 (xr [xm 28 1, ⟨(some 29), .lit 9 1 1 [(.str ⟨#[]⟩)] [(0, 1, (.t 28))], none⟩, ⟨(some 30), .build [.nils, .nils] [(0, 1, (.t 29))], none⟩, xc1 31 58 30, xn 32 31, xm 27 32]
 (
  xd 27
  (xr [xk 4 2]
  .ret)
  (.seq (xr [xm 34 6, xm 33 34]
  (
  xd 33
  .skip
  (xR [xm 35 8, xm 33 35])))
  (
  xd 33
  (xr [xk 4 10]
  .ret)
  .skip)))))
 (xr [xk 4 0]
 .ret)))))
theorem ok52 : Tryz.f52.body.bind (comp Tryz.prog) = some c52 := by kernel_rfl
def c54 : IR :=
 (xr [xkb 2 false]
 (xr [xm 6 0, xc1 7 13 6, xm 5 7, xe 8 5 0, xe 9 5 1, xm 3 8, xm 4 9]
 (xr [xm 10 4, xbk 11 .eql 10 0, xm 2 11]
 .ret)))
theorem ok54 : Tryz.f54.body.bind (comp Tryz.prog) = some c54 := by kernel_rfl
def c55 : IR :=
 (xr [⟨(some 4), .box 121 8 (.t 1), none⟩, xk 6 0]
 (.seq (.seq (.reg true [xm 7 0, ⟨(some 8), .nilck (.t 7), none⟩, xf 9 6 8, xl 10 9, xg 11 8 4, xm 12 2, xc3 13 90 10 11 12, xn 14 13] [0, 1, 3, 7, 0, 0, 63, 127])
 (
 xd 14
 (xr [xk 6 10]
 .ret)
 .skip))
 (xr [xm 15 0, ⟨(some 16), .nilck (.t 15), none⟩, xf 17 7 16, xl 18 17, xm 19 2, ⟨none, .mput none (.t 18) (.t 19) (.c (.bool true)), none⟩]
 (xr [xk 6 0]
 .ret))))
theorem ok55 : Tryz.f55.body.bind (comp Tryz.prog) = some c55 := by kernel_rfl
def c56 : IR :=
 (xr [⟨(some 4), .box 43 10 (.t 1), none⟩, ⟨(some 5), .box 128 11 (.t 2), none⟩]
 (.seq (.reg true [xm 6 0, ⟨(some 7), .nilck (.t 6), none⟩, xf 8 2 7, xl 9 8, xf 10 0 4, xl 11 10, xg 12 10 4, ⟨none, .mput none (.t 9) (.t 11) (.t 12), none⟩] [0, 1, 3, 7, 0, 16, 0, 127])
 (.seq (.reg true [xm 13 0, ⟨(some 14), .nilck (.t 13), none⟩, xf 15 3 14, xl 16 15, xf 17 0 4, xl 18 17, xg 19 11 5, ⟨none, .mput none (.t 16) (.t 18) (.t 19), none⟩] [0, 1, 3, 7, 0, 16, 0, 127])
 (.reg true [xm 20 0, xm 21 0, ⟨(some 22), .nilck (.t 21), none⟩, xf 23 0 22, xf 24 0 23, xl 25 24, xf 26 0 4, xl 27 26, ⟨(some 28), .lit 9 1 1 [(.str ⟨#[]⟩)] [(0, 1, (.t 27))], none⟩, ⟨(some 29), .app 9 1 16 (.t 25) (.t 28), none⟩, ⟨(some 30), .nilck (.t 20), none⟩, xf 31 0 30, xf 32 0 31, xs 1 32 29] [0, 0, 2, 6, 14, 30, 0, 64, 192, 510, 1023, 2047, 4095, 8191]))))
theorem ok56 : Tryz.f56.body.bind (comp Tryz.prog) = some c56 := by kernel_rfl
def c62 : IR :=
 (xr [⟨(some 2), .new 41 3 [(.bool false), .nils, .nils], none⟩, xkb 3 false]
 (.seq (xr [xm 4 0, xS 5 4, xbk 6 .gtr 5 100]
 (
 xd 6
 (xr [⟨(some 7), .call 57 [(.c (.int .i64 0))], none⟩, xs 3 2 7, xkb 3 false]
 .ret)
 .skip))
 (xr [xm 8 0, xc1 9 97 8, xe 10 9 0, xe 11 9 1, xs 3 2 10, xm 3 11]
 .ret)))
theorem ok62 : Tryz.f62.body.bind (comp Tryz.prog) = some c62 := by kernel_rfl
def c64 : IR :=
 (xr [⟨(some 4), .new 69 3 [.nils, .nils, .nils], none⟩, xk 5 0]
 (xr [xm 9 0, ⟨(some 10), .nilck (.t 9), none⟩, xf 11 0 10, xg 12 2 11, xm 13 1, xc2 14 14 12 13, xm 8 14, xe 15 8 0, xe 16 8 1, ⟨(some 6), .new 30 1 [.nils], none⟩, xs 1 6 15, xm 7 16]
 (
 .seq (.block 0 (xr [xm 18 7, xbk 19 .neq 18 0, xm 17 19]
 (
  xd 17
  (xr [⟨(some 20), .build [.nils, .nils, .nils] [], none⟩, xm 21 7, xs 3 4 20, xm 5 21]
  .ret)
  (xr [xf 23 0 6, xl 24 23, xL 25 24, xbk 26 .neq 25 1, xm 22 26]
  (
  xd 22
  (xr [⟨(some 27), .build [.nils, .nils, .nils] [], none⟩, xs 3 4 27, xk 5 2]
  .ret)
  .skip)))))
 (xr [xf 28 0 6, xl 29 28, ⟨(some 30), .iaddrS 3 (.t 29) (.c (.int .i64 0)), none⟩, xg 31 3 30, xs 3 4 31, xk 5 0]
 .ret))))
theorem ok64 : Tryz.f64.body.bind (comp Tryz.prog) = some c64 := by kernel_rfl
def c65 : IR :=
 (xr [⟨(some 2), .box 98 3 (.t 0), none⟩, xkb 3 false]
 (.seq (.reg true [xl 4 1, ⟨(some 5), .nilck (.t 4), none⟩, xf 6 2 5, xl 7 6, xf 8 1 2, xl 9 8, ⟨(some 10), .look none false (.agg [(.str ⟨#[]⟩), (.str ⟨#[]⟩), (.int .i64 0), (.bool false), .nils, .nils, (.bool false), .nils, .nils, (.bool false)]) (.t 7) (.t 9), none⟩, ⟨(some 11), .fld false 9 1 (.t 10), none⟩, xm 3 11] [0, 1, 3, 7, 0, 16, 63, 127, 255])
 .ret))
theorem ok65 : Tryz.f65.body.bind (comp Tryz.prog) = some c65 := by kernel_rfl
def c68 : IR :=
 (xr [⟨(some 3), .box 69 3 (.t 1), none⟩, ⟨(some 4), .new 121 8 [(.int .i64 0), (.int .i64 0), (.int .i64 0), (.int .i64 0), (.int .i64 0), (.int .i64 0), (.int .i64 0), (.int .i64 0)], none⟩, xkb 5 false]
 (xr [⟨(some 6), .new 121 8 [(.int .i64 0), (.int .i64 0), (.int .i64 0), (.int .i64 0), (.int .i64 0), (.int .i64 0), (.int .i64 0), (.int .i64 0)], none⟩]
 (.seq (xr [xf 14 0 3, xl 15 14, xf 16 1 3, xl 17 16, ⟨(some 18), .lit 67 1 2 [.nils, .nils] [(0, 1, (.t 15)), (1, 1, (.t 17))], none⟩, xc1 19 67 18, xL 20 19, xk 21 0]
 (.block 0 (.loop (xr [xb 22 .lss 21 20]
  (
  .seq (xd 22
  .skip
  (.exit 0))
  (
  .seq (.block 1 (xr [xm 23 21, xi 24 3 19 21, xg 25 3 24, ⟨(some 8), .new 98 3 [(.str ⟨#[]⟩), (.str ⟨#[]⟩), (.int .i64 0)], none⟩, xm 7 23, xs 3 8 25]
  (.seq (.reg true [xm 27 0, ⟨(some 28), .nilck (.t 27), none⟩, xf 29 3 28, xl 30 29, xf 31 1 8, xl 32 31, ⟨(some 33), .look none true (.agg [(.int .i64 0), (.int .i64 0), (.int .i64 0), (.int .i64 0), (.int .i64 0), (.int .i64 0), (.int .i64 0), (.int .i64 0), (.bool false), .nils, .nils]) (.t 30) (.t 32), none⟩, xm 26 33, xe 34 26 0, xe 35 26 1, ⟨(some 9), .new 128 11 [(.int .i64 0), (.int .i64 0), (.int .i64 0), (.int .i64 0), (.int .i64 0), (.int .i64 0), (.int .i64 0), (.int .i64 0), (.bool false), .nils, .nils], none⟩, xs 11 9 34, xm 10 35] [0, 1, 3, 7, 0, 16, 63, 127, 255, 255, 0, 1535, 4095])
  (.seq (xr [xm 36 10, xn 37 36]
  (
   xd 37
   (xr [⟨(some 38), .build [(.int .i64 0), (.int .i64 0), (.int .i64 0), (.int .i64 0), (.int .i64 0), (.int .i64 0), (.int .i64 0), (.int .i64 0)] [], none⟩, xs 8 4 38, xkb 5 false]
   .ret)
   .skip))
  (xr [xf 40 0 9, xg 41 8 40, xf 42 2 8, xl 43 42, xc2 44 100 41 43, xm 39 44, xe 45 39 0, xe 46 39 1, ⟨(some 11), .new 121 8 [(.int .i64 0), (.int .i64 0), (.int .i64 0), (.int .i64 0), (.int .i64 0), (.int .i64 0), (.int .i64 0), (.int .i64 0)], none⟩, xs 8 11 45, xm 10 46]
  (.seq (xr [xm 47 7, xf 48 0 3, xl 49 48, xL 50 49, xb 51 .geq 47 50]
  (
   xd 51
   (xR [xg 52 8 11, xc1 53 101 52, xs 8 11 53])
   .skip))
  (xr [xg 55 8 6, xg 56 8 11, xc2 57 102 55 56, xm 54 57, xe 58 54 0, xe 59 54 1, ⟨(some 12), .new 121 8 [(.int .i64 0), (.int .i64 0), (.int .i64 0), (.int .i64 0), (.int .i64 0), (.int .i64 0), (.int .i64 0), (.int .i64 0)], none⟩, xs 8 12 58, xm 13 59]
  (.seq (xr [xm 60 10, xn 61 60, xm 62 61, xmg 63 13 62 false, xng 64 63 62 false, xpb 65 62 true 64]
  (
   xd 65
   (xr [⟨(some 66), .build [(.int .i64 0), (.int .i64 0), (.int .i64 0), (.int .i64 0), (.int .i64 0), (.int .i64 0), (.int .i64 0), (.int .i64 0)] [], none⟩, xs 8 4 66, xkb 5 false]
   .ret)
   .skip))
  (xR [xg 67 8 12, xs 8 6 67])))))))))
  (xR [xbk 68 .add 21 1, xm 21 68])))))))
 (xr [xg 69 8 6, xs 8 4 69, xkb 5 true]
 .ret))))
theorem ok68 : Tryz.f68.body.bind (comp Tryz.prog) = some c68 := by kernel_rfl
def c70 : IR :=
 (xr [⟨(some 3), .box 69 3 (.t 1), none⟩, ⟨(some 4), .new 41 3 [(.bool false), .nils, .nils], none⟩]
 (xr [⟨(some 12), .call 57 [(.c (.int .i64 1))], none⟩, ⟨(some 5), .new 41 3 [(.bool false), .nils, .nils], none⟩, xs 3 5 12]
 (.seq (xr [xf 13 0 3, xl 14 13, xf 15 1 3, xl 16 15, ⟨(some 17), .lit 67 1 2 [.nils, .nils] [(0, 1, (.t 14)), (1, 1, (.t 16))], none⟩, xc1 18 67 17, xL 19 18, xk 20 0]
 (.block 0 (.loop (xr [xb 21 .lss 20 19]
  (
  .seq (xd 21
  .skip
  (.exit 0))
  (
  .seq (.block 1 (xr [xm 22 20, xi 23 3 18 20, xg 24 3 23, ⟨(some 7), .new 98 3 [(.str ⟨#[]⟩), (.str ⟨#[]⟩), (.int .i64 0)], none⟩, xm 6 22, xs 3 7 24]
  (.seq (.reg true [xm 25 0, ⟨(some 26), .nilck (.t 25), none⟩, xf 27 3 26, xl 28 27, xf 29 1 7, xl 30 29, ⟨(some 31), .look none false (.agg [(.int .i64 0), (.int .i64 0), (.int .i64 0), (.int .i64 0), (.int .i64 0), (.int .i64 0), (.int .i64 0), (.int .i64 0), (.bool false), .nils, .nils]) (.t 28) (.t 30), none⟩, ⟨(some 32), .fld true 8 3 (.t 31), none⟩, ⟨(some 8), .new 41 3 [(.bool false), .nils, .nils], none⟩, xs 3 8 32] [0, 1, 3, 7, 0, 16, 63, 127, 0, 511])
  (.seq (xr [xf 33 0 7, xl 34 33, ⟨(some 35), .bin .neq (.t 34) (.c (.str ⟨#[]⟩)), none⟩]
  (
   xd 35
   (.reg true [xg 36 3 8, xm 37 0, ⟨(some 38), .nilck (.t 37), none⟩, xf 39 4 38, xl 40 39, xf 41 0 7, xl 42 41, ⟨(some 43), .look none false (.agg [(.bool false), .nils, .nils]) (.t 40) (.t 42), none⟩, xc2 44 69 36 43, xs 3 8 44] [0, 0, 2, 6, 14, 0, 32, 126, 255, 511])
   .skip))
  (xr [xf 45 2 7, xl 46 45, xm 9 46]
  (.seq (xr [xm 47 6, xf 48 0 3, xl 49 48, xL 50 49, xb 51 .geq 47 50]
  (
   xd 51
   (xR [xm 52 9, ⟨(some 53), .neg (.t 52), none⟩, xm 9 53])
   .skip))
  (xr [xg 55 3 8, xm 56 9, xc2 57 61 55 56, xm 54 57, xe 58 54 0, xe 59 54 1, xs 3 8 58]
  (xR [xg 60 3 5, xg 61 3 8, xc2 62 69 60 61, xs 3 5 62]))))))))
  (xR [xbk 63 .add 20 1, xm 20 63])))))))
 (.seq (.reg true [⟨(some 65), .call 91 [(.c (.int .i64 1))], none⟩, xf 66 2 3, xg 67 1 66, xc2 68 40 65 67, xm 64 68, xe 69 64 0, xe 70 64 1, ⟨(some 10), .new 41 3 [(.bool false), .nils, .nils], none⟩, xs 3 10 69, xm 11 70] [0, 0, 2, 7, 15, 31, 31, 0, 191, 511])
 (xr [xg 71 3 5, xg 72 3 10, xc2 73 69 71 72, xs 3 4 73]
 .ret)))))
theorem ok70 : Tryz.f70.body.bind (comp Tryz.prog) = some c70 := by kernel_rfl
end Go.Proofs.YtoiepmpggabglaaGreatDoorK.NatIr
