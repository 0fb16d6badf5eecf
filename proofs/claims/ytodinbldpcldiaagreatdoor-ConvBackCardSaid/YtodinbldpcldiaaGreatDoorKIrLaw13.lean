/-
 The compiled bodies, printed: IrLaw13.
-/
import Derived.Test.YtodinbldpcldiaaGreatDoorKSh
import Derived.Test.YtodinbldpcldiaaGreatDoorProg
set_option linter.all false
set_option maxHeartbeats 4000000
namespace Go.Proofs.YtodinbldpcldiaaGreatDoorK.NatIr
open AI Go.Proofs
def c6 : IR :=
 (xr [xkb 0 false]
 (xr [xc0 4 18, xc1 5 17 4, xm 3 5, xe 6 3 0, xe 7 3 1, xm 1 6, xm 2 7]
 (xr [xm 8 1, ⟨(some 9), .isnil true 0 (.t 8), none⟩, xm 10 9, xmg 11 1 10 true, ⟨(some 12), .call 22 [(.t 11), (.c (.int .i64 12)), (.c (.str ⟨#[105, 110, 99, 104]⟩)), (.c (.str ⟨#[102, 111, 111, 116]⟩))], (some ((some 10), true))⟩, ⟨(some 13), .bin .eql (.t 12) (.c (.str ⟨#[49]⟩)), (some ((some 10), true))⟩, xp 14 10 13 false, xm 0 14]
 .ret)))
theorem ok6 : Tryz.f6.body.bind (comp Tryz.prog) = some c6 := by kernel_rfl
def c7 : IR :=
 (xr [⟨(some 1), .box 31 14 (.t 0), none⟩, ⟨(some 2), .new 35 15 [(.int .i64 0), (.int .i64 0), (.int .i64 0), (.int .i64 0), (.int .i64 0), (.int .i64 0), (.int .i64 0), (.int .i64 0), (.bool false), .nils, .nils, (.bool false), .nils, .nils, (.bool false)], none⟩, ⟨(some 3), .new 44 15 [(.int .i64 0), (.int .i64 0), (.int .i64 0), (.int .i64 0), (.int .i64 0), (.int .i64 0), (.int .i64 0), (.int .i64 0), (.bool false), .nils, .nils, (.bool false), .nils, .nils, (.bool false)], none⟩, xkb 4 false]
 (.seq (xr [xf 7 8 1, xl 8 7, xbk 9 .lss 8 1, xm 10 9, xfg 11 9 1 10 false, xlg 12 11 10 false, xbg 13 .lss 12 1 10 false, xpb 14 10 true 13, xm 15 14, xfg 16 10 1 15 false, ⟨(some 17), .load true 3 (.t 16), (some ((some 15), false))⟩, ⟨(some 18), .call 8 [(.t 17)], (some ((some 15), false))⟩, xpb 19 15 true 18, xm 20 19, xfg 21 0 1 20 false, ⟨(some 22), .load true 8 (.t 21), (some ((some 20), false))⟩, ⟨(some 23), .call 24 [(.t 22)], (some ((some 20), false))⟩, xng 24 23 20 false, xpb 25 20 true 24]
 (
 xd 25
 (xr [⟨(some 26), .build [(.int .i64 0), (.int .i64 0), (.int .i64 0), (.int .i64 0), (.int .i64 0), (.int .i64 0), (.int .i64 0), (.int .i64 0), (.bool false), .nils, .nils, (.bool false), .nils, .nils, (.bool false)] [], none⟩, ⟨(some 27), .build [(.int .i64 0), (.int .i64 0), (.int .i64 0), (.int .i64 0), (.int .i64 0), (.int .i64 0), (.int .i64 0), (.int .i64 0), (.bool false), .nils, .nils, (.bool false), .nils, .nils, (.bool false)] [], none⟩, xs 15 2 26, xs 15 3 27, xkb 4 false]
 .ret)
 .skip))
 (.seq (.reg true [xf 29 8 1, xl 30 29, xc1 31 26 30, xf 32 9 1, xl 33 32, ⟨(some 34), .conv .u64 (.t 33), none⟩, xc1 35 27 34, xc2 36 25 31 35, xm 28 36, xe 37 28 0, xe 38 28 1, ⟨(some 5), .new 28 3 [(.bool false), .nils, .nils], none⟩, xs 3 5 37, xm 6 38] [0, 1, 3, 0, 8, 24, 63, 127, 255, 511, 511, 0, 3071, 8191])
 (.seq (.reg true [xf 39 0 1, xg 40 8 39, xg 41 3 5, xf 42 10 1, xg 43 3 42, xf 44 13 1, xl 45 44, ⟨(some 46), .build [(.int .i64 0), (.int .i64 0), (.int .i64 0), (.int .i64 0), (.int .i64 0), (.int .i64 0), (.int .i64 0), (.int .i64 0), (.bool false), .nils, .nils, (.bool false), .nils, .nils, (.bool false)] [(0, 8, (.t 40)), (8, 3, (.t 41)), (11, 3, (.t 43)), (14, 1, (.t 45))], none⟩, xf 47 0 1, xg 48 8 47, xf 49 8 1, xl 50 49, xc1 51 29 50, xf 52 9 1, xl 53 52, ⟨(some 54), .conv .u64 (.t 53), none⟩, xc1 55 30 54, xc2 56 28 51 55, xf 57 10 1, xg 58 3 57, xc1 59 13 58, xf 60 13 1, xl 61 60, ⟨(some 62), .build [(.int .i64 0), (.int .i64 0), (.int .i64 0), (.int .i64 0), (.int .i64 0), (.int .i64 0), (.int .i64 0), (.int .i64 0), (.bool false), .nils, .nils, (.bool false), .nils, .nils, (.bool false)] [(0, 8, (.t 48)), (8, 3, (.t 56)), (11, 3, (.t 59)), (14, 1, (.t 61))], none⟩, xs 15 2 46, xs 15 3 62, xkb 4 true] [0, 1, 0, 0, 8, 0, 32, 127, 0, 256, 0, 1024, 3072, 0, 8192, 24576, 64512, 130048, 0, 262144, 1047552, 0, 2097152, 8388352, 2096383, 33554431, 67108863])
 .ret))))
theorem ok7 : Tryz.f7.body.bind (comp Tryz.prog) = some c7 := by kernel_rfl
def c8 : IR :=
 (xr [⟨(some 1), .box 28 3 (.t 0), none⟩, xkb 2 false]
 (xr [xf 3 0 1, xf 4 1 3, xf 5 0 4, xl 6 5, xL 7 6, xbk 8 .gtr 7 12, xm 9 8, xfg 10 2 1 9 false, xfg 11 0 10 9 false, xlg 12 11 9 false, ⟨(some 13), .lenL (.t 12), (some ((some 9), false))⟩, xbg 14 .gtr 13 12 9 false, xpb 15 9 true 14, xm 2 15]
 .ret))
theorem ok8 : Tryz.f8.body.bind (comp Tryz.prog) = some c8 := by kernel_rfl
def c13 : IR :=
 (xr [⟨(some 1), .box 28 3 (.t 0), none⟩, ⟨(some 2), .new 42 3 [(.bool false), .nils, .nils], none⟩]
 (xr [xf 4 2 1, xf 5 0 4, xl 6 5, xc1 7 45 6, xm 3 7]
 (.seq (xr [xm 8 3, xL 9 8, xbk 10 .eql 9 0]
 (
 xd 10
 (xr [⟨(some 11), .call 43 [(.c (.int .i64 0))], none⟩, xs 3 2 11]
 .ret)
 .skip))
 (.seq (.reg true [xf 12 0 1, xf 13 0 12, xl 14 13, xf 15 0 1, xf 16 1 15, xf 17 0 16, xl 18 17, xc1 19 45 18, xc2 20 46 14 19, xm 21 3, xc2 22 28 20 21, xs 3 2 22] [0, 1, 3, 0, 8, 24, 56, 120, 255, 0, 1023, 2047])
 .ret))))
theorem ok13 : Tryz.f13.body.bind (comp Tryz.prog) = some c13 := by kernel_rfl
def c14 : IR :=
 (xr [⟨(some 2), .box 28 3 (.t 0), none⟩, ⟨(some 3), .box 42 3 (.t 1), none⟩, xkb 4 false]
 (xr [xf 5 0 2, xg 6 2 5, xf 7 0 3, xg 8 2 7, xc2 9 47 6 8, xm 10 9, xfg 11 2 2 10 true, ⟨(some 12), .load true 1 (.t 11), (some ((some 10), true))⟩, xfg 13 2 3 10 true, xlg 14 13 10 true, ⟨(some 15), .call 48 [(.t 12), (.t 14)], (some ((some 10), true))⟩, xp 16 10 15 false, xm 4 16]
 .ret))
theorem ok14 : Tryz.f14.body.bind (comp Tryz.prog) = some c14 := by kernel_rfl
def c17 : IR :=
 (xr [⟨(some 2), .mv (.c .null), none⟩, ⟨(some 3), .mv (.c .null), none⟩]
 (xr [xm 17 0, xc1 18 56 17, xm 16 18, xe 19 16 0, xe 20 16 1, xe 21 16 2, xm 4 19, xm 5 20, xm 6 21]
 (xr [xm 23 0, xc1 24 57 23, xm 22 24, xe 25 22 0, xe 26 22 1, xe 27 22 2, xm 7 25, xm 8 26, xm 9 27]
 (.seq (xr [xm 28 6, xbk 29 .neq 28 0, xm 30 29, xmg 31 9 30 false, xbg 32 .neq 31 0 30 false, xpb 33 30 true 32]
 (
 xd 33
 (xr [⟨(some 2), .mv (.c .null), none⟩, ⟨(some 3), .mv (.c .null), none⟩]
 .ret)
 .skip))
 (xr [xm 35 4, xc1 36 58 35, xm 34 36, xe 37 34 0, xe 38 34 1, xe 39 34 2, xm 10 37, xm 11 38, xm 12 39]
 (xr [xm 41 7, xc1 42 59 41, xm 40 42, xe 43 40 0, xe 44 40 1, xe 45 40 2, xm 13 43, xm 14 44, xm 15 45]
 (.seq (xr [xm 46 12, xbk 47 .neq 46 0, xm 48 47, xmg 49 15 48 false, xbg 50 .neq 49 0 48 false, xpb 51 48 true 50]
 (
 xd 51
 (xr [⟨(some 2), .mv (.c .null), none⟩, ⟨(some 3), .mv (.c .null), none⟩]
 .ret)
 .skip))
 (xr [xm 52 10, xm 53 13, xm 2 52, xm 3 53]
 .ret))))))))
theorem ok17 : Tryz.f17.body.bind (comp Tryz.prog) = some c17 := by kernel_rfl
def c18 : IR :=
 (xr [⟨(some 0), .mv (.c (.str ⟨#[]⟩)), none⟩]
 (xr [⟨(some 0), .mv (.c (.str ⟨#[98, 97, 115, 101, 32, 109, 101, 116, 101, 114, 32, 108, 101, 110, 103, 116, 104, 10, 98, 97, 115, 101, 32, 115, 101, 99, 111, 110, 100, 32, 116, 105, 109, 101, 10, 98, 97, 115, 101, 32, 107, 101, 108, 118, 105, 110, 32, 116, 101, 109, 112, 101, 114, 97, 116, 117, 114, 101, 10, 112, 114, 101, 102, 105, 120, 32, 107, 105, 108, 111, 32, 49, 48, 32, 51, 10, 112, 114, 101, 102, 105, 120, 32, 109, 105, 108, 108, 105, 32, 49, 48, 32, 45, 51, 10, 117, 110, 105, 116, 32, 102, 111, 111, 116, 32, 51, 56, 49, 47, 49, 50, 53, 48, 32, 109, 101, 116, 101, 114, 10, 117, 110, 105, 116, 32, 105, 110, 99, 104, 32, 49, 47, 49, 50, 32, 102, 111, 111, 116, 10, 117, 110, 105, 116, 32, 121, 97, 114, 100, 32, 51, 32, 102, 111, 111, 116, 10, 117, 110, 105, 116, 32, 109, 105, 110, 117, 116, 101, 32, 54, 48, 32, 115, 101, 99, 111, 110, 100, 10, 117, 110, 105, 116, 32, 99, 101, 108, 115, 105, 117, 115, 32, 49, 32, 107, 101, 108, 118, 105, 110, 32, 50, 55, 51, 49, 53, 47, 49, 48, 48, 10, 117, 110, 105, 116, 32, 102, 97, 104, 114, 101, 110, 104, 101, 105, 116, 32, 53, 47, 57, 32, 107, 101, 108, 118, 105, 110, 32, 52, 53, 57, 54, 55, 47, 49, 56, 48, 10, 113, 117, 97, 110, 116, 105, 116, 121, 32, 115, 112, 101, 101, 100, 32, 109, 101, 116, 101, 114, 45, 112, 101, 114, 45, 115, 101, 99, 111, 110, 100, 10, 113, 117, 97, 110, 116, 105, 116, 121, 32, 97, 114, 101, 97, 32, 115, 113, 117, 97, 114, 101, 45, 109, 101, 116, 101, 114, 10, 97, 108, 105, 97, 115, 32, 107, 112, 104, 32, 107, 105, 108, 111, 109, 101, 116, 101, 114, 45, 112, 101, 114, 45, 115, 101, 99, 111, 110, 100, 10]⟩)), none⟩]
 .ret))
theorem ok18 : Tryz.f18.body.bind (comp Tryz.prog) = some c18 := by kernel_rfl
def c22 : IR :=
 (xr [⟨(some 8), .mv (.c (.str ⟨#[]⟩)), none⟩]
 (xr [xm 16 0, xm 17 2, xc2 18 19 16 17, xm 15 18, xe 19 15 0, xe 20 15 1, ⟨(some 9), .new 68 1 [.nils], none⟩, xs 1 9 19, xm 10 20]
 (xr [xm 22 0, xm 23 3, xc2 24 19 22 23, xm 21 24, xe 25 21 0, xe 26 21 1, ⟨(some 11), .new 68 1 [.nils], none⟩, xs 1 11 25, xm 12 26]
 (.seq (xr [xm 27 10, xbk 28 .neq 27 0, xm 29 28, xmg 30 12 29 false, xbg 31 .neq 30 0 29 false, xpb 32 29 true 31, xm 33 32, xfg 34 0 9 33 false, xlg 35 34 33 false, ⟨(some 36), .lenL (.t 35), (some ((some 33), false))⟩, xbg 37 .neq 36 1 33 false, xpb 38 33 true 37, xm 39 38, xfg 40 0 11 39 false, xlg 41 40 39 false, ⟨(some 42), .lenL (.t 41), (some ((some 39), false))⟩, xbg 43 .neq 42 1 39 false, xpb 44 39 true 43]
 (
 xd 44
 (xr [⟨(some 8), .mv (.c (.str ⟨#[63]⟩)), none⟩]
 .ret)
 .skip))
 (.seq (.reg true [xm 46 0, xm 47 1, xc1 48 21 47, xf 49 0 9, xl 50 49, ⟨(some 51), .iaddrS 3 (.t 50) (.c (.int .i64 0)), none⟩, xg 52 3 51, xf 53 0 11, xl 54 53, ⟨(some 55), .iaddrS 3 (.t 54) (.c (.int .i64 0)), none⟩, xg 56 3 55, ⟨(some 57), .call 64 [(.t 46), (.t 48), (.t 52), (.t 56)], none⟩, xm 45 57, xe 58 45 0, xe 59 45 1, ⟨(some 13), .new 28 3 [(.bool false), .nils, .nils], none⟩, xs 3 13 58, xm 14 59] [0, 0, 2, 0, 8, 24, 56, 0, 128, 384, 896, 2047, 4095, 8191, 8191, 0, 49151, 131071])
 (.seq (xr [xm 60 14, xbk 61 .neq 60 0]
 (
 xd 61
 (xr [⟨(some 8), .mv (.c (.str ⟨#[69]⟩)), none⟩]
 .ret)
 .skip))
 (xr [xg 62 3 13, xc1 63 23 62, xm 8 63]
 .ret)))))))
theorem ok22 : Tryz.f22.body.bind (comp Tryz.prog) = some c22 := by kernel_rfl
def c47 : IR :=
 (xr [⟨(some 2), .box 26 2 (.t 0), none⟩, ⟨(some 3), .box 40 2 (.t 1), none⟩, xkb 4 false]
 (xr [xg 5 2 2, xc1 6 49 5, xm 7 6, xfg 8 0 2 7 true, xlg 9 8 7 true, xfg 10 0 3 7 true, xlg 11 10 7 true, ⟨(some 12), .beq false (.t 9) (.t 11), (some ((some 7), true))⟩, xp 13 7 12 false, xm 14 13, xfg 15 1 2 14 true, ⟨(some 16), .load true 1 (.t 15), (some ((some 14), true))⟩, xfg 17 1 3 14 true, xlg 18 17 14 true, ⟨(some 19), .call 48 [(.t 16), (.t 18)], (some ((some 14), true))⟩, xp 20 14 19 false, xm 4 20]
 .ret))
theorem ok47 : Tryz.f47.body.bind (comp Tryz.prog) = some c47 := by kernel_rfl
def c48 : IR :=
 (xr [⟨(some 2), .box 24 1 (.t 0), none⟩, xkb 4 false]
 (xr [xf 5 0 2, xl 6 5, xL 7 6, xbk 8 .lss 7 4000, xm 9 8, ⟨(some 10), .load true 1 (.t 2), (some ((some 9), true))⟩, ⟨(some 11), .call 50 [(.t 10)], (some ((some 9), true))⟩, xp 12 9 11 false, xm 13 12, xfg 14 0 2 13 true, xlg 15 14 13 true, ⟨(some 16), .call 45 [(.t 15)], (some ((some 13), true))⟩, xmg 17 1 13 true, ⟨(some 18), .call 87 [(.t 16), (.t 17)], (some ((some 13), true))⟩, xbg 19 .eql 18 0 13 true, xp 20 13 19 false, xm 4 20]
 .ret))
theorem ok48 : Tryz.f48.body.bind (comp Tryz.prog) = some c48 := by kernel_rfl
end Go.Proofs.YtodinbldpcldiaaGreatDoorK.NatIr
