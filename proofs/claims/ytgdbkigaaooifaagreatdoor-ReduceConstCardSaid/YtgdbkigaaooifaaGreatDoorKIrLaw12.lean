/-
 The compiled bodies, printed: IrLaw12.
-/
import Derived.Test.YtgdbkigaaooifaaGreatDoorKSh
import Derived.Test.YtgdbkigaaooifaaGreatDoorProg
set_option linter.all false
set_option maxHeartbeats 4000000
namespace Go.Proofs.YtgdbkigaaooifaaGreatDoorK.NatIr
open AI Go.Proofs
def c7 : IR :=
 (xr [xkb 0 false]
 (xr [xc0 6 9, xc1 7 8 6, xm 5 7, xe 8 5 0, xe 9 5 1, xm 1 8, xm 2 9]
 (.seq (xr [xm 10 1, ⟨(some 11), .isnil false 0 (.t 10), none⟩]
 (
 xd 11
 (xr [xkb 0 false]
 .ret)
 .skip))
 (xr [xm 13 1, ⟨(some 14), .build [(.str ⟨#[]⟩), (.str ⟨#[]⟩), (.int .i64 0)] [(0, 1, (.c (.str ⟨#[107, 105, 108, 111]⟩))), (1, 1, (.c (.str ⟨#[109, 101, 116, 101, 114]⟩))), (2, 1, (.c (.int .i64 1)))], none⟩, xc2 15 10 13 14, xm 12 15, xe 16 12 0, xe 17 12 1, ⟨(some 3), .new 38 15 [(.int .i64 0), (.int .i64 0), (.int .i64 0), (.int .i64 0), (.int .i64 0), (.int .i64 0), (.int .i64 0), (.int .i64 0), (.bool false), .nils, .nils, (.bool false), .nils, .nils, (.bool false)], none⟩, xs 15 3 16, xm 4 17]
 (xr [xm 18 4, xbk 19 .eql 18 0, xm 20 19, xfg 21 0 3 20 true, ⟨(some 22), .load true 8 (.t 21), (some ((some 20), true))⟩, ⟨(some 23), .build [(.int .i64 0), (.int .i64 0), (.int .i64 0), (.int .i64 0), (.int .i64 0), (.int .i64 0), (.int .i64 0), (.int .i64 0)] [(0, 1, (.c (.int .i64 1)))], (some ((some 20), true))⟩, ⟨(some 24), .aeq 8 false (.t 22) (.t 23), (some ((some 20), true))⟩, xp 25 20 24 false, xm 26 25, xfg 27 8 3 26 true, ⟨(some 28), .load true 3 (.t 27), (some ((some 26), true))⟩, ⟨(some 29), .call 18 [(.t 28)], (some ((some 26), true))⟩, ⟨(some 30), .bin .eql (.t 29) (.c (.str ⟨#[49, 48, 48, 48]⟩)), (some ((some 26), true))⟩, xp 31 26 30 false, xm 32 31, xfg 33 14 3 32 true, xlg 34 33 32 true, xng 35 34 32 true, xp 36 32 35 false, xm 0 36]
 .ret)))))
theorem ok7 : Tryz.f7.body.bind (comp Tryz.prog) = some c7 := by kernel_rfl
def c8 : IR :=
 (xr [⟨(some 2), .mv (.c .null), none⟩, ⟨(some 3), .mv (.c .null), none⟩]
 (xr [xm 17 0, xc1 18 22 17, xm 16 18, xe 19 16 0, xe 20 16 1, xe 21 16 2, xm 4 19, xm 5 20, xm 6 21]
 (xr [xm 23 0, xc1 24 23 23, xm 22 24, xe 25 22 0, xe 26 22 1, xe 27 22 2, xm 7 25, xm 8 26, xm 9 27]
 (.seq (xr [xm 28 6, xbk 29 .neq 28 0, xm 30 29, xmg 31 9 30 false, xbg 32 .neq 31 0 30 false, xpb 33 30 true 32]
 (
 xd 33
 (xr [⟨(some 2), .mv (.c .null), none⟩, ⟨(some 3), .mv (.c .null), none⟩]
 .ret)
 .skip))
 (xr [xm 35 4, xc1 36 24 35, xm 34 36, xe 37 34 0, xe 38 34 1, xe 39 34 2, xm 10 37, xm 11 38, xm 12 39]
 (xr [xm 41 7, xc1 42 25 41, xm 40 42, xe 43 40 0, xe 44 40 1, xe 45 40 2, xm 13 43, xm 14 44, xm 15 45]
 (.seq (xr [xm 46 12, xbk 47 .neq 46 0, xm 48 47, xmg 49 15 48 false, xbg 50 .neq 49 0 48 false, xpb 51 48 true 50]
 (
 xd 51
 (xr [⟨(some 2), .mv (.c .null), none⟩, ⟨(some 3), .mv (.c .null), none⟩]
 .ret)
 .skip))
 (xr [xm 52 10, xm 53 13, xm 2 52, xm 3 53]
 .ret))))))))
theorem ok8 : Tryz.f8.body.bind (comp Tryz.prog) = some c8 := by kernel_rfl
def c9 : IR :=
 (xr [⟨(some 0), .mv (.c (.str ⟨#[]⟩)), none⟩]
 (xr [⟨(some 0), .mv (.c (.str ⟨#[98, 97, 115, 101, 32, 109, 101, 116, 101, 114, 32, 108, 101, 110, 103, 116, 104, 10, 98, 97, 115, 101, 32, 115, 101, 99, 111, 110, 100, 32, 116, 105, 109, 101, 10, 98, 97, 115, 101, 32, 107, 101, 108, 118, 105, 110, 32, 116, 101, 109, 112, 101, 114, 97, 116, 117, 114, 101, 10, 112, 114, 101, 102, 105, 120, 32, 107, 105, 108, 111, 32, 49, 48, 32, 51, 10, 112, 114, 101, 102, 105, 120, 32, 109, 105, 108, 108, 105, 32, 49, 48, 32, 45, 51, 10, 117, 110, 105, 116, 32, 102, 111, 111, 116, 32, 51, 56, 49, 47, 49, 50, 53, 48, 32, 109, 101, 116, 101, 114, 10, 117, 110, 105, 116, 32, 105, 110, 99, 104, 32, 49, 47, 49, 50, 32, 102, 111, 111, 116, 10, 117, 110, 105, 116, 32, 121, 97, 114, 100, 32, 51, 32, 102, 111, 111, 116, 10, 117, 110, 105, 116, 32, 109, 105, 110, 117, 116, 101, 32, 54, 48, 32, 115, 101, 99, 111, 110, 100, 10, 117, 110, 105, 116, 32, 99, 101, 108, 115, 105, 117, 115, 32, 49, 32, 107, 101, 108, 118, 105, 110, 32, 50, 55, 51, 49, 53, 47, 49, 48, 48, 10, 117, 110, 105, 116, 32, 102, 97, 104, 114, 101, 110, 104, 101, 105, 116, 32, 53, 47, 57, 32, 107, 101, 108, 118, 105, 110, 32, 52, 53, 57, 54, 55, 47, 49, 56, 48, 10, 113, 117, 97, 110, 116, 105, 116, 121, 32, 115, 112, 101, 101, 100, 32, 109, 101, 116, 101, 114, 45, 112, 101, 114, 45, 115, 101, 99, 111, 110, 100, 10, 113, 117, 97, 110, 116, 105, 116, 121, 32, 97, 114, 101, 97, 32, 115, 113, 117, 97, 114, 101, 45, 109, 101, 116, 101, 114, 10, 97, 108, 105, 97, 115, 32, 107, 112, 104, 32, 107, 105, 108, 111, 109, 101, 116, 101, 114, 45, 112, 101, 114, 45, 115, 101, 99, 111, 110, 100, 10]⟩)), none⟩]
 .ret))
theorem ok9 : Tryz.f9.body.bind (comp Tryz.prog) = some c9 := by kernel_rfl
def c21 : IR :=
 (xr [⟨(some 2), .new 36 3 [(.bool false), .nils, .nils], none⟩]
 (xr [⟨(some 4), .call 29 [(.c (.int .i64 1))], none⟩, ⟨(some 3), .new 36 3 [(.bool false), .nils, .nils], none⟩, xs 3 3 4]
 (xr [xm 5 0, xc1 6 15 5, xf 7 0 3, xf 8 1 7, xs 1 8 6]
 (xr [xg 9 3 3, xs 3 2 9]
 .ret))))
theorem ok21 : Tryz.f21.body.bind (comp Tryz.prog) = some c21 := by kernel_rfl
end Go.Proofs.YtgdbkigaaooifaaGreatDoorK.NatIr
