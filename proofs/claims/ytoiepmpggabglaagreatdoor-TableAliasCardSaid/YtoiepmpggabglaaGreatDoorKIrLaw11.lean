/-
 The compiled bodies, printed: IrLaw11.
-/
import Derived.Test.YtoiepmpggabglaaGreatDoorKSh
import Derived.Test.YtoiepmpggabglaaGreatDoorProg
set_option linter.all false
set_option maxHeartbeats 4000000
namespace Go.Proofs.YtoiepmpggabglaaGreatDoorK.NatIr
open AI Go.Proofs
def c4 : IR :=
 (xr [xkb 0 false]
 (xr [⟨(some 9), .call 5 [(.c (.str ⟨#[98, 97, 115, 101, 32, 109, 101, 116, 101, 114, 32, 108, 101, 110, 103, 116, 104, 10, 117, 110, 105, 116, 32, 102, 111, 111, 116, 32, 51, 56, 49, 47, 49, 50, 53, 48, 32, 109, 101, 116, 101, 114]⟩))], none⟩, xm 8 9, xe 10 8 0, xe 11 8 1, xe 12 8 2, xm 1 10, xm 2 11, xm 3 12]
 (.seq (xr [xm 13 3, xbk 14 .neq 13 0, xm 15 14, xmg 16 1 15 false, ⟨(some 17), .isnil false 0 (.t 16), (some ((some 15), false))⟩, xpb 18 15 true 17]
 (
 xd 18
 (xr [xkb 0 false]
 .ret)
 .skip))
 (xr [xm 20 1, ⟨(some 21), .call 9 [(.t 20), (.c (.str ⟨#[102, 111, 111, 116]⟩))], none⟩, xm 19 21, xe 22 19 0, xe 23 19 1, ⟨(some 4), .new 43 10 [(.str ⟨#[]⟩), (.str ⟨#[]⟩), (.int .i64 0), (.bool false), .nils, .nils, (.bool false), .nils, .nils, (.bool false)], none⟩, xs 10 4 22, xm 5 23]
 (xr [xm 25 1, ⟨(some 26), .call 9 [(.t 25), (.c (.str ⟨#[109, 101, 116, 101, 114]⟩))], none⟩, xm 24 26, xe 27 24 0, xe 28 24 1, ⟨(some 6), .new 43 10 [(.str ⟨#[]⟩), (.str ⟨#[]⟩), (.int .i64 0), (.bool false), .nils, .nils, (.bool false), .nils, .nils, (.bool false)], none⟩, xs 10 6 27, xm 7 28]
 (xr [xm 29 5, xm 30 29, xfg 31 3 4 30 true, ⟨(some 32), .load true 3 (.t 31), (some ((some 30), true))⟩, ⟨(some 33), .call 10 [(.t 32)], (some ((some 30), true))⟩, ⟨(some 34), .bin .eql (.t 33) (.c (.str ⟨#[51, 56, 49, 47, 49, 50, 53, 48]⟩)), (some ((some 30), true))⟩, xp 35 30 34 false, xm 36 35, xfg 37 2 4 36 true, xlg 38 37 36 true, xbg 39 .eql 38 (-1) 36 true, xp 40 36 39 false, xm 41 40, xfg 42 1 4 41 true, xlg 43 42 41 true, ⟨(some 44), .bin .eql (.t 43) (.c (.str ⟨#[109, 101, 116, 101, 114]⟩)), (some ((some 41), true))⟩, xp 45 41 44 false, xm 46 45, xmg 47 7 46 true, xp 48 46 47 false, xm 49 48, xfg 50 2 6 49 true, xlg 51 50 49 true, xbg 52 .eql 51 0 49 true, xp 53 49 52 false, xm 0 53]
 .ret))))))
theorem ok4 : Tryz.f4.body.bind (comp Tryz.prog) = some c4 := by kernel_rfl
def c5 : IR :=
 (xr [⟨(some 2), .mv (.c .null), none⟩, xk 3 0, xk 4 0]
 (xr [xm 9 0, xc1 10 11 9, xm 8 10, xe 11 8 0, xe 12 8 1, xe 13 8 2, xm 5 11, xm 6 12, xm 7 13]
 (.seq (xr [xm 14 7, xbk 15 .neq 14 0]
 (
 xd 15
 (xr [xm 16 7, ⟨(some 2), .mv (.c .null), none⟩, xk 3 0, xm 4 16]
 .ret)
 .skip))
 (xr [xm 17 5, xc1 18 12 17, xe 19 18 0, xe 20 18 1, xe 21 18 2, xm 2 19, xm 3 20, xm 4 21]
 .ret))))
theorem ok5 : Tryz.f5.body.bind (comp Tryz.prog) = some c5 := by kernel_rfl
def c6 : IR :=
 (xr [⟨(some 0), .mv (.c (.str ⟨#[]⟩)), none⟩]
 (xr [⟨(some 0), .mv (.c (.str ⟨#[98, 97, 115, 101, 32, 109, 101, 116, 101, 114, 32, 108, 101, 110, 103, 116, 104, 10, 98, 97, 115, 101, 32, 115, 101, 99, 111, 110, 100, 32, 116, 105, 109, 101, 10, 98, 97, 115, 101, 32, 107, 101, 108, 118, 105, 110, 32, 116, 101, 109, 112, 101, 114, 97, 116, 117, 114, 101, 10, 112, 114, 101, 102, 105, 120, 32, 107, 105, 108, 111, 32, 49, 48, 32, 51, 10, 112, 114, 101, 102, 105, 120, 32, 109, 105, 108, 108, 105, 32, 49, 48, 32, 45, 51, 10, 117, 110, 105, 116, 32, 102, 111, 111, 116, 32, 51, 56, 49, 47, 49, 50, 53, 48, 32, 109, 101, 116, 101, 114, 10, 117, 110, 105, 116, 32, 105, 110, 99, 104, 32, 49, 47, 49, 50, 32, 102, 111, 111, 116, 10, 117, 110, 105, 116, 32, 121, 97, 114, 100, 32, 51, 32, 102, 111, 111, 116, 10, 117, 110, 105, 116, 32, 109, 105, 110, 117, 116, 101, 32, 54, 48, 32, 115, 101, 99, 111, 110, 100, 10, 117, 110, 105, 116, 32, 99, 101, 108, 115, 105, 117, 115, 32, 49, 32, 107, 101, 108, 118, 105, 110, 32, 50, 55, 51, 49, 53, 47, 49, 48, 48, 10, 117, 110, 105, 116, 32, 102, 97, 104, 114, 101, 110, 104, 101, 105, 116, 32, 53, 47, 57, 32, 107, 101, 108, 118, 105, 110, 32, 52, 53, 57, 54, 55, 47, 49, 56, 48, 10, 113, 117, 97, 110, 116, 105, 116, 121, 32, 115, 112, 101, 101, 100, 32, 109, 101, 116, 101, 114, 45, 112, 101, 114, 45, 115, 101, 99, 111, 110, 100, 10, 113, 117, 97, 110, 116, 105, 116, 121, 32, 97, 114, 101, 97, 32, 115, 113, 117, 97, 114, 101, 45, 109, 101, 116, 101, 114, 10, 97, 108, 105, 97, 115, 32, 107, 112, 104, 32, 107, 105, 108, 111, 109, 101, 116, 101, 114, 45, 112, 101, 114, 45, 115, 101, 99, 111, 110, 100, 10]⟩)), none⟩]
 .ret))
theorem ok6 : Tryz.f6.body.bind (comp Tryz.prog) = some c6 := by kernel_rfl
end Go.Proofs.YtoiepmpggabglaaGreatDoorK.NatIr
