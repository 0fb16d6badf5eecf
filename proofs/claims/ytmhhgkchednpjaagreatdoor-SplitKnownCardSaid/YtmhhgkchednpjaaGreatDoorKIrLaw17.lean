/-
 The compiled bodies, printed: IrLaw17.
-/
import Derived.Test.YtmhhgkchednpjaaGreatDoorKSh
import Derived.Test.YtmhhgkchednpjaaGreatDoorProg
set_option linter.all false
set_option maxHeartbeats 4000000
namespace Go.Proofs.YtmhhgkchednpjaaGreatDoorK.NatIr
open AI Go.Proofs
def c15 : IR :=
 (xr [xkb 0 false]
 (xr [⟨(some 1), .call 55 [(.c (.str ⟨#[51, 53, 56, 47, 53]⟩)), (.c (.str ⟨#[102, 111, 111, 116, 45, 97, 110, 100, 45, 105, 110, 99, 104]⟩)), (.c (.int .i64 0)), (.c (.int .i64 6))], none⟩, ⟨(some 2), .bin .eql (.t 1) (.c (.str ⟨#[54, 32, 48]⟩)), none⟩, xm 0 2]
 .ret))
theorem ok15 : Tryz.f15.body.bind (comp Tryz.prog) = some c15 := by kernel_rfl
def c16 : IR :=
 (xr [⟨(some 2), .mv (.c .null), none⟩, ⟨(some 3), .mv (.c .null), none⟩]
 (xr [xm 17 0, xc1 18 57 17, xm 16 18, xe 19 16 0, xe 20 16 1, xe 21 16 2, xm 4 19, xm 5 20, xm 6 21]
 (xr [xm 23 0, xc1 24 58 23, xm 22 24, xe 25 22 0, xe 26 22 1, xe 27 22 2, xm 7 25, xm 8 26, xm 9 27]
 (.seq (xr [xm 28 6, xbk 29 .neq 28 0, xm 30 29, xmg 31 9 30 false, xbg 32 .neq 31 0 30 false, xpb 33 30 true 32]
 (
 xd 33
 (xr [⟨(some 2), .mv (.c .null), none⟩, ⟨(some 3), .mv (.c .null), none⟩]
 .ret)
 .skip))
 (xr [xm 35 4, xc1 36 59 35, xm 34 36, xe 37 34 0, xe 38 34 1, xe 39 34 2, xm 10 37, xm 11 38, xm 12 39]
 (xr [xm 41 7, xc1 42 60 41, xm 40 42, xe 43 40 0, xe 44 40 1, xe 45 40 2, xm 13 43, xm 14 44, xm 15 45]
 (.seq (xr [xm 46 12, xbk 47 .neq 46 0, xm 48 47, xmg 49 15 48 false, xbg 50 .neq 49 0 48 false, xpb 51 48 true 50]
 (
 xd 51
 (xr [⟨(some 2), .mv (.c .null), none⟩, ⟨(some 3), .mv (.c .null), none⟩]
 .ret)
 .skip))
 (xr [xm 52 10, xm 53 13, xm 2 52, xm 3 53]
 .ret))))))))
theorem ok16 : Tryz.f16.body.bind (comp Tryz.prog) = some c16 := by kernel_rfl
def c17 : IR :=
 (xr [⟨(some 0), .mv (.c (.str ⟨#[]⟩)), none⟩]
 (xr [⟨(some 0), .mv (.c (.str ⟨#[98, 97, 115, 101, 32, 109, 101, 116, 101, 114, 32, 108, 101, 110, 103, 116, 104, 10, 98, 97, 115, 101, 32, 115, 101, 99, 111, 110, 100, 32, 116, 105, 109, 101, 10, 98, 97, 115, 101, 32, 107, 101, 108, 118, 105, 110, 32, 116, 101, 109, 112, 101, 114, 97, 116, 117, 114, 101, 10, 112, 114, 101, 102, 105, 120, 32, 107, 105, 108, 111, 32, 49, 48, 32, 51, 10, 112, 114, 101, 102, 105, 120, 32, 109, 105, 108, 108, 105, 32, 49, 48, 32, 45, 51, 10, 117, 110, 105, 116, 32, 102, 111, 111, 116, 32, 51, 56, 49, 47, 49, 50, 53, 48, 32, 109, 101, 116, 101, 114, 10, 117, 110, 105, 116, 32, 105, 110, 99, 104, 32, 49, 47, 49, 50, 32, 102, 111, 111, 116, 10, 117, 110, 105, 116, 32, 121, 97, 114, 100, 32, 51, 32, 102, 111, 111, 116, 10, 117, 110, 105, 116, 32, 109, 105, 110, 117, 116, 101, 32, 54, 48, 32, 115, 101, 99, 111, 110, 100, 10, 117, 110, 105, 116, 32, 99, 101, 108, 115, 105, 117, 115, 32, 49, 32, 107, 101, 108, 118, 105, 110, 32, 50, 55, 51, 49, 53, 47, 49, 48, 48, 10, 117, 110, 105, 116, 32, 102, 97, 104, 114, 101, 110, 104, 101, 105, 116, 32, 53, 47, 57, 32, 107, 101, 108, 118, 105, 110, 32, 52, 53, 57, 54, 55, 47, 49, 56, 48, 10, 113, 117, 97, 110, 116, 105, 116, 121, 32, 115, 112, 101, 101, 100, 32, 109, 101, 116, 101, 114, 45, 112, 101, 114, 45, 115, 101, 99, 111, 110, 100, 10, 113, 117, 97, 110, 116, 105, 116, 121, 32, 97, 114, 101, 97, 32, 115, 113, 117, 97, 114, 101, 45, 109, 101, 116, 101, 114, 10, 97, 108, 105, 97, 115, 32, 107, 112, 104, 32, 107, 105, 108, 111, 109, 101, 116, 101, 114, 45, 112, 101, 114, 45, 115, 101, 99, 111, 110, 100, 10]⟩)), none⟩]
 .ret))
theorem ok17 : Tryz.f17.body.bind (comp Tryz.prog) = some c17 := by kernel_rfl
def c55 : IR :=
 (xr [⟨(some 8), .mv (.c (.str ⟨#[]⟩)), none⟩]
 (xr [xc0 18 17, xc1 19 16 18, xm 17 19, xe 20 17 0, xe 21 17 1, xm 9 20, xm 10 21]
 (.seq (xr [xm 22 9, ⟨(some 23), .isnil false 0 (.t 22), none⟩]
 (
 xd 23
 (xr [⟨(some 8), .mv (.c (.str ⟨#[63]⟩)), none⟩]
 .ret)
 .skip))
 (xr [xm 25 0, xc1 26 115 25, xm 24 26, xe 27 24 0, xe 28 24 1, ⟨(some 11), .new 28 3 [(.bool false), .nils, .nils], none⟩, xs 3 11 27, xm 12 28]
 (xr [xm 30 9, xm 31 1, xc2 32 19 30 31, xm 29 32, xe 33 29 0, xe 34 29 1, ⟨(some 13), .new 38 1 [.nils], none⟩, xs 1 13 33, xm 14 34]
 (.seq (xr [xm 35 14, xbk 36 .neq 35 0]
 (
 xd 36
 (xr [⟨(some 8), .mv (.c (.str ⟨#[63]⟩)), none⟩]
 .ret)
 .skip))
 (xr [xm 38 9, xg 39 3 11, xg 40 1 13, xm 41 2, xm 42 3, ⟨(some 43), .call 20 [(.t 38), (.t 39), (.t 40), (.t 41), (.t 42)], none⟩, xm 37 43, xe 44 37 0, xe 45 37 1, ⟨(some 15), .new 44 2 [(.bool false), .nils], none⟩, xs 2 15 44, xm 16 45]
 (.seq (xr [xm 46 16, xbk 47 .neq 46 0]
 (
 xd 47
 (xr [xm 48 16, ⟨(some 49), .conv .u8 (.t 48), none⟩, ⟨(some 50), .bin .add (.c (.int .u8 48)) (.t 49), none⟩, ⟨(some 51), .lit 5 1 1 [(.int .u8 0)] [(0, 1, (.t 50))], none⟩, ⟨(some 52), .bstr (.t 51), none⟩, ⟨(some 53), .bin .add (.c (.str ⟨#[69]⟩)) (.t 52), none⟩, xm 8 53]
 .ret)
 .skip))
 (xr [xg 54 2 15, xc1 55 116 54, xm 8 55]
 .ret)))))))))
theorem ok55 : Tryz.f55.body.bind (comp Tryz.prog) = some c55 := by kernel_rfl
def c116 : IR :=
 (xr [⟨(some 1), .box 44 2 (.t 0), none⟩, ⟨(some 2), .mv (.c (.str ⟨#[]⟩)), none⟩]
 (xr [⟨(some 3), .mv (.c (.str ⟨#[]⟩)), none⟩]
 (.seq (xr [xf 5 0 1, xl 6 5]
 (
 xd 6
 (xR [⟨(some 3), .mv (.c (.str ⟨#[45]⟩)), none⟩])
 .skip))
 (.seq (xr [xk 4 0]
 (.block 0 (.loop (.seq (xr [xm 7 4, xf 8 1 1, xl 9 8, xL 10 9, xb 11 .lss 7 10]
  (
  xd 11
  .skip
  (.exit 0)))
  (
  .seq (.block 1 (.seq (xr [xm 14 4, xbk 15 .gtr 14 0]
  (
   xd 15
   (xR [xm 16 3, ⟨(some 17), .bin .add (.t 16) (.c (.str ⟨#[32]⟩)), none⟩, xm 3 17])
   .skip))
  (xR [xm 18 3, xf 19 1 1, xl 20 19, xm 21 4, xi 22 3 20 21, xg 23 3 22, xc1 24 169 23, xb 25 .add 18 24, xm 3 25])))
  (xR [xm 12 4, xbk 13 .add 12 1, xm 4 13]))))))
 (xr [xm 26 3, xm 2 26]
 .ret)))))
theorem ok116 : Tryz.f116.body.bind (comp Tryz.prog) = some c116 := by kernel_rfl
end Go.Proofs.YtmhhgkchednpjaaGreatDoorK.NatIr
