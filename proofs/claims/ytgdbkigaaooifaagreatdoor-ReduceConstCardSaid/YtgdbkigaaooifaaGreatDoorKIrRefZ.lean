/-
 The compiled bodies, printed: IrRefZ.
-/
import Derived.Test.YtgdbkigaaooifaaGreatDoorKSh
import Derived.Test.YtgdbkigaaooifaaGreatDoorProg
set_option linter.all false
set_option maxHeartbeats 4000000
namespace Go.Proofs.YtgdbkigaaooifaaGreatDoorK.NatIr
open AI Go.Proofs
def c166 : IR :=
 (xr [⟨(some 2), .new 213 2 [(.bool false), .nils], none⟩]
 (.seq (xr [xm 3 0, xbk 4 .lss 3 0]
 (
 xd 4
 (xr [xm 5 0, xbk 6 .add 5 1, ⟨(some 7), .neg (.t 6), none⟩, ⟨(some 8), .conv .u64 (.t 7), none⟩, xc1 9 167 8, ⟨(some 10), .call 167 [(.c (.int .u64 1))], none⟩, xc2 11 208 9 10, ⟨(some 12), .build [(.bool false), .nils] [(0, 1, (.c (.bool true))), (1, 1, (.t 11))], none⟩, xs 2 2 12]
 .ret)
 .skip))
 (xr [xm 13 0, ⟨(some 14), .conv .u64 (.t 13), none⟩, xc1 15 167 14, ⟨(some 16), .build [(.bool false), .nils] [(0, 1, (.c (.bool false))), (1, 1, (.t 15))], none⟩, xs 2 2 16]
 .ret)))
theorem ok166 : Tryz.f166.body.bind (comp Tryz.prog) = some c166 := by kernel_rfl
def c170 : IR :=
 (xr [⟨(some 1), .box 213 2 (.t 0), none⟩, ⟨(some 2), .mv (.c (.str ⟨#[]⟩)), none⟩]
 (.seq (xr [xf 3 0 1, xl 4 3]
 (
 xd 4
 (xr [xf 5 1 1, xl 6 5, xc1 7 143 6, ⟨(some 8), .bin .add (.c (.str ⟨#[45]⟩)) (.t 7), none⟩, xm 2 8]
 .ret)
 .skip))
 (xr [xf 9 1 1, xl 10 9, xc1 11 143 10, xm 2 11]
 .ret)))
theorem ok170 : Tryz.f170.body.bind (comp Tryz.prog) = some c170 := by kernel_rfl
def c172 : IR :=
 (xr [⟨(some 2), .new 213 2 [(.bool false), .nils], none⟩, xkb 3 false]
 (xr [xm 7 0, xS 8 7, xbk 9 .gtr 8 0, xm 10 9, xmg 11 0 10 true, ⟨(some 12), .idxs (.t 11) (.c (.int .i64 0)), (some ((some 10), true))⟩, ⟨(some 13), .bin .eql (.t 12) (.c (.int .u8 45)), (some ((some 10), true))⟩, xp 14 10 13 false, xm 4 14]
 (.seq (xr [xm 15 4]
 (
 xd 15
 (xR [xm 16 0, ⟨(some 17), .slcS (.t 16) (some (.c (.int .i64 1))) none, none⟩, xm 0 17])
 .skip))
 (xr [xm 19 0, xc1 20 173 19, xm 18 20, xe 21 18 0, xe 22 18 1, xm 5 21, xm 6 22]
 (.seq (xr [xm 23 6, xn 24 23]
 (
 xd 24
 (xr [⟨(some 25), .build [(.bool false), .nils] [], none⟩, xs 2 2 25, xkb 3 false]
 .ret)
 .skip))
 (xr [xm 26 4, xm 27 5, xc2 28 209 26 27, xs 2 2 28, xkb 3 true]
 .ret))))))
theorem ok172 : Tryz.f172.body.bind (comp Tryz.prog) = some c172 := by kernel_rfl
def c175 : IR :=
 (xr [⟨(some 1), .box 213 2 (.t 0), none⟩, xk 2 0]
 (.seq (xr [xf 3 0 1, xl 4 3]
 (
 xd 4
 (xr [xk 2 (-1)]
 .ret)
 .skip))
 (.seq (xr [xf 5 1 1, xl 6 5, xL 7 6, xbk 8 .gtr 7 0]
 (
 xd 8
 (xr [xk 2 1]
 .ret)
 .skip))
 (xr [xk 2 0]
 .ret))))
theorem ok175 : Tryz.f175.body.bind (comp Tryz.prog) = some c175 := by kernel_rfl
def c181 : IR :=
 (xr [⟨(some 2), .box 213 2 (.t 0), none⟩, ⟨(some 3), .box 213 2 (.t 1), none⟩, ⟨(some 4), .new 213 2 [(.bool false), .nils], none⟩]
 (.seq (.reg true [xf 5 0 2, xl 6 5, xf 7 0 3, xl 8 7, ⟨(some 9), .beq true (.t 6) (.t 8), none⟩, xf 10 1 2, xl 11 10, xf 12 1 3, xl 13 12, xc2 14 182 11 13, xc2 15 209 9 14, xs 2 4 15] [0, 1, 0, 4, 15, 0, 32, 0, 128, 480, 1023, 2047])
 .ret))
theorem ok181 : Tryz.f181.body.bind (comp Tryz.prog) = some c181 := by kernel_rfl
def c209 : IR :=
 (xr [⟨(some 4), .new 213 2 [(.bool false), .nils], none⟩]
 (xr [xm 5 0, xm 6 5, xmg 7 1 6 true, ⟨(some 8), .lenL (.t 7), (some ((some 6), true))⟩, xbg 9 .gtr 8 0 6 true, xp 10 6 9 false, xm 11 1, ⟨(some 12), .build [(.bool false), .nils] [(0, 1, (.t 10)), (1, 1, (.t 11))], none⟩, xs 2 4 12]
 .ret))
theorem ok209 : Tryz.f209.body.bind (comp Tryz.prog) = some c209 := by kernel_rfl
end Go.Proofs.YtgdbkigaaooifaaGreatDoorK.NatIr
