/-
 The compiled bodies, printed: IrRefQ.
-/
import Derived.Test.YtgdbkigaaooifaaGreatDoorKSh
import Derived.Test.YtgdbkigaaooifaaGreatDoorProg
set_option linter.all false
set_option maxHeartbeats 4000000
namespace Go.Proofs.YtgdbkigaaooifaaGreatDoorK.NatIr
open AI Go.Proofs
def c130 : IR :=
 (xr [⟨(some 2), .new 215 3 [(.bool false), .nils, .nils], none⟩]
 (xr [xm 3 0, xc1 4 166 3, ⟨(some 5), .call 167 [(.c (.int .u64 1))], none⟩, ⟨(some 6), .build [(.bool false), .nils, .nils] [(0, 2, (.t 4)), (2, 1, (.t 5))], none⟩, xs 3 2 6]
 .ret))
theorem ok130 : Tryz.f130.body.bind (comp Tryz.prog) = some c130 := by kernel_rfl
def c134 : IR :=
 (xr [⟨(some 2), .box 215 3 (.t 0), none⟩, ⟨(some 4), .new 215 3 [(.bool false), .nils, .nils], none⟩, xkb 5 false]
 (.seq (xr [xm 8 1, xbk 9 .lss 8 0]
 (
 xd 9
 (.seq (xr [xg 10 3 2, xc1 11 136 10, xbk 12 .eql 11 0]
 (
  xd 12
  (xr [⟨(some 13), .call 130 [(.c (.int .i64 0))], none⟩, xs 3 4 13, xkb 5 false]
  .ret)
  .skip))
 (xR [xg 14 3 2, xc1 15 171 14, xm 16 1, ⟨(some 17), .neg (.t 16), none⟩, xs 3 2 15, xm 1 17]))
 .skip))
 (xr [⟨(some 18), .call 130 [(.c (.int .i64 1))], none⟩, ⟨(some 6), .new 215 3 [(.bool false), .nils, .nils], none⟩, xs 3 6 18]
 (.seq (xr [xk 7 0]
 (.block 0 (.loop (.seq (xr [xm 19 7, xm 20 1, xb 21 .lss 19 20]
  (
  xd 21
  .skip
  (.exit 0)))
  (.seq (.block 1 (xR [xg 24 3 6, xg 25 3 2, xc2 26 142 24 25, xs 3 6 26]))
  (xR [xm 22 7, xbk 23 .add 22 1, xm 7 23]))))))
 (xr [xg 27 3 6, xs 3 4 27, xkb 5 true]
 .ret)))))
theorem ok134 : Tryz.f134.body.bind (comp Tryz.prog) = some c134 := by kernel_rfl
def c135 : IR :=
 (xr [⟨(some 2), .new 215 3 [(.bool false), .nils, .nils], none⟩, xkb 3 false]
 (xr [xk 4 0]
 (.seq (.block 0 (.loop (.seq (xr [xm 9 4, xm 10 0, xS 11 10, xb 12 .lss 9 11, xm 13 12, xmg 14 0 13 true, xmg 15 4 13 true, ⟨(some 16), .idxs (.t 14) (.t 15), (some ((some 13), true))⟩, ⟨(some 17), .bin .neq (.t 16) (.c (.int .u8 47)), (some ((some 13), true))⟩, xp 18 13 17 false]
  (
  xd 18
  .skip
  (.exit 0)))
  (.block 1 (xR [xm 19 4, xbk 20 .add 19 1, xm 4 20])))))
 (xr [xm 22 0, xm 23 4, ⟨(some 24), .slcS (.t 22) none (some (.t 23)), none⟩, xc1 25 172 24, xm 21 25, xe 26 21 0, xe 27 21 1, ⟨(some 5), .new 213 2 [(.bool false), .nils], none⟩, xs 2 5 26, xm 6 27]
 (.seq (xr [xm 28 6, xn 29 28]
 (
 xd 29
 (xr [⟨(some 30), .call 130 [(.c (.int .i64 0))], none⟩, xs 3 2 30, xkb 3 false]
 .ret)
 .skip))
 (.seq (xr [xm 31 4, xm 32 0, xS 33 32, xb 34 .eql 31 33]
 (
 xd 34
 (.seq (.reg true [xg 35 2 5, ⟨(some 36), .call 167 [(.c (.int .u64 1))], none⟩, ⟨(some 37), .build [(.bool false), .nils, .nils] [(0, 2, (.t 35)), (2, 1, (.t 36))], none⟩, xs 3 2 37, xkb 3 true] [0, 0, 3, 7, 15])
 .ret)
 .skip))
 (xr [xm 39 0, xm 40 4, xbk 41 .add 40 1, ⟨(some 42), .slcS (.t 39) (some (.t 41)) none, none⟩, xc1 43 173 42, xm 38 43, xe 44 38 0, xe 45 38 1, xm 7 44, xm 8 45]
 (.seq (xr [xm 46 8, xn 47 46, xm 48 47, xmg 49 7 48 false, ⟨(some 50), .lenL (.t 49), (some ((some 48), false))⟩, xbg 51 .eql 50 0 48 false, xpb 52 48 true 51]
 (
 xd 52
 (xr [⟨(some 53), .call 130 [(.c (.int .i64 0))], none⟩, xs 3 2 53, xkb 3 false]
 .ret)
 .skip))
 (xr [xg 54 2 5, xm 55 7, xc2 56 174 54 55, xs 3 2 56, xkb 3 true]
 .ret)))))))))
theorem ok135 : Tryz.f135.body.bind (comp Tryz.prog) = some c135 := by kernel_rfl
def c136 : IR :=
 (xr [⟨(some 1), .box 215 3 (.t 0), none⟩, xk 2 0]
 (xr [xf 3 0 1, xg 4 2 3, xc1 5 175 4, xm 2 5]
 .ret))
theorem ok136 : Tryz.f136.body.bind (comp Tryz.prog) = some c136 := by kernel_rfl
def c142 : IR :=
 (xr [⟨(some 2), .box 215 3 (.t 0), none⟩, ⟨(some 3), .box 215 3 (.t 1), none⟩, ⟨(some 4), .new 215 3 [(.bool false), .nils, .nils], none⟩]
 (.seq (.reg true [xf 5 0 2, xg 6 2 5, xf 7 0 3, xg 8 2 7, xc2 9 181 6 8, xf 10 2 2, xl 11 10, xf 12 2 3, xl 13 12, xc2 14 182 11 13, xc2 15 174 9 14, xs 3 4 15] [0, 1, 0, 4, 15, 0, 32, 0, 128, 511, 1023, 2047])
 .ret))
theorem ok142 : Tryz.f142.body.bind (comp Tryz.prog) = some c142 := by kernel_rfl
def c171 : IR :=
 (xr [⟨(some 1), .box 215 3 (.t 0), none⟩, ⟨(some 2), .new 215 3 [(.bool false), .nils, .nils], none⟩]
 (.seq (.reg true [xf 3 0 1, xf 4 0 3, xl 5 4, xf 6 2 1, xl 7 6, xc2 8 209 5 7, xf 9 0 1, xf 10 1 9, xl 11 10, ⟨(some 12), .build [(.bool false), .nils, .nils] [(0, 2, (.t 8)), (2, 1, (.t 11))], none⟩, xs 3 2 12] [0, 1, 3, 0, 8, 31, 0, 64, 192, 511, 1023])
 .ret))
theorem ok171 : Tryz.f171.body.bind (comp Tryz.prog) = some c171 := by kernel_rfl
def c174 : IR :=
 (xr [⟨(some 2), .box 213 2 (.t 0), none⟩, ⟨(some 4), .new 215 3 [(.bool false), .nils, .nils], none⟩]
 (xr [xf 10 1 2, xl 11 10, xm 12 1, xc2 13 211 11 12, xm 5 13]
 (xr [xf 15 1 2, xl 16 15, xm 17 5, xc2 18 212 16 17, xm 14 18, xe 19 14 0, xe 20 14 1, xm 6 19, xm 7 20]
 (xr [xm 22 1, xm 23 5, xc2 24 212 22 23, xm 21 24, xe 25 21 0, xe 26 21 1, xm 8 25, xm 9 26]
 (xr [xf 27 0 2, xl 28 27, xm 29 6, xc2 30 209 28 29, xm 31 8, ⟨(some 32), .build [(.bool false), .nils, .nils] [(0, 2, (.t 30)), (2, 1, (.t 31))], none⟩, xs 3 4 32]
 .ret)))))
theorem ok174 : Tryz.f174.body.bind (comp Tryz.prog) = some c174 := by kernel_rfl
end Go.Proofs.YtgdbkigaaooifaaGreatDoorK.NatIr
