/-
  The compiled bodies, printed: IrRef.
-/
import Derived.Test.YtgimaioeifnajaaGreatDoorKSh
import Derived.Test.YtgimaioeifnajaaGreatDoorProg
set_option linter.all false
set_option maxHeartbeats 4000000
namespace Go.Proofs.YtgimaioeifnajaaGreatDoorK.NatIr
open AI Go.Proofs
def c144 : IR :=
 (xr [⟨(some 2), .mv (.c (.str ⟨#[]⟩)), none⟩]
 (.seq (xr [xm 5 0, xL 6 5, xbk 7 .eql 6 0]
 (xd 7
  (xr [⟨(some 2), .mv (.c (.str ⟨#[48]⟩)), none⟩]
  .ret)
  .skip))
 (xr [xm 8 0, xm 9 0, xL 10 9, xbk 11 .sub 10 1, xi 12 1 8 11, xl 13 12, ⟨(some 14), .call 166 [(.t 13), (.c (.int .i64 1))], none⟩, xm 3 14]
 (.seq (xr [xm 15 0, xL 16 15, xbk 17 .sub 16 2, xm 4 17]
 (.block 0 (.loop (.seq (xr [xm 18 4, xbk 19 .geq 18 0]
   (xd 19
    .skip
    (.exit 0)))
   (.seq (.block 1 (xR [xm 22 3, xm 23 0, xm 24 4, xi 25 1 23 24, xl 26 25, ⟨(some 27), .call 166 [(.t 26), (.c (.int .i64 4))], none⟩, xb 28 .add 22 27, xm 3 28]))
   (xR [xm 20 4, xbk 21 .sub 20 1, xm 4 21]))))))
 (xr [xm 29 3, xm 2 29]
 .ret)))))
theorem ok144 : Tryz.f144.body.bind (comp Tryz.prog) = some c144 := by kernel_rfl
def c145 : IR :=
 (xr [⟨(some 2), .mv (.c .nils), none⟩]
 (xr [⟨(some 3), .mv (.c .nils), none⟩]
 (.seq (.block 0 (.loop (.seq (xr [xm 4 0, ⟨(some 5), .bin .gtr (.t 4) (.c (.int .u64 0)), none⟩]
   (xd 5
    .skip
    (.exit 0)))
   (.block 1 (xr [xm 6 3, xm 7 0, ⟨(some 8), .bin .rem (.t 7) (.c (.int .u64 10000)), none⟩, ⟨(some 9), .conv .i64 (.t 8), none⟩, ⟨(some 10), .lit 3 1 1 [(.int .i64 0)] [(0, 1, (.t 9))], none⟩, ⟨(some 11), .app 3 1 8 (.t 6) (.t 10), none⟩, xm 3 11]
    (xR [xm 12 0, ⟨(some 13), .bin .quo (.t 12) (.c (.int .u64 10000)), none⟩, xm 0 13]))))))
 (xr [xm 14 3, xm 2 14]
 .ret))))
theorem ok145 : Tryz.f145.body.bind (comp Tryz.prog) = some c145 := by kernel_rfl
def c166 : IR :=
 (xr [⟨(some 4), .mv (.c (.str ⟨#[]⟩)), none⟩]
 (xr [⟨(some 5), .mv (.c (.str ⟨#[]⟩)), none⟩]
 (.seq (.block 0 (.loop (.seq (xr [xm 6 0, xbk 7 .gtr 6 0, xm 8 7, xmg 9 5 8 false, ⟨(some 10), .lenS (.t 9), (some ((some 8), false))⟩, xmg 11 1 8 false, ⟨(some 12), .bin .lss (.t 10) (.t 11), (some ((some 8), false))⟩, xpb 13 8 true 12]
   (xd 13
    .skip
    (.exit 0)))
   (.block 1 (xr [xm 14 0, xbk 15 .rem 14 10, ⟨(some 16), .bin .add (.c (.int .i64 48)) (.t 15), none⟩, ⟨(some 17), .conv .u8 (.t 16), none⟩, ⟨(some 18), .lit 5 1 1 [(.int .u8 0)] [(0, 1, (.t 17))], none⟩, ⟨(some 19), .bstr (.t 18), none⟩, xm 20 5, xb 21 .add 19 20, xm 5 21]
    (xR [xm 22 0, xbk 23 .quo 22 10, xm 0 23]))))))
 (xr [xm 24 5, xm 4 24]
 .ret))))
theorem ok166 : Tryz.f166.body.bind (comp Tryz.prog) = some c166 := by kernel_rfl
end Go.Proofs.YtgimaioeifnajaaGreatDoorK.NatIr
