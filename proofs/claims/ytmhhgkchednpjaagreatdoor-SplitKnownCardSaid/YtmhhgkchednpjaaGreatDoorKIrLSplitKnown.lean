/-
 The compiled bodies, printed: IrLSplitKnown.
-/
import Derived.Test.YtmhhgkchednpjaaGreatDoorKSh
import Derived.Test.YtmhhgkchednpjaaGreatDoorProg
set_option linter.all false
set_option maxHeartbeats 4000000
namespace Go.Proofs.YtmhhgkchednpjaaGreatDoorK.NatIr
open AI Go.Proofs
def c13 : IR :=
 (xr [xkb 0 false]
 (.seq (xr [xc0 1 15, xn 2 1]
 (
 xd 2
 (xr [xkb 0 false]
 .ret)
 .skip))
 (xr [⟨(some 3), .call 55 [(.c (.str ⟨#[45, 51, 53, 56, 47, 53]⟩)), (.c (.str ⟨#[102, 111, 111, 116, 45, 97, 110, 100, 45, 105, 110, 99, 104]⟩)), (.c (.int .i64 1)), (.c (.int .i64 6))], none⟩, ⟨(some 4), .bin .eql (.t 3) (.c (.str ⟨#[45, 53, 32, 49, 49, 46, 54]⟩)), none⟩, xm 5 4, ⟨(some 6), .call 55 [(.c (.str ⟨#[55, 50]⟩)), (.c (.str ⟨#[121, 97, 114, 100, 45, 97, 110, 100, 45, 102, 111, 111, 116, 45, 97, 110, 100, 45, 105, 110, 99, 104]⟩)), (.c (.int .i64 2)), (.c (.int .i64 1))], (some ((some 5), true))⟩, ⟨(some 7), .bin .eql (.t 6) (.c (.str ⟨#[50, 32, 48, 32, 48, 46, 48, 48]⟩)), (some ((some 5), true))⟩, xp 8 5 7 false, xm 9 8, ⟨(some 10), .call 55 [(.c (.str ⟨#[49, 47, 51]⟩)), (.c (.str ⟨#[105, 110, 99, 104]⟩)), (.c (.int .i64 2)), (.c (.int .i64 6))], (some ((some 9), true))⟩, ⟨(some 11), .bin .eql (.t 10) (.c (.str ⟨#[48, 46, 51, 51]⟩)), (some ((some 9), true))⟩, xp 12 9 11 false, xm 13 12, ⟨(some 14), .call 55 [(.c (.str ⟨#[53]⟩)), (.c (.str ⟨#[105, 110, 99, 104, 45, 97, 110, 100, 45, 102, 111, 111, 116]⟩)), (.c (.int .i64 0)), (.c (.int .i64 6))], (some ((some 13), true))⟩, ⟨(some 15), .bin .eql (.t 14) (.c (.str ⟨#[69, 55]⟩)), (some ((some 13), true))⟩, xp 16 13 15 false, xm 17 16, ⟨(some 18), .call 55 [(.c (.str ⟨#[53]⟩)), (.c (.str ⟨#[102, 111, 111, 116, 45, 97, 110, 100, 45, 102, 111, 111, 116]⟩)), (.c (.int .i64 0)), (.c (.int .i64 6))], (some ((some 17), true))⟩, ⟨(some 19), .bin .eql (.t 18) (.c (.str ⟨#[69, 55]⟩)), (some ((some 17), true))⟩, xp 20 17 19 false, xm 21 20, ⟨(some 22), .call 55 [(.c (.str ⟨#[53]⟩)), (.c (.str ⟨#[102, 111, 111, 116, 45, 97, 110, 100, 45, 115, 101, 99, 111, 110, 100]⟩)), (.c (.int .i64 0)), (.c (.int .i64 6))], (some ((some 21), true))⟩, ⟨(some 23), .bin .eql (.t 22) (.c (.str ⟨#[69, 53]⟩)), (some ((some 21), true))⟩, xp 24 21 23 false, xm 25 24, ⟨(some 26), .call 55 [(.c (.str ⟨#[53]⟩)), (.c (.str ⟨#[99, 101, 108, 115, 105, 117, 115, 45, 97, 110, 100, 45, 107, 101, 108, 118, 105, 110]⟩)), (.c (.int .i64 0)), (.c (.int .i64 6))], (some ((some 25), true))⟩, ⟨(some 27), .bin .eql (.t 26) (.c (.str ⟨#[69, 54]⟩)), (some ((some 25), true))⟩, xp 28 25 27 false, xm 29 28, ⟨(some 30), .call 55 [(.c (.str ⟨#[53]⟩)), (.c (.str ⟨#[102, 111, 111, 116, 45, 97, 110, 100, 45, 105, 110, 99, 104]⟩)), (.c (.int .i64 (-1))), (.c (.int .i64 6))], (some ((some 29), true))⟩, ⟨(some 31), .bin .eql (.t 30) (.c (.str ⟨#[69, 49]⟩)), (some ((some 29), true))⟩, xp 32 29 31 false, xm 33 32, ⟨(some 34), .call 55 [(.c (.str ⟨#[53]⟩)), (.c (.str ⟨#[102, 111, 111, 116, 45, 97, 110, 100, 45, 105, 110, 99, 104]⟩)), (.c (.int .i64 0)), (.c (.int .i64 8))], (some ((some 33), true))⟩, ⟨(some 35), .bin .eql (.t 34) (.c (.str ⟨#[69, 49]⟩)), (some ((some 33), true))⟩, xp 36 33 35 false, xm 37 36, ⟨(some 38), .call 55 [(.c (.str ⟨#[50, 48]⟩)), (.c (.str ⟨#[99, 101, 108, 115, 105, 117, 115]⟩)), (.c (.int .i64 0)), (.c (.int .i64 6))], (some ((some 37), true))⟩, ⟨(some 39), .bin .eql (.t 38) (.c (.str ⟨#[50, 48]⟩)), (some ((some 37), true))⟩, xp 40 37 39 false, xm 41 40, ⟨(some 42), .call 55 [(.c (.str ⟨#[49, 48, 48, 48]⟩)), (.c (.str ⟨#[109, 101, 116, 101, 114, 45, 97, 110, 100, 45, 102, 111, 111, 116]⟩)), (.c (.int .i64 0)), (.c (.int .i64 6))], (some ((some 41), true))⟩, ⟨(some 43), .bin .eql (.t 42) (.c (.str ⟨#[69, 56]⟩)), (some ((some 41), true))⟩, xp 44 41 43 false, xm 45 44, ⟨(some 46), .call 55 [(.c (.str ⟨#[45, 49, 47, 49, 48]⟩)), (.c (.str ⟨#[102, 111, 111, 116, 45, 97, 110, 100, 45, 105, 110, 99, 104]⟩)), (.c (.int .i64 0)), (.c (.int .i64 6))], (some ((some 45), true))⟩, ⟨(some 47), .bin .eql (.t 46) (.c (.str ⟨#[48, 32, 48]⟩)), (some ((some 45), true))⟩, xp 48 45 47 false, xm 0 48]
 .ret)))
theorem ok13 : Tryz.f13.body.bind (comp Tryz.prog) = some c13 := by kernel_rfl
end Go.Proofs.YtmhhgkchednpjaaGreatDoorK.NatIr
