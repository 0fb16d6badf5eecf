/-
  The compiled bodies, printed: IrLaw5.
-/
import Derived.Test.YtapikjmijmebpaaGreatDoorKAb
import Derived.Test.YtapikjmijmebpaaGreatDoorProg
set_option linter.all false
set_option linter.unusedVariables false
set_option linter.unusedSimpArgs false
set_option maxHeartbeats 4000000
namespace Go.Proofs.YtapikjmijmebpaaGreatDoorK.NatIr
open Go.Proofs.YtapikjmijmebpaaGreatDoorK.AI
def c12 : IR :=
  (.seq (.reg false [⟨(some 0), .mv (.c (.bool false)), none⟩] [])
  (.seq (.reg false [⟨(some 6), .call 70 [(.c (.int .i64 5)), (.c (.int .u64 2))], none⟩, ⟨(some 7), .call 16 [(.t 6), (.c (.int .i64 0)), (.c (.int .i64 7))], none⟩, ⟨(some 5), .mv (.t 7), none⟩, ⟨(some 8), .ext (.t 5) 0, none⟩, ⟨(some 9), .ext (.t 5) 1, none⟩, ⟨(some 1), .new 30 3 [(.bool false), .nils, (.int .i64 0)], none⟩, ⟨none, .store 3 (.t 1) (.t 8), none⟩, ⟨(some 2), .mv (.t 9), none⟩] [])
  (.seq (.reg false [⟨(some 11), .call 70 [(.c (.int .i64 999)), (.c (.int .u64 10))], none⟩, ⟨(some 12), .call 17 [(.t 11), (.c (.int .i64 2)), (.c (.int .i64 6))], none⟩, ⟨(some 10), .mv (.t 12), none⟩, ⟨(some 13), .ext (.t 10) 0, none⟩, ⟨(some 14), .ext (.t 10) 1, none⟩, ⟨(some 3), .new 30 3 [(.bool false), .nils, (.int .i64 0)], none⟩, ⟨none, .store 3 (.t 3) (.t 13), none⟩, ⟨(some 4), .mv (.t 14), none⟩] [])
  (.seq (.reg false [⟨(some 15), .mv (.t 2), none⟩, ⟨(some 16), .bin .eql (.t 15) (.c (.int .i64 0)), none⟩, ⟨(some 17), .mv (.t 16), none⟩, ⟨(some 18), .load true 3 (.t 1), (some ((some 17), true))⟩, ⟨(some 19), .call 32 [(.t 18)], (some ((some 17), true))⟩, ⟨(some 20), .bin .eql (.t 19) (.c (.str ⟨#[50]⟩)), (some ((some 17), true))⟩, ⟨(some 21), .pick (.t 17) (.t 20) (.c (.bool false)), none⟩, ⟨(some 22), .mv (.t 21), none⟩, ⟨(some 23), .mv (.t 4), (some ((some 22), true))⟩, ⟨(some 24), .bin .eql (.t 23) (.c (.int .i64 0)), (some ((some 22), true))⟩, ⟨(some 25), .pick (.t 22) (.t 24) (.c (.bool false)), none⟩, ⟨(some 26), .mv (.t 25), none⟩, ⟨(some 27), .load true 3 (.t 3), (some ((some 26), true))⟩, ⟨(some 28), .call 32 [(.t 27)], (some ((some 26), true))⟩, ⟨(some 29), .bin .eql (.t 28) (.c (.str ⟨#[49, 48, 48]⟩)), (some ((some 26), true))⟩, ⟨(some 30), .pick (.t 26) (.t 29) (.c (.bool false)), none⟩, ⟨(some 31), .mv (.t 30), none⟩, ⟨(some 32), .call 19 [(.c (.int .i64 1))], (some ((some 31), true))⟩, ⟨(some 33), .pick (.t 31) (.t 32) (.c (.bool false)), none⟩, ⟨(some 34), .mv (.t 33), none⟩, ⟨(some 35), .call 19 [(.c (.int .i64 8))], (some ((some 34), true))⟩, ⟨(some 36), .not (.t 35), (some ((some 34), true))⟩, ⟨(some 37), .pick (.t 34) (.t 36) (.c (.bool false)), none⟩, ⟨(some 0), .mv (.t 37), none⟩] [])
  .ret))))
theorem ok12 : (Go.Proofs.Tryz.f12.body).bind (comp Go.Proofs.Tryz.prog) = some c12 := by kernel_rfl
def c13 : IR :=
  (.seq (.reg false [⟨(some 1), .box 28 3 (.t 0), none⟩, ⟨(some 2), .mv (.c (.bool false)), none⟩] [])
  (.seq (.reg false [⟨(some 3), .faddr 0 (.t 1), none⟩, ⟨(some 4), .faddr 1 (.t 3), none⟩, ⟨(some 5), .faddr 0 (.t 4), none⟩, ⟨(some 6), .load false 1 (.t 5), none⟩, ⟨(some 7), .lenL (.t 6), none⟩, ⟨(some 8), .bin .gtr (.t 7) (.c (.int .i64 12)), none⟩, ⟨(some 9), .mv (.t 8), none⟩, ⟨(some 10), .faddr 2 (.t 1), (some ((some 9), false))⟩, ⟨(some 11), .faddr 0 (.t 10), (some ((some 9), false))⟩, ⟨(some 12), .load false 1 (.t 11), (some ((some 9), false))⟩, ⟨(some 13), .lenL (.t 12), (some ((some 9), false))⟩, ⟨(some 14), .bin .gtr (.t 13) (.c (.int .i64 12)), (some ((some 9), false))⟩, ⟨(some 15), .pick (.t 9) (.c (.bool true)) (.t 14), none⟩, ⟨(some 2), .mv (.t 15), none⟩] [])
  .ret))
theorem ok13 : (Go.Proofs.Tryz.f13.body).bind (comp Go.Proofs.Tryz.prog) = some c13 := by kernel_rfl
def c14 : IR :=
  (.seq (.reg false [⟨(some 1), .box 28 3 (.t 0), none⟩, ⟨(some 2), .new 38 3 [(.bool false), .nils, .nils], none⟩] [])
  (.seq (.reg false [⟨(some 4), .faddr 2 (.t 1), none⟩, ⟨(some 5), .faddr 0 (.t 4), none⟩, ⟨(some 6), .load false 1 (.t 5), none⟩, ⟨(some 7), .call 26 [(.t 6)], none⟩, ⟨(some 3), .mv (.t 7), none⟩] [])
  (.seq (.seq (.reg false [⟨(some 8), .mv (.t 3), none⟩, ⟨(some 9), .lenL (.t 8), none⟩, ⟨(some 10), .bin .eql (.t 9) (.c (.int .i64 0)), none⟩] [])
  (.cond (.t 10)
    (.seq (.reg false [⟨(some 11), .call 71 [(.c (.int .i64 0))], none⟩, ⟨none, .store 3 (.t 2) (.t 11), none⟩] [])
    .ret)
    .skip))
  (.seq (.reg true [⟨(some 12), .faddr 0 (.t 1), none⟩, ⟨(some 13), .faddr 0 (.t 12), none⟩, ⟨(some 14), .load false 1 (.t 13), none⟩, ⟨(some 15), .faddr 0 (.t 1), none⟩, ⟨(some 16), .faddr 1 (.t 15), none⟩, ⟨(some 17), .faddr 0 (.t 16), none⟩, ⟨(some 18), .load false 1 (.t 17), none⟩, ⟨(some 19), .call 26 [(.t 18)], none⟩, ⟨(some 20), .call 73 [(.t 14), (.t 19)], none⟩, ⟨(some 21), .mv (.t 3), none⟩, ⟨(some 22), .call 72 [(.t 20), (.t 21)], none⟩, ⟨none, .store 3 (.t 2) (.t 22), none⟩] [0, 1, 3, 0, 8, 24, 56, 120, 255, 0, 1023, 2047])
  .ret))))
theorem ok14 : (Go.Proofs.Tryz.f14.body).bind (comp Go.Proofs.Tryz.prog) = some c14 := by kernel_rfl
def c20 : IR :=
  (.seq (.reg false [⟨(some 2), .box 26 2 (.t 0), none⟩, ⟨(some 3), .box 36 2 (.t 1), none⟩, ⟨(some 4), .mv (.c (.bool false)), none⟩] [])
  (.seq (.reg false [⟨(some 5), .load true 2 (.t 2), none⟩, ⟨(some 6), .call 86 [(.t 5)], none⟩, ⟨(some 7), .mv (.t 6), none⟩, ⟨(some 8), .faddr 0 (.t 2), (some ((some 7), true))⟩, ⟨(some 9), .load false 1 (.t 8), (some ((some 7), true))⟩, ⟨(some 10), .faddr 0 (.t 3), (some ((some 7), true))⟩, ⟨(some 11), .load false 1 (.t 10), (some ((some 7), true))⟩, ⟨(some 12), .beq false (.t 9) (.t 11), (some ((some 7), true))⟩, ⟨(some 13), .pick (.t 7) (.t 12) (.c (.bool false)), none⟩, ⟨(some 14), .mv (.t 13), none⟩, ⟨(some 15), .faddr 1 (.t 2), (some ((some 14), true))⟩, ⟨(some 16), .load true 1 (.t 15), (some ((some 14), true))⟩, ⟨(some 17), .faddr 1 (.t 3), (some ((some 14), true))⟩, ⟨(some 18), .load false 1 (.t 17), (some ((some 14), true))⟩, ⟨(some 19), .call 87 [(.t 16), (.t 18)], (some ((some 14), true))⟩, ⟨(some 20), .pick (.t 14) (.t 19) (.c (.bool false)), none⟩, ⟨(some 4), .mv (.t 20), none⟩] [])
  .ret))
theorem ok20 : (Go.Proofs.Tryz.f20.body).bind (comp Go.Proofs.Tryz.prog) = some c20 := by kernel_rfl
def c27 : IR :=
  (.seq (.reg false [⟨(some 2), .box 30 3 (.t 0), none⟩, ⟨(some 3), .box 50 3 (.t 1), none⟩, ⟨(some 4), .mv (.c (.bool false)), none⟩] [])
  (.seq (.reg false [⟨(some 5), .load true 3 (.t 2), none⟩, ⟨(some 6), .call 24 [(.t 5)], none⟩, ⟨(some 7), .mv (.t 6), none⟩, ⟨(some 8), .faddr 0 (.t 2), (some ((some 7), true))⟩, ⟨(some 9), .load false 1 (.t 8), (some ((some 7), true))⟩, ⟨(some 10), .faddr 0 (.t 3), (some ((some 7), true))⟩, ⟨(some 11), .load false 1 (.t 10), (some ((some 7), true))⟩, ⟨(some 12), .beq false (.t 9) (.t 11), (some ((some 7), true))⟩, ⟨(some 13), .pick (.t 7) (.t 12) (.c (.bool false)), none⟩, ⟨(some 14), .mv (.t 13), none⟩, ⟨(some 15), .faddr 2 (.t 2), (some ((some 14), true))⟩, ⟨(some 16), .load false 1 (.t 15), (some ((some 14), true))⟩, ⟨(some 17), .faddr 2 (.t 3), (some ((some 14), true))⟩, ⟨(some 18), .load false 1 (.t 17), (some ((some 14), true))⟩, ⟨(some 19), .bin .eql (.t 16) (.t 18), (some ((some 14), true))⟩, ⟨(some 20), .pick (.t 14) (.t 19) (.c (.bool false)), none⟩, ⟨(some 21), .mv (.t 20), none⟩, ⟨(some 22), .faddr 1 (.t 2), (some ((some 21), true))⟩, ⟨(some 23), .load true 1 (.t 22), (some ((some 21), true))⟩, ⟨(some 24), .faddr 1 (.t 3), (some ((some 21), true))⟩, ⟨(some 25), .load false 1 (.t 24), (some ((some 21), true))⟩, ⟨(some 26), .call 87 [(.t 23), (.t 25)], (some ((some 21), true))⟩, ⟨(some 27), .pick (.t 21) (.t 26) (.c (.bool false)), none⟩, ⟨(some 4), .mv (.t 27), none⟩] [])
  .ret))
theorem ok27 : (Go.Proofs.Tryz.f27.body).bind (comp Go.Proofs.Tryz.prog) = some c27 := by kernel_rfl
def c70 : IR :=
  (.seq (.reg false [⟨(some 4), .new 28 3 [(.bool false), .nils, .nils], none⟩] [])
  (.seq (.reg false [⟨(some 8), .mv (.t 0), none⟩, ⟨(some 9), .call 37 [(.t 8)], none⟩, ⟨(some 10), .mv (.t 1), none⟩, ⟨(some 11), .call 38 [(.t 10)], none⟩, ⟨(some 12), .call 66 [(.t 9), (.t 11)], none⟩, ⟨(some 7), .mv (.t 12), none⟩, ⟨(some 13), .ext (.t 7) 0, none⟩, ⟨(some 14), .ext (.t 7) 1, none⟩, ⟨(some 5), .new 28 3 [(.bool false), .nils, .nils], none⟩, ⟨none, .store 3 (.t 5) (.t 13), none⟩, ⟨(some 6), .mv (.t 14), none⟩] [])
  (.seq (.reg false [⟨(some 15), .load true 3 (.t 5), none⟩, ⟨none, .store 3 (.t 4) (.t 15), none⟩] [])
  .ret)))
theorem ok70 : (Go.Proofs.Tryz.f70.body).bind (comp Go.Proofs.Tryz.prog) = some c70 := by kernel_rfl
def c87 : IR :=
  (.seq (.reg false [⟨(some 2), .box 24 1 (.t 0), none⟩, ⟨(some 4), .mv (.c (.bool false)), none⟩] [])
  (.seq (.reg false [⟨(some 5), .faddr 0 (.t 2), none⟩, ⟨(some 6), .load false 1 (.t 5), none⟩, ⟨(some 7), .lenL (.t 6), none⟩, ⟨(some 8), .bin .lss (.t 7) (.c (.int .i64 4000)), none⟩, ⟨(some 9), .mv (.t 8), none⟩, ⟨(some 10), .load true 1 (.t 2), (some ((some 9), true))⟩, ⟨(some 11), .call 103 [(.t 10)], (some ((some 9), true))⟩, ⟨(some 12), .pick (.t 9) (.t 11) (.c (.bool false)), none⟩, ⟨(some 13), .mv (.t 12), none⟩, ⟨(some 14), .faddr 0 (.t 2), (some ((some 13), true))⟩, ⟨(some 15), .load false 1 (.t 14), (some ((some 13), true))⟩, ⟨(some 16), .call 26 [(.t 15)], (some ((some 13), true))⟩, ⟨(some 17), .mv (.t 1), (some ((some 13), true))⟩, ⟨(some 18), .call 124 [(.t 16), (.t 17)], (some ((some 13), true))⟩, ⟨(some 19), .bin .eql (.t 18) (.c (.int .i64 0)), (some ((some 13), true))⟩, ⟨(some 20), .pick (.t 13) (.t 19) (.c (.bool false)), none⟩, ⟨(some 4), .mv (.t 20), none⟩] [])
  .ret))
theorem ok87 : (Go.Proofs.Tryz.f87.body).bind (comp Go.Proofs.Tryz.prog) = some c87 := by kernel_rfl
end Go.Proofs.YtapikjmijmebpaaGreatDoorK.NatIr
