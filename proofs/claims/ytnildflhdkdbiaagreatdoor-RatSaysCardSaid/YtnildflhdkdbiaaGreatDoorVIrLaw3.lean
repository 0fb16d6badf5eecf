/-
  The compiled bodies, printed: IrLaw3.
-/
import Derived.Test.YtnildflhdkdbiaaGreatDoorVAb
import Derived.Test.YtnildflhdkdbiaaGreatDoorProg
set_option linter.all false
set_option linter.unusedVariables false
set_option linter.unusedSimpArgs false
set_option maxHeartbeats 4000000
namespace Go.Proofs.YtnildflhdkdbiaaGreatDoorV.NatIr
open Go.Proofs.YtnildflhdkdbiaaGreatDoorV.AI
/-- cubit/cubitlaw3.awake -/
def c54 : IR :=
  (.seq (.reg false [⟨(some 0), .mv (.c (.bool false)), none⟩] [])
  (.seq (.reg false [⟨(some 4), .call 68 [(.c (.str ⟨#[54, 47, 52]⟩))], none⟩, ⟨(some 3), .mv (.t 4), none⟩, ⟨(some 5), .ext (.t 3) 0, none⟩, ⟨(some 6), .ext (.t 3) 1, none⟩, ⟨(some 1), .new 75 3 [(.bool false), .nils, .nils], none⟩, ⟨none, .store 3 (.t 1) (.t 5), none⟩, ⟨(some 2), .mv (.t 6), none⟩] [])
  (.seq (.reg true [⟨(some 7), .mv (.t 2), none⟩, ⟨(some 8), .mv (.t 7), none⟩, ⟨(some 9), .load true 3 (.t 1), (some ((some 8), true))⟩, ⟨(some 10), .call 58 [(.t 9)], (some ((some 8), true))⟩, ⟨(some 11), .bin .eql (.t 10) (.c (.str ⟨#[51, 47, 50]⟩)), (some ((some 8), true))⟩, ⟨(some 12), .pick (.t 8) (.t 11) (.c (.bool false)), none⟩, ⟨(some 13), .mv (.t 12), none⟩, ⟨(some 14), .load true 3 (.t 1), (some ((some 13), true))⟩, ⟨(some 15), .call 39 [(.c (.int .i64 3))], (some ((some 13), true))⟩, ⟨(some 16), .call 85 [(.c (.int .u64 2))], (some ((some 13), true))⟩, ⟨(some 17), .call 108 [(.t 15), (.t 16)], (some ((some 13), true))⟩, ⟨(some 18), .call 74 [(.t 14), (.t 17)], (some ((some 13), true))⟩, ⟨(some 19), .pick (.t 13) (.t 18) (.c (.bool false)), none⟩, ⟨(some 20), .mv (.t 19), none⟩, ⟨(some 21), .load true 3 (.t 1), (some ((some 20), true))⟩, ⟨(some 22), .call 64 [(.t 21)], (some ((some 20), true))⟩, ⟨(some 23), .call 60 [(.t 22)], (some ((some 20), true))⟩, ⟨(some 24), .call 39 [(.c (.int .i64 (-2)))], (some ((some 20), true))⟩, ⟨(some 25), .call 80 [(.t 23), (.t 24)], (some ((some 20), true))⟩, ⟨(some 26), .pick (.t 20) (.t 25) (.c (.bool false)), none⟩, ⟨(some 0), .mv (.t 26), none⟩] [0, 1, 3, 7, 15, 31, 63, 127, 127, 383, 895, 2047, 4095, 8191, 16383, 32767, 65535, 131071, 262143, 524287, 1048575])
  .ret)))
theorem ok54 : (Go.Proofs.Tryz.f54.body).bind (comp Go.Proofs.Tryz.prog) = some c54 := by kernel_rfl
/-- cubit/cubitlaw3.long -/
def c59 : IR :=
  (.seq (.reg false [⟨(some 1), .box 75 3 (.t 0), none⟩, ⟨(some 2), .mv (.c (.bool false)), none⟩] [])
  (.seq (.reg false [⟨(some 3), .faddr 0 (.t 1), none⟩, ⟨(some 4), .faddr 1 (.t 3), none⟩, ⟨(some 5), .faddr 0 (.t 4), none⟩, ⟨(some 6), .load false 1 (.t 5), none⟩, ⟨(some 7), .lenL (.t 6), none⟩, ⟨(some 8), .bin .gtr (.t 7) (.c (.int .i64 12)), none⟩, ⟨(some 9), .mv (.t 8), none⟩, ⟨(some 10), .faddr 2 (.t 1), (some ((some 9), false))⟩, ⟨(some 11), .faddr 0 (.t 10), (some ((some 9), false))⟩, ⟨(some 12), .load false 1 (.t 11), (some ((some 9), false))⟩, ⟨(some 13), .lenL (.t 12), (some ((some 9), false))⟩, ⟨(some 14), .bin .gtr (.t 13) (.c (.int .i64 12)), (some ((some 9), false))⟩, ⟨(some 15), .pick (.t 9) (.c (.bool true)) (.t 14), none⟩, ⟨(some 2), .mv (.t 15), none⟩] [])
  .ret))
theorem ok59 : (Go.Proofs.Tryz.f59.body).bind (comp Go.Proofs.Tryz.prog) = some c59 := by kernel_rfl
/-- cubit/cubitlaw3.own -/
def c69 : IR :=
  (.seq (.reg false [⟨(some 1), .box 75 3 (.t 0), none⟩, ⟨(some 2), .new 92 3 [(.bool false), .nils, .nils], none⟩] [])
  (.seq (.reg false [⟨(some 4), .faddr 2 (.t 1), none⟩, ⟨(some 5), .faddr 0 (.t 4), none⟩, ⟨(some 6), .load false 1 (.t 5), none⟩, ⟨(some 7), .call 14 [(.t 6)], none⟩, ⟨(some 3), .mv (.t 7), none⟩] [])
  (.seq (.seq (.reg false [⟨(some 8), .mv (.t 3), none⟩, ⟨(some 9), .lenL (.t 8), none⟩, ⟨(some 10), .bin .eql (.t 9) (.c (.int .i64 0)), none⟩] [])
  (.cond (.t 10)
    (.seq (.reg false [⟨(some 11), .call 83 [(.c (.int .i64 0))], none⟩, ⟨none, .store 3 (.t 2) (.t 11), none⟩] [])
    .ret)
    .skip))
  (.seq (.reg true [⟨(some 12), .faddr 0 (.t 1), none⟩, ⟨(some 13), .faddr 0 (.t 12), none⟩, ⟨(some 14), .load false 1 (.t 13), none⟩, ⟨(some 15), .faddr 0 (.t 1), none⟩, ⟨(some 16), .faddr 1 (.t 15), none⟩, ⟨(some 17), .faddr 0 (.t 16), none⟩, ⟨(some 18), .load false 1 (.t 17), none⟩, ⟨(some 19), .call 14 [(.t 18)], none⟩, ⟨(some 20), .call 106 [(.t 14), (.t 19)], none⟩, ⟨(some 21), .mv (.t 3), none⟩, ⟨(some 22), .call 108 [(.t 20), (.t 21)], none⟩, ⟨none, .store 3 (.t 2) (.t 22), none⟩] [0, 1, 3, 0, 8, 24, 56, 120, 255, 0, 1023, 2047])
  .ret))))
theorem ok69 : (Go.Proofs.Tryz.f69.body).bind (comp Go.Proofs.Tryz.prog) = some c69 := by kernel_rfl
/-- cubit/cubitlaw3.qis -/
def c74 : IR :=
  (.seq (.reg false [⟨(some 2), .box 75 3 (.t 0), none⟩, ⟨(some 3), .box 92 3 (.t 1), none⟩, ⟨(some 4), .mv (.c (.bool false)), none⟩] [])
  (.seq (.reg false [⟨(some 5), .faddr 0 (.t 2), none⟩, ⟨(some 6), .load true 2 (.t 5), none⟩, ⟨(some 7), .faddr 0 (.t 3), none⟩, ⟨(some 8), .load true 2 (.t 7), none⟩, ⟨(some 9), .call 80 [(.t 6), (.t 8)], none⟩, ⟨(some 10), .mv (.t 9), none⟩, ⟨(some 11), .faddr 2 (.t 2), (some ((some 10), true))⟩, ⟨(some 12), .load true 1 (.t 11), (some ((some 10), true))⟩, ⟨(some 13), .faddr 2 (.t 3), (some ((some 10), true))⟩, ⟨(some 14), .load false 1 (.t 13), (some ((some 10), true))⟩, ⟨(some 15), .call 116 [(.t 12), (.t 14)], (some ((some 10), true))⟩, ⟨(some 16), .pick (.t 10) (.t 15) (.c (.bool false)), none⟩, ⟨(some 4), .mv (.t 16), none⟩] [])
  .ret))
theorem ok74 : (Go.Proofs.Tryz.f74.body).bind (comp Go.Proofs.Tryz.prog) = some c74 := by kernel_rfl
/-- cubit/cubitlaw3.zis -/
def c80 : IR :=
  (.seq (.reg false [⟨(some 2), .box 44 2 (.t 0), none⟩, ⟨(some 3), .box 56 2 (.t 1), none⟩, ⟨(some 4), .mv (.c (.bool false)), none⟩] [])
  (.seq (.reg false [⟨(some 5), .load true 2 (.t 2), none⟩, ⟨(some 6), .call 34 [(.t 5)], none⟩, ⟨(some 7), .mv (.t 6), none⟩, ⟨(some 8), .faddr 0 (.t 2), (some ((some 7), true))⟩, ⟨(some 9), .load false 1 (.t 8), (some ((some 7), true))⟩, ⟨(some 10), .faddr 0 (.t 3), (some ((some 7), true))⟩, ⟨(some 11), .load false 1 (.t 10), (some ((some 7), true))⟩, ⟨(some 12), .beq false (.t 9) (.t 11), (some ((some 7), true))⟩, ⟨(some 13), .pick (.t 7) (.t 12) (.c (.bool false)), none⟩, ⟨(some 14), .mv (.t 13), none⟩, ⟨(some 15), .faddr 1 (.t 2), (some ((some 14), true))⟩, ⟨(some 16), .load true 1 (.t 15), (some ((some 14), true))⟩, ⟨(some 17), .faddr 1 (.t 3), (some ((some 14), true))⟩, ⟨(some 18), .load false 1 (.t 17), (some ((some 14), true))⟩, ⟨(some 19), .call 116 [(.t 16), (.t 18)], (some ((some 14), true))⟩, ⟨(some 20), .pick (.t 14) (.t 19) (.c (.bool false)), none⟩, ⟨(some 4), .mv (.t 20), none⟩] [])
  .ret))
theorem ok80 : (Go.Proofs.Tryz.f80.body).bind (comp Go.Proofs.Tryz.prog) = some c80 := by kernel_rfl
/-- cubit/cubitlaw3.is -/
def c116 : IR :=
  (.seq (.reg false [⟨(some 2), .box 25 1 (.t 0), none⟩, ⟨(some 4), .mv (.c (.bool false)), none⟩] [])
  (.seq (.reg false [⟨(some 5), .faddr 0 (.t 2), none⟩, ⟨(some 6), .load false 1 (.t 5), none⟩, ⟨(some 7), .lenL (.t 6), none⟩, ⟨(some 8), .bin .lss (.t 7) (.c (.int .i64 4000)), none⟩, ⟨(some 9), .mv (.t 8), none⟩, ⟨(some 10), .load true 1 (.t 2), (some ((some 9), true))⟩, ⟨(some 11), .call 53 [(.t 10)], (some ((some 9), true))⟩, ⟨(some 12), .pick (.t 9) (.t 11) (.c (.bool false)), none⟩, ⟨(some 13), .mv (.t 12), none⟩, ⟨(some 14), .faddr 0 (.t 2), (some ((some 13), true))⟩, ⟨(some 15), .load false 1 (.t 14), (some ((some 13), true))⟩, ⟨(some 16), .call 14 [(.t 15)], (some ((some 13), true))⟩, ⟨(some 17), .mv (.t 1), (some ((some 13), true))⟩, ⟨(some 18), .call 16 [(.t 16), (.t 17)], (some ((some 13), true))⟩, ⟨(some 19), .bin .eql (.t 18) (.c (.int .i64 0)), (some ((some 13), true))⟩, ⟨(some 20), .pick (.t 13) (.t 19) (.c (.bool false)), none⟩, ⟨(some 4), .mv (.t 20), none⟩] [])
  .ret))
theorem ok116 : (Go.Proofs.Tryz.f116.body).bind (comp Go.Proofs.Tryz.prog) = some c116 := by kernel_rfl
end Go.Proofs.YtnildflhdkdbiaaGreatDoorV.NatIr
