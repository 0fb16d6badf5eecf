/-
  The compiled bodies, printed: IrLaw2.
-/
import Derived.Test.YtnildflhdkdbiaaGreatDoorVAb
import Derived.Test.YtnildflhdkdbiaaGreatDoorProg
set_option linter.all false
set_option linter.unusedVariables false
set_option linter.unusedSimpArgs false
set_option maxHeartbeats 4000000
namespace Go.Proofs.YtnildflhdkdbiaaGreatDoorV.NatIr
open Go.Proofs.YtnildflhdkdbiaaGreatDoorV.AI
/-- cubit/cubitlaw2.awake -/
def c30 : IR :=
  (.seq (.reg false [⟨(some 0), .mv (.c (.bool false)), none⟩] [])
  (.seq (.reg false [⟨(some 5), .call 33 [(.c (.int .i64 (-7)))], none⟩, ⟨(some 6), .call 33 [(.c (.int .i64 2))], none⟩, ⟨(some 7), .call 32 [(.t 5), (.t 6)], none⟩, ⟨(some 4), .mv (.t 7), none⟩, ⟨(some 8), .ext (.t 4) 0, none⟩, ⟨(some 9), .ext (.t 4) 1, none⟩, ⟨(some 10), .ext (.t 4) 2, none⟩, ⟨(some 1), .new 44 2 [(.bool false), .nils], none⟩, ⟨(some 2), .new 44 2 [(.bool false), .nils], none⟩, ⟨none, .store 2 (.t 1) (.t 8), none⟩, ⟨none, .store 2 (.t 2) (.t 9), none⟩, ⟨(some 3), .mv (.t 10), none⟩] [])
  (.seq (.reg true [⟨(some 11), .mv (.t 3), none⟩, ⟨(some 12), .mv (.t 11), none⟩, ⟨(some 13), .load true 2 (.t 1), (some ((some 12), true))⟩, ⟨(some 14), .call 39 [(.c (.int .i64 (-4)))], (some ((some 12), true))⟩, ⟨(some 15), .call 38 [(.t 13), (.t 14)], (some ((some 12), true))⟩, ⟨(some 16), .pick (.t 12) (.t 15) (.c (.bool false)), none⟩, ⟨(some 17), .mv (.t 16), none⟩, ⟨(some 18), .load true 2 (.t 2), (some ((some 17), true))⟩, ⟨(some 19), .call 39 [(.c (.int .i64 1))], (some ((some 17), true))⟩, ⟨(some 20), .call 38 [(.t 18), (.t 19)], (some ((some 17), true))⟩, ⟨(some 21), .pick (.t 17) (.t 20) (.c (.bool false)), none⟩, ⟨(some 22), .mv (.t 21), none⟩, ⟨(some 23), .call 33 [(.c (.int .i64 (-7)))], (some ((some 22), true))⟩, ⟨(some 24), .call 37 [(.t 23)], (some ((some 22), true))⟩, ⟨(some 25), .bin .eql (.t 24) (.c (.str ⟨#[45, 55]⟩)), (some ((some 22), true))⟩, ⟨(some 26), .pick (.t 22) (.t 25) (.c (.bool false)), none⟩, ⟨(some 27), .mv (.t 26), none⟩, ⟨(some 28), .call 33 [(.c (.int .i64 (-1)))], (some ((some 27), true))⟩, ⟨(some 29), .call 35 [(.t 28)], (some ((some 27), true))⟩, ⟨(some 30), .bin .eql (.t 29) (.c (.int .i64 (-1))), (some ((some 27), true))⟩, ⟨(some 31), .pick (.t 27) (.t 30) (.c (.bool false)), none⟩, ⟨(some 0), .mv (.t 31), none⟩] [0, 1, 3, 3, 15, 31, 63, 127, 127, 511, 1023, 2047, 4095, 8191, 16383, 32767, 65535, 131071, 262143, 524287, 1048575, 2097151])
  .ret)))
theorem ok30 : (Go.Proofs.Tryz.f30.body).bind (comp Go.Proofs.Tryz.prog) = some c30 := by kernel_rfl
/-- cubit/cubitlaw2.zis -/
def c38 : IR :=
  (.seq (.reg false [⟨(some 2), .box 44 2 (.t 0), none⟩, ⟨(some 3), .box 56 2 (.t 1), none⟩, ⟨(some 4), .mv (.c (.bool false)), none⟩] [])
  (.seq (.reg false [⟨(some 5), .load true 2 (.t 2), none⟩, ⟨(some 6), .call 34 [(.t 5)], none⟩, ⟨(some 7), .mv (.t 6), none⟩, ⟨(some 8), .faddr 0 (.t 2), (some ((some 7), true))⟩, ⟨(some 9), .load false 1 (.t 8), (some ((some 7), true))⟩, ⟨(some 10), .faddr 0 (.t 3), (some ((some 7), true))⟩, ⟨(some 11), .load false 1 (.t 10), (some ((some 7), true))⟩, ⟨(some 12), .beq false (.t 9) (.t 11), (some ((some 7), true))⟩, ⟨(some 13), .pick (.t 7) (.t 12) (.c (.bool false)), none⟩, ⟨(some 14), .mv (.t 13), none⟩, ⟨(some 15), .faddr 1 (.t 2), (some ((some 14), true))⟩, ⟨(some 16), .load true 1 (.t 15), (some ((some 14), true))⟩, ⟨(some 17), .faddr 1 (.t 3), (some ((some 14), true))⟩, ⟨(some 18), .load false 1 (.t 17), (some ((some 14), true))⟩, ⟨(some 19), .call 105 [(.t 16), (.t 18)], (some ((some 14), true))⟩, ⟨(some 20), .pick (.t 14) (.t 19) (.c (.bool false)), none⟩, ⟨(some 4), .mv (.t 20), none⟩] [])
  .ret))
theorem ok38 : (Go.Proofs.Tryz.f38.body).bind (comp Go.Proofs.Tryz.prog) = some c38 := by kernel_rfl
/-- cubit/cubitlaw2.long -/
def c42 : IR :=
  (.seq (.reg false [⟨(some 1), .box 44 2 (.t 0), none⟩, ⟨(some 2), .mv (.c (.bool false)), none⟩] [])
  (.seq (.reg false [⟨(some 3), .faddr 1 (.t 1), none⟩, ⟨(some 4), .faddr 0 (.t 3), none⟩, ⟨(some 5), .load false 1 (.t 4), none⟩, ⟨(some 6), .lenL (.t 5), none⟩, ⟨(some 7), .bin .gtr (.t 6) (.c (.int .i64 24)), none⟩, ⟨(some 2), .mv (.t 7), none⟩] [])
  .ret))
theorem ok42 : (Go.Proofs.Tryz.f42.body).bind (comp Go.Proofs.Tryz.prog) = some c42 := by kernel_rfl
/-- cubit/cubitlaw2.own -/
def c43 : IR :=
  (.seq (.reg false [⟨(some 1), .box 44 2 (.t 0), none⟩, ⟨(some 2), .new 56 2 [(.bool false), .nils], none⟩] [])
  (.seq (.reg true [⟨(some 3), .faddr 0 (.t 1), none⟩, ⟨(some 4), .load false 1 (.t 3), none⟩, ⟨(some 5), .faddr 1 (.t 1), none⟩, ⟨(some 6), .faddr 0 (.t 5), none⟩, ⟨(some 7), .load false 1 (.t 6), none⟩, ⟨(some 8), .call 14 [(.t 7)], none⟩, ⟨(some 9), .call 106 [(.t 4), (.t 8)], none⟩, ⟨none, .store 2 (.t 2) (.t 9), none⟩] [0, 1, 0, 4, 12, 28, 63, 127])
  .ret))
theorem ok43 : (Go.Proofs.Tryz.f43.body).bind (comp Go.Proofs.Tryz.prog) = some c43 := by kernel_rfl
/-- cubit/cubitlaw2.is -/
def c105 : IR :=
  (.seq (.reg false [⟨(some 2), .box 25 1 (.t 0), none⟩, ⟨(some 4), .mv (.c (.bool false)), none⟩] [])
  (.seq (.reg false [⟨(some 5), .faddr 0 (.t 2), none⟩, ⟨(some 6), .load false 1 (.t 5), none⟩, ⟨(some 7), .lenL (.t 6), none⟩, ⟨(some 8), .bin .lss (.t 7) (.c (.int .i64 4000)), none⟩, ⟨(some 9), .mv (.t 8), none⟩, ⟨(some 10), .load true 1 (.t 2), (some ((some 9), true))⟩, ⟨(some 11), .call 53 [(.t 10)], (some ((some 9), true))⟩, ⟨(some 12), .pick (.t 9) (.t 11) (.c (.bool false)), none⟩, ⟨(some 13), .mv (.t 12), none⟩, ⟨(some 14), .faddr 0 (.t 2), (some ((some 13), true))⟩, ⟨(some 15), .load false 1 (.t 14), (some ((some 13), true))⟩, ⟨(some 16), .call 14 [(.t 15)], (some ((some 13), true))⟩, ⟨(some 17), .mv (.t 1), (some ((some 13), true))⟩, ⟨(some 18), .call 16 [(.t 16), (.t 17)], (some ((some 13), true))⟩, ⟨(some 19), .bin .eql (.t 18) (.c (.int .i64 0)), (some ((some 13), true))⟩, ⟨(some 20), .pick (.t 13) (.t 19) (.c (.bool false)), none⟩, ⟨(some 4), .mv (.t 20), none⟩] [])
  .ret))
theorem ok105 : (Go.Proofs.Tryz.f105.body).bind (comp Go.Proofs.Tryz.prog) = some c105 := by kernel_rfl
end Go.Proofs.YtnildflhdkdbiaaGreatDoorV.NatIr
