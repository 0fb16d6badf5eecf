/-
  The compiled bodies, printed: IrLaw1.
-/
import Derived.Test.YtnildflhdkdbiaaGreatDoorVAb
import Derived.Test.YtnildflhdkdbiaaGreatDoorProg
set_option linter.all false
set_option linter.unusedVariables false
set_option linter.unusedSimpArgs false
set_option maxHeartbeats 4000000
namespace Go.Proofs.YtnildflhdkdbiaaGreatDoorV.NatIr
open Go.Proofs.YtnildflhdkdbiaaGreatDoorV.AI
/-- cubit/cubitlaw1.awake -/
def c13 : IR :=
  (.seq (.reg false [⟨(some 0), .mv (.c (.bool false)), none⟩] [])
  (.seq (.reg false [⟨(some 4), .call 84 [(.c (.str ⟨#[52, 50, 57, 52, 57, 54, 55, 50, 57, 54]⟩))], none⟩, ⟨(some 3), .mv (.t 4), none⟩, ⟨(some 5), .ext (.t 3) 0, none⟩, ⟨(some 6), .ext (.t 3) 1, none⟩, ⟨(some 1), .new 25 1 [.nils], none⟩, ⟨none, .store 1 (.t 1) (.t 5), none⟩, ⟨(some 2), .mv (.t 6), none⟩] [])
  (.seq (.reg false [⟨(some 7), .mv (.t 2), none⟩, ⟨(some 8), .mv (.t 7), none⟩, ⟨(some 9), .faddr 0 (.t 1), (some ((some 8), true))⟩, ⟨(some 10), .load false 1 (.t 9), (some ((some 8), true))⟩, ⟨(some 11), .lenL (.t 10), (some ((some 8), true))⟩, ⟨(some 12), .bin .eql (.t 11) (.c (.int .i64 2)), (some ((some 8), true))⟩, ⟨(some 13), .pick (.t 8) (.t 12) (.c (.bool false)), none⟩, ⟨(some 14), .mv (.t 13), none⟩, ⟨(some 15), .faddr 0 (.t 1), (some ((some 14), true))⟩, ⟨(some 16), .load false 1 (.t 15), (some ((some 14), true))⟩, ⟨(some 17), .iaddrS 1 (.t 16) (.c (.int .i64 0)), (some ((some 14), true))⟩, ⟨(some 18), .load false 1 (.t 17), (some ((some 14), true))⟩, ⟨(some 19), .bin .eql (.t 18) (.c (.int .u32 0)), (some ((some 14), true))⟩, ⟨(some 20), .pick (.t 14) (.t 19) (.c (.bool false)), none⟩, ⟨(some 21), .mv (.t 20), none⟩, ⟨(some 22), .faddr 0 (.t 1), (some ((some 21), true))⟩, ⟨(some 23), .load false 1 (.t 22), (some ((some 21), true))⟩, ⟨(some 24), .iaddrS 1 (.t 23) (.c (.int .i64 1)), (some ((some 21), true))⟩, ⟨(some 25), .load false 1 (.t 24), (some ((some 21), true))⟩, ⟨(some 26), .bin .eql (.t 25) (.c (.int .u32 1)), (some ((some 21), true))⟩, ⟨(some 27), .pick (.t 21) (.t 26) (.c (.bool false)), none⟩, ⟨(some 28), .mv (.t 27), none⟩, ⟨(some 29), .load true 1 (.t 1), (some ((some 28), true))⟩, ⟨(some 30), .call 26 [(.t 29)], (some ((some 28), true))⟩, ⟨(some 31), .bin .eql (.t 30) (.c (.str ⟨#[52, 50, 57, 52, 57, 54, 55, 50, 57, 54]⟩)), (some ((some 28), true))⟩, ⟨(some 32), .pick (.t 28) (.t 31) (.c (.bool false)), none⟩, ⟨(some 33), .mv (.t 32), none⟩, ⟨(some 34), .load true 1 (.t 1), (some ((some 33), true))⟩, ⟨(some 35), .call 53 [(.t 34)], (some ((some 33), true))⟩, ⟨(some 36), .pick (.t 33) (.t 35) (.c (.bool false)), none⟩, ⟨(some 37), .mv (.t 36), none⟩, ⟨(some 38), .call 56 [(.c (.int .u64 65536))], (some ((some 37), true))⟩, ⟨(some 39), .call 56 [(.c (.int .u64 65536))], (some ((some 37), true))⟩, ⟨(some 40), .call 24 [(.t 38), (.t 39)], (some ((some 37), true))⟩, ⟨(some 41), .call 85 [(.c (.int .u64 4294967296))], (some ((some 37), true))⟩, ⟨(some 42), .call 17 [(.t 40), (.t 41)], (some ((some 37), true))⟩, ⟨(some 43), .pick (.t 37) (.t 42) (.c (.bool false)), none⟩, ⟨(some 0), .mv (.t 43), none⟩] [])
  .ret)))
theorem ok13 : (Go.Proofs.Tryz.f13.body).bind (comp Go.Proofs.Tryz.prog) = some c13 := by kernel_rfl
/-- cubit/cubitlaw1.is -/
def c17 : IR :=
  (.seq (.reg false [⟨(some 2), .box 25 1 (.t 0), none⟩, ⟨(some 4), .mv (.c (.bool false)), none⟩] [])
  (.seq (.reg false [⟨(some 5), .faddr 0 (.t 2), none⟩, ⟨(some 6), .load false 1 (.t 5), none⟩, ⟨(some 7), .lenL (.t 6), none⟩, ⟨(some 8), .bin .lss (.t 7) (.c (.int .i64 4000)), none⟩, ⟨(some 9), .mv (.t 8), none⟩, ⟨(some 10), .load true 1 (.t 2), (some ((some 9), true))⟩, ⟨(some 11), .call 53 [(.t 10)], (some ((some 9), true))⟩, ⟨(some 12), .pick (.t 9) (.t 11) (.c (.bool false)), none⟩, ⟨(some 13), .mv (.t 12), none⟩, ⟨(some 14), .faddr 0 (.t 2), (some ((some 13), true))⟩, ⟨(some 15), .load false 1 (.t 14), (some ((some 13), true))⟩, ⟨(some 16), .call 14 [(.t 15)], (some ((some 13), true))⟩, ⟨(some 17), .mv (.t 1), (some ((some 13), true))⟩, ⟨(some 18), .call 16 [(.t 16), (.t 17)], (some ((some 13), true))⟩, ⟨(some 19), .bin .eql (.t 18) (.c (.int .i64 0)), (some ((some 13), true))⟩, ⟨(some 20), .pick (.t 13) (.t 19) (.c (.bool false)), none⟩, ⟨(some 4), .mv (.t 20), none⟩] [])
  .ret))
theorem ok17 : (Go.Proofs.Tryz.f17.body).bind (comp Go.Proofs.Tryz.prog) = some c17 := by kernel_rfl
end Go.Proofs.YtnildflhdkdbiaaGreatDoorV.NatIr
