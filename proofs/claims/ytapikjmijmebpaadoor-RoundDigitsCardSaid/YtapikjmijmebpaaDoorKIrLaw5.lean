/-
  The compiled bodies, printed: IrLaw5.
-/
import Derived.Test.YtapikjmijmebpaaDoorKAb
import Derived.Test.YtapikjmijmebpaaDoorProg
set_option linter.all false
set_option linter.unusedVariables false
set_option linter.unusedSimpArgs false
set_option maxHeartbeats 4000000
namespace Go.Proofs.YtapikjmijmebpaaDoorK.NatIr
open Go.Proofs.YtapikjmijmebpaaDoorK.AI
/-- cubit/cubitlaw5.awake -/
def c9 : IR :=
  (.seq (.reg false [⟨(some 0), .mv (.c (.bool false)), none⟩] [])
  (.seq (.reg false [⟨(some 6), .call 23 [(.c (.int .i64 5)), (.c (.int .u64 2))], none⟩, ⟨(some 7), .call 21 [(.t 6), (.c (.int .i64 0)), (.c (.int .i64 7))], none⟩, ⟨(some 5), .mv (.t 7), none⟩, ⟨(some 8), .ext (.t 5) 0, none⟩, ⟨(some 9), .ext (.t 5) 1, none⟩, ⟨(some 1), .new 33 3 [(.bool false), .nils, (.int .i64 0)], none⟩, ⟨none, .store 3 (.t 1) (.t 8), none⟩, ⟨(some 2), .mv (.t 9), none⟩] [])
  (.seq (.reg false [⟨(some 11), .call 23 [(.c (.int .i64 999)), (.c (.int .u64 10))], none⟩, ⟨(some 12), .call 12 [(.t 11), (.c (.int .i64 2)), (.c (.int .i64 6))], none⟩, ⟨(some 10), .mv (.t 12), none⟩, ⟨(some 13), .ext (.t 10) 0, none⟩, ⟨(some 14), .ext (.t 10) 1, none⟩, ⟨(some 3), .new 33 3 [(.bool false), .nils, (.int .i64 0)], none⟩, ⟨none, .store 3 (.t 3) (.t 13), none⟩, ⟨(some 4), .mv (.t 14), none⟩] [])
  (.seq (.reg false [⟨(some 15), .mv (.t 2), none⟩, ⟨(some 16), .bin .eql (.t 15) (.c (.int .i64 0)), none⟩, ⟨(some 17), .mv (.t 16), none⟩, ⟨(some 18), .load true 3 (.t 1), (some ((some 17), true))⟩, ⟨(some 19), .call 29 [(.t 18)], (some ((some 17), true))⟩, ⟨(some 20), .bin .eql (.t 19) (.c (.str ⟨#[50]⟩)), (some ((some 17), true))⟩, ⟨(some 21), .pick (.t 17) (.t 20) (.c (.bool false)), none⟩, ⟨(some 22), .mv (.t 21), none⟩, ⟨(some 23), .mv (.t 4), (some ((some 22), true))⟩, ⟨(some 24), .bin .eql (.t 23) (.c (.int .i64 0)), (some ((some 22), true))⟩, ⟨(some 25), .pick (.t 22) (.t 24) (.c (.bool false)), none⟩, ⟨(some 26), .mv (.t 25), none⟩, ⟨(some 27), .load true 3 (.t 3), (some ((some 26), true))⟩, ⟨(some 28), .call 29 [(.t 27)], (some ((some 26), true))⟩, ⟨(some 29), .bin .eql (.t 28) (.c (.str ⟨#[49, 48, 48]⟩)), (some ((some 26), true))⟩, ⟨(some 30), .pick (.t 26) (.t 29) (.c (.bool false)), none⟩, ⟨(some 31), .mv (.t 30), none⟩, ⟨(some 32), .call 32 [(.c (.int .i64 1))], (some ((some 31), true))⟩, ⟨(some 33), .pick (.t 31) (.t 32) (.c (.bool false)), none⟩, ⟨(some 34), .mv (.t 33), none⟩, ⟨(some 35), .call 32 [(.c (.int .i64 8))], (some ((some 34), true))⟩, ⟨(some 36), .not (.t 35), (some ((some 34), true))⟩, ⟨(some 37), .pick (.t 34) (.t 36) (.c (.bool false)), none⟩, ⟨(some 0), .mv (.t 37), none⟩] [])
  .ret))))
theorem ok9 : (Go.Proofs.Tryd.f9.body).bind (comp Go.Proofs.Tryd.prog) = some c9 := by kernel_rfl
/-- cubit/cubitlaw5.long -/
def c14 : IR :=
  (.seq (.reg false [⟨(some 1), .box 28 3 (.t 0), none⟩, ⟨(some 2), .mv (.c (.bool false)), none⟩] [])
  (.seq (.reg false [⟨(some 3), .faddr 0 (.t 1), none⟩, ⟨(some 4), .faddr 1 (.t 3), none⟩, ⟨(some 5), .faddr 0 (.t 4), none⟩, ⟨(some 6), .load false 1 (.t 5), none⟩, ⟨(some 7), .lenL (.t 6), none⟩, ⟨(some 8), .bin .gtr (.t 7) (.c (.int .i64 12)), none⟩, ⟨(some 9), .mv (.t 8), none⟩, ⟨(some 10), .faddr 2 (.t 1), (some ((some 9), false))⟩, ⟨(some 11), .faddr 0 (.t 10), (some ((some 9), false))⟩, ⟨(some 12), .load false 1 (.t 11), (some ((some 9), false))⟩, ⟨(some 13), .lenL (.t 12), (some ((some 9), false))⟩, ⟨(some 14), .bin .gtr (.t 13) (.c (.int .i64 12)), (some ((some 9), false))⟩, ⟨(some 15), .pick (.t 9) (.c (.bool true)) (.t 14), none⟩, ⟨(some 2), .mv (.t 15), none⟩] [])
  .ret))
theorem ok14 : (Go.Proofs.Tryd.f14.body).bind (comp Go.Proofs.Tryd.prog) = some c14 := by kernel_rfl
/-- cubit/cubitlaw5.over -/
def c23 : IR :=
  (.seq (.reg false [⟨(some 4), .new 28 3 [(.bool false), .nils, .nils], none⟩] [])
  (.seq (.reg false [⟨(some 8), .mv (.t 0), none⟩, ⟨(some 9), .call 48 [(.t 8)], none⟩, ⟨(some 10), .mv (.t 1), none⟩, ⟨(some 11), .call 17 [(.t 10)], none⟩, ⟨(some 12), .call 16 [(.t 9), (.t 11)], none⟩, ⟨(some 7), .mv (.t 12), none⟩, ⟨(some 13), .ext (.t 7) 0, none⟩, ⟨(some 14), .ext (.t 7) 1, none⟩, ⟨(some 5), .new 28 3 [(.bool false), .nils, .nils], none⟩, ⟨none, .store 3 (.t 5) (.t 13), none⟩, ⟨(some 6), .mv (.t 14), none⟩] [])
  (.seq (.reg false [⟨(some 15), .load true 3 (.t 5), none⟩, ⟨none, .store 3 (.t 4) (.t 15), none⟩] [])
  .ret)))
theorem ok23 : (Go.Proofs.Tryd.f23.body).bind (comp Go.Proofs.Tryd.prog) = some c23 := by kernel_rfl
/-- cubit/cubitlaw5.text -/
def c27 : IR :=
  (.seq (.reg false [⟨(some 2), .box 33 3 (.t 0), none⟩, ⟨(some 4), .mv (.c (.str ⟨#[]⟩)), none⟩] [])
  (.seq (.seq (.reg false [⟨(some 5), .mv (.t 1), none⟩, ⟨(some 6), .bin .neq (.t 5) (.c (.int .i64 0)), none⟩] [])
  (.cond (.t 6)
    (.seq (.reg false [⟨(some 4), .mv (.c (.str ⟨#[69]⟩)), none⟩] [])
    .ret)
    .skip))
  (.seq (.reg false [⟨(some 7), .load true 3 (.t 2), none⟩, ⟨(some 8), .call 29 [(.t 7)], none⟩, ⟨(some 4), .mv (.t 8), none⟩] [])
  .ret)))
theorem ok27 : (Go.Proofs.Tryd.f27.body).bind (comp Go.Proofs.Tryd.prog) = some c27 := by kernel_rfl
end Go.Proofs.YtapikjmijmebpaaDoorK.NatIr
