/-
  The compiled bodies, printed: IrLaw8.
-/
import Derived.Test.YtapgmfahdpopnaaDoorKAb
import Derived.Test.YtapgmfahdpopnaaDoorProg
set_option linter.all false
set_option linter.unusedVariables false
set_option linter.unusedSimpArgs false
set_option maxHeartbeats 4000000
namespace Go.Proofs.YtapgmfahdpopnaaDoorK.NatIr
open Go.Proofs.YtapgmfahdpopnaaDoorK.AI
def c4 : IR :=
  (.seq (.reg false [⟨(some 0), .mv (.c (.bool false)), none⟩] [])
  (.seq (.reg false [⟨(some 8), .call 9 [(.c (.int .i64 1))], none⟩, ⟨(some 7), .mv (.t 8), none⟩, ⟨(some 9), .ext (.t 7) 0, none⟩, ⟨(some 10), .ext (.t 7) 1, none⟩, ⟨(some 1), .new 34 8 [(.int .i64 0), (.int .i64 0), (.int .i64 0), (.int .i64 0), (.int .i64 0), (.int .i64 0), (.int .i64 0), (.int .i64 0)], none⟩, ⟨none, .store 8 (.t 1) (.t 9), none⟩, ⟨(some 2), .mv (.t 10), none⟩] [])
  (.seq (.reg false [⟨(some 11), .call 5 [], none⟩, ⟨(some 3), .mv (.t 11), none⟩] [])
  (.seq (.seq (.reg false [⟨(some 12), .mv (.t 3), none⟩, ⟨(some 13), .isnil false 0 (.t 12), none⟩] [])
  (.cond (.t 13)
    (.seq (.reg false [⟨(some 0), .mv (.c (.bool false)), none⟩] [])
    .ret)
    .skip))
  (.seq (.reg false [⟨(some 14), .mv (.t 3), none⟩, ⟨(some 15), .load true 8 (.t 1), none⟩, ⟨(some 16), .call 6 [(.t 14), (.t 15), (.c (.str ⟨#[116, 105, 109, 101]⟩))], none⟩, ⟨(some 4), .mv (.t 16), none⟩] [])
  (.seq (.reg false [⟨(some 18), .mv (.t 3), none⟩, ⟨(some 19), .load true 8 (.t 1), none⟩, ⟨(some 20), .call 8 [(.t 18), (.t 19)], none⟩, ⟨(some 17), .mv (.t 20), none⟩, ⟨(some 21), .ext (.t 17) 0, none⟩, ⟨(some 22), .ext (.t 17) 1, none⟩, ⟨(some 5), .mv (.t 21), none⟩, ⟨(some 6), .mv (.t 22), none⟩] [])
  (.seq (.reg false [⟨(some 23), .mv (.t 2), none⟩, ⟨(some 24), .mv (.t 23), none⟩, ⟨(some 25), .load true 8 (.t 1), (some ((some 24), true))⟩, ⟨(some 26), .call 10 [(.t 25)], (some ((some 24), true))⟩, ⟨(some 27), .bin .eql (.t 26) (.c (.str ⟨#[48, 44, 49, 44, 48, 44, 48, 44, 48, 44, 48, 44, 48, 44, 48]⟩)), (some ((some 24), true))⟩, ⟨(some 28), .pick (.t 24) (.t 27) (.c (.bool false)), none⟩, ⟨(some 29), .mv (.t 28), none⟩, ⟨(some 30), .mv (.t 4), (some ((some 29), true))⟩, ⟨(some 31), .pick (.t 29) (.t 30) (.c (.bool false)), none⟩, ⟨(some 32), .mv (.t 31), none⟩, ⟨(some 33), .mv (.t 6), (some ((some 32), true))⟩, ⟨(some 34), .pick (.t 32) (.t 33) (.c (.bool false)), none⟩, ⟨(some 35), .mv (.t 34), none⟩, ⟨(some 36), .mv (.t 5), (some ((some 35), true))⟩, ⟨(some 37), .bin .eql (.t 36) (.c (.str ⟨#[116, 105, 109, 101]⟩)), (some ((some 35), true))⟩, ⟨(some 38), .pick (.t 35) (.t 37) (.c (.bool false)), none⟩, ⟨(some 0), .mv (.t 38), none⟩] [])
  .ret)))))))
theorem ok4 : (Go.Proofs.Tryd.f4.body).bind (comp Go.Proofs.Tryd.prog) = some c4 := by kernel_rfl
end Go.Proofs.YtapgmfahdpopnaaDoorK.NatIr
