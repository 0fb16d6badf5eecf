/-
  The compiled bodies, printed: IrLib.
-/
import Derived.Test.YtapikjmijmebpaaGreatDoorKAb
import Derived.Test.YtapikjmijmebpaaGreatDoorProg
set_option linter.all false
set_option linter.unusedVariables false
set_option linter.unusedSimpArgs false
set_option maxHeartbeats 4000000
namespace Go.Proofs.YtapikjmijmebpaaGreatDoorK.NatIr
open Go.Proofs.YtapikjmijmebpaaGreatDoorK.AI
def c142 : IR :=
  (.seq (.reg false [⟨(some 4), .mv (.t 0), none⟩, ⟨(some 5), .lenL (.t 4), none⟩, ⟨(some 6), .bin .sub (.t 5) (.c (.int .i64 1)), none⟩, ⟨(some 2), .mv (.c (.int .i64 0)), none⟩, ⟨(some 3), .mv (.t 6), none⟩] [])
  (.block 0 (.loop (.seq (.seq (.reg false [⟨(some 7), .mv (.t 2), none⟩, ⟨(some 8), .mv (.t 3), none⟩, ⟨(some 9), .bin .lss (.t 7) (.t 8), none⟩] [])
      (.cond (.t 9)
        .skip
        (.exit 0)))
      (.seq (.block 1 (.reg true [⟨(some 14), .mv (.t 0), none⟩, ⟨(some 15), .mv (.t 2), none⟩, ⟨(some 16), .mv (.t 0), none⟩, ⟨(some 17), .mv (.t 3), none⟩, ⟨(some 18), .mv (.t 0), none⟩, ⟨(some 19), .mv (.t 3), none⟩, ⟨(some 20), .iaddrS 1 (.t 18) (.t 19), none⟩, ⟨(some 21), .load false 1 (.t 20), none⟩, ⟨(some 22), .mv (.t 0), none⟩, ⟨(some 23), .mv (.t 2), none⟩, ⟨(some 24), .iaddrS 1 (.t 22) (.t 23), none⟩, ⟨(some 25), .load false 1 (.t 24), none⟩, ⟨(some 26), .iaddrS 1 (.t 14) (.t 15), none⟩, ⟨none, .store 1 (.t 26) (.t 21), none⟩, ⟨(some 27), .iaddrS 1 (.t 16) (.t 17), none⟩, ⟨none, .store 1 (.t 27) (.t 25), none⟩] [0, 0, 0, 0, 0, 0, 48, 112, 0, 0, 768, 1792, 4083, 8179, 16383, 32767]))
      (.reg false [⟨(some 10), .mv (.t 2), none⟩, ⟨(some 11), .bin .add (.t 10) (.c (.int .i64 1)), none⟩, ⟨(some 12), .mv (.t 3), none⟩, ⟨(some 13), .bin .sub (.t 12) (.c (.int .i64 1)), none⟩, ⟨(some 2), .mv (.t 11), none⟩, ⟨(some 3), .mv (.t 13), none⟩] []))))))
theorem ok142 : (Go.Proofs.Tryz.f142.body).bind (comp Go.Proofs.Tryz.prog) = some c142 := by kernel_rfl
def c166 : IR :=
  (.seq (.reg false [⟨(some 4), .mv (.c (.bool false)), none⟩] [])
  (.seq (.reg false [⟨(some 5), .mv (.t 0), none⟩, ⟨(some 6), .mv (.t 1), none⟩, ⟨(some 7), .call 171 [(.t 5), (.t 6)], none⟩, ⟨(some 4), .mv (.t 7), none⟩] [])
  .ret))
theorem ok166 : (Go.Proofs.Tryz.f166.body).bind (comp Go.Proofs.Tryz.prog) = some c166 := by kernel_rfl
def c171 : IR :=
  (.seq (.reg false [⟨(some 4), .mv (.c (.bool false)), none⟩] [])
  (.seq (.reg false [⟨(some 5), .mv (.t 0), none⟩, ⟨(some 6), .lenS (.t 5), none⟩, ⟨(some 7), .mv (.t 1), none⟩, ⟨(some 8), .lenS (.t 7), none⟩, ⟨(some 9), .bin .geq (.t 6) (.t 8), none⟩, ⟨(some 10), .mv (.t 9), none⟩, ⟨(some 11), .mv (.t 0), (some ((some 10), true))⟩, ⟨(some 12), .mv (.t 1), (some ((some 10), true))⟩, ⟨(some 13), .lenS (.t 12), (some ((some 10), true))⟩, ⟨(some 14), .slcS (.t 11) none (some (.t 13)), (some ((some 10), true))⟩, ⟨(some 15), .mv (.t 1), (some ((some 10), true))⟩, ⟨(some 16), .bin .eql (.t 14) (.t 15), (some ((some 10), true))⟩, ⟨(some 17), .pick (.t 10) (.t 16) (.c (.bool false)), none⟩, ⟨(some 4), .mv (.t 17), none⟩] [])
  .ret))
theorem ok171 : (Go.Proofs.Tryz.f171.body).bind (comp Go.Proofs.Tryz.prog) = some c171 := by kernel_rfl
end Go.Proofs.YtapikjmijmebpaaGreatDoorK.NatIr
