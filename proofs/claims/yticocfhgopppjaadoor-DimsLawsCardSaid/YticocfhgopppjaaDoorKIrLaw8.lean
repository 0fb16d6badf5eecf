/-
  The compiled bodies, printed: IrLaw8.
-/
import Derived.Test.YticocfhgopppjaaDoorKAb
import Derived.Test.YticocfhgopppjaaDoorProg
set_option linter.all false
set_option linter.unusedVariables false
set_option linter.unusedSimpArgs false
set_option maxHeartbeats 4000000
namespace Go.Proofs.YticocfhgopppjaaDoorK.NatIr
open Go.Proofs.YticocfhgopppjaaDoorK.AI
def c7 : IR :=
  (.seq (.reg false [⟨(some 0), .mv (.c (.bool false)), none⟩] [])
  (.seq (.reg false [⟨(some 8), .call 19 [(.c (.int .i64 1))], none⟩, ⟨(some 7), .mv (.t 8), none⟩, ⟨(some 9), .ext (.t 7) 0, none⟩, ⟨(some 10), .ext (.t 7) 1, none⟩, ⟨(some 1), .new 34 8 [(.int .i64 0), (.int .i64 0), (.int .i64 0), (.int .i64 0), (.int .i64 0), (.int .i64 0), (.int .i64 0), (.int .i64 0)], none⟩, ⟨none, .store 8 (.t 1) (.t 9), none⟩, ⟨(some 2), .mv (.t 10), none⟩] [])
  (.seq (.reg false [⟨(some 11), .call 8 [], none⟩, ⟨(some 3), .mv (.t 11), none⟩] [])
  (.seq (.seq (.reg false [⟨(some 12), .mv (.t 3), none⟩, ⟨(some 13), .isnil false 0 (.t 12), none⟩] [])
  (.cond (.t 13)
    (.seq (.reg false [⟨(some 0), .mv (.c (.bool false)), none⟩] [])
    .ret)
    .skip))
  (.seq (.reg false [⟨(some 14), .mv (.t 3), none⟩, ⟨(some 15), .load true 8 (.t 1), none⟩, ⟨(some 16), .call 9 [(.t 14), (.t 15), (.c (.str ⟨#[116, 105, 109, 101]⟩))], none⟩, ⟨(some 4), .mv (.t 16), none⟩] [])
  (.seq (.reg false [⟨(some 18), .mv (.t 3), none⟩, ⟨(some 19), .load true 8 (.t 1), none⟩, ⟨(some 20), .call 11 [(.t 18), (.t 19)], none⟩, ⟨(some 17), .mv (.t 20), none⟩, ⟨(some 21), .ext (.t 17) 0, none⟩, ⟨(some 22), .ext (.t 17) 1, none⟩, ⟨(some 5), .mv (.t 21), none⟩, ⟨(some 6), .mv (.t 22), none⟩] [])
  (.seq (.reg false [⟨(some 23), .mv (.t 2), none⟩, ⟨(some 24), .mv (.t 23), none⟩, ⟨(some 25), .load true 8 (.t 1), (some ((some 24), true))⟩, ⟨(some 26), .call 21 [(.t 25)], (some ((some 24), true))⟩, ⟨(some 27), .bin .eql (.t 26) (.c (.str ⟨#[48, 44, 49, 44, 48, 44, 48, 44, 48, 44, 48, 44, 48, 44, 48]⟩)), (some ((some 24), true))⟩, ⟨(some 28), .pick (.t 24) (.t 27) (.c (.bool false)), none⟩, ⟨(some 29), .mv (.t 28), none⟩, ⟨(some 30), .mv (.t 4), (some ((some 29), true))⟩, ⟨(some 31), .pick (.t 29) (.t 30) (.c (.bool false)), none⟩, ⟨(some 32), .mv (.t 31), none⟩, ⟨(some 33), .mv (.t 6), (some ((some 32), true))⟩, ⟨(some 34), .pick (.t 32) (.t 33) (.c (.bool false)), none⟩, ⟨(some 35), .mv (.t 34), none⟩, ⟨(some 36), .mv (.t 5), (some ((some 35), true))⟩, ⟨(some 37), .bin .eql (.t 36) (.c (.str ⟨#[116, 105, 109, 101]⟩)), (some ((some 35), true))⟩, ⟨(some 38), .pick (.t 35) (.t 37) (.c (.bool false)), none⟩, ⟨(some 0), .mv (.t 38), none⟩] [])
  .ret)))))))
theorem ok7 : (Go.Proofs.Tryd.f7.body).bind (comp Go.Proofs.Tryd.prog) = some c7 := by kernel_rfl
def c20 : IR :=
  (.seq (.reg false [⟨(some 4), .mv (.c (.bool false)), none⟩] [])
  (.seq (.seq (.reg false [⟨(some 6), .mv (.t 0), none⟩, ⟨(some 7), .lenL (.t 6), none⟩, ⟨(some 8), .mv (.t 1), none⟩, ⟨(some 9), .lenL (.t 8), none⟩, ⟨(some 10), .bin .neq (.t 7) (.t 9), none⟩] [])
  (.cond (.t 10)
    (.seq (.reg false [⟨(some 4), .mv (.c (.bool false)), none⟩] [])
    .ret)
    .skip))
  (.seq (.seq (.reg false [⟨(some 5), .mv (.c (.int .i64 0)), none⟩] [])
  (.block 0 (.loop (.seq (.seq (.reg false [⟨(some 11), .mv (.t 5), none⟩, ⟨(some 12), .mv (.t 0), none⟩, ⟨(some 13), .lenL (.t 12), none⟩, ⟨(some 14), .bin .lss (.t 11) (.t 13), none⟩] [])
      (.cond (.t 14)
        .skip
        (.exit 0)))
      (.seq (.block 1 (.seq (.reg true [⟨(some 17), .mv (.t 0), none⟩, ⟨(some 18), .mv (.t 5), none⟩, ⟨(some 19), .iaddrS 1 (.t 17) (.t 18), none⟩, ⟨(some 20), .load false 1 (.t 19), none⟩, ⟨(some 21), .mv (.t 1), none⟩, ⟨(some 22), .mv (.t 5), none⟩, ⟨(some 23), .iaddrS 1 (.t 21) (.t 22), none⟩, ⟨(some 24), .load false 1 (.t 23), none⟩, ⟨(some 25), .bin .neq (.t 20) (.t 24), none⟩] [0, 0, 3, 7, 0, 0, 48, 112, 255])
        (.cond (.t 25)
          (.seq (.reg false [⟨(some 4), .mv (.c (.bool false)), none⟩] [])
          .ret)
          .skip)))
      (.reg false [⟨(some 15), .mv (.t 5), none⟩, ⟨(some 16), .bin .add (.t 15) (.c (.int .i64 1)), none⟩, ⟨(some 5), .mv (.t 16), none⟩] []))))))
  (.seq (.reg false [⟨(some 4), .mv (.c (.bool true)), none⟩] [])
  .ret))))
theorem ok20 : (Go.Proofs.Tryd.f20.body).bind (comp Go.Proofs.Tryd.prog) = some c20 := by kernel_rfl
end Go.Proofs.YticocfhgopppjaaDoorK.NatIr
