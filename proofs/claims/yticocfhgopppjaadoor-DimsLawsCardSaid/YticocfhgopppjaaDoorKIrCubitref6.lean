/-
  The compiled bodies, printed: IrCubitref6.
-/
import Derived.Test.YticocfhgopppjaaDoorKAb
import Derived.Test.YticocfhgopppjaaDoorProg
set_option linter.all false
set_option linter.unusedVariables false
set_option linter.unusedSimpArgs false
set_option maxHeartbeats 4000000
namespace Go.Proofs.YticocfhgopppjaaDoorK.NatIr
open Go.Proofs.YticocfhgopppjaaDoorK.AI
def c13 : IR :=
  (.seq (.reg false [⟨(some 2), .box 37 8 (.t 0), none⟩, ⟨(some 3), .box 37 8 (.t 1), none⟩, ⟨(some 4), .new 37 8 [(.int .i64 0), (.int .i64 0), (.int .i64 0), (.int .i64 0), (.int .i64 0), (.int .i64 0), (.int .i64 0), (.int .i64 0)], none⟩, ⟨(some 5), .mv (.c (.bool false)), none⟩] [])
  (.seq (.reg false [⟨(some 6), .new 37 8 [(.int .i64 0), (.int .i64 0), (.int .i64 0), (.int .i64 0), (.int .i64 0), (.int .i64 0), (.int .i64 0), (.int .i64 0)], none⟩] [])
  (.seq (.seq (.reg false [⟨(some 8), .load true 8 (.t 2), none⟩, ⟨(some 9), .call 24 [(.t 8)], none⟩, ⟨(some 10), .not (.t 9), none⟩, ⟨(some 11), .mv (.t 10), none⟩, ⟨(some 12), .load true 8 (.t 3), (some ((some 11), false))⟩, ⟨(some 13), .call 24 [(.t 12)], (some ((some 11), false))⟩, ⟨(some 14), .not (.t 13), (some ((some 11), false))⟩, ⟨(some 15), .pick (.t 11) (.c (.bool true)) (.t 14), none⟩] [])
  (.cond (.t 15)
    (.seq (.reg false [⟨(some 16), .load true 8 (.t 6), none⟩, ⟨none, .store 8 (.t 4) (.t 16), none⟩, ⟨(some 5), .mv (.c (.bool false)), none⟩] [])
    .ret)
    .skip))
  (.seq (.seq (.reg false [⟨(some 7), .mv (.c (.int .i64 0)), none⟩] [])
  (.block 0 (.loop (.seq (.seq (.reg false [⟨(some 17), .mv (.t 7), none⟩, ⟨(some 18), .bin .lss (.t 17) (.c (.int .i64 8)), none⟩] [])
      (.cond (.t 18)
        .skip
        (.exit 0)))
      (.seq (.block 1 (.reg true [⟨(some 21), .mv (.t 7), none⟩, ⟨(some 22), .mv (.t 7), none⟩, ⟨(some 23), .iaddrA 8 1 (.t 2) (.t 22), none⟩, ⟨(some 24), .load false 1 (.t 23), none⟩, ⟨(some 25), .mv (.t 7), none⟩, ⟨(some 26), .iaddrA 8 1 (.t 3) (.t 25), none⟩, ⟨(some 27), .load false 1 (.t 26), none⟩, ⟨(some 28), .bin .add (.t 24) (.t 27), none⟩, ⟨(some 29), .iaddrA 8 1 (.t 6) (.t 21), none⟩, ⟨none, .store 1 (.t 29) (.t 28), none⟩] [0, 0, 2, 6, 0, 16, 48, 126, 255, 511]))
      (.reg false [⟨(some 19), .mv (.t 7), none⟩, ⟨(some 20), .bin .add (.t 19) (.c (.int .i64 1)), none⟩, ⟨(some 7), .mv (.t 20), none⟩] []))))))
  (.seq (.seq (.reg false [⟨(some 30), .load true 8 (.t 6), none⟩, ⟨(some 31), .call 24 [(.t 30)], none⟩, ⟨(some 32), .not (.t 31), none⟩] [])
  (.cond (.t 32)
    (.seq (.reg false [⟨(some 33), .build [(.int .i64 0), (.int .i64 0), (.int .i64 0), (.int .i64 0), (.int .i64 0), (.int .i64 0), (.int .i64 0), (.int .i64 0)] [], none⟩, ⟨none, .store 8 (.t 4) (.t 33), none⟩, ⟨(some 5), .mv (.c (.bool false)), none⟩] [])
    .ret)
    .skip))
  (.seq (.reg false [⟨(some 34), .load true 8 (.t 6), none⟩, ⟨none, .store 8 (.t 4) (.t 34), none⟩, ⟨(some 5), .mv (.c (.bool true)), none⟩] [])
  .ret))))))
theorem ok13 : (Go.Proofs.Tryd.f13.body).bind (comp Go.Proofs.Tryd.prog) = some c13 := by kernel_rfl
def c15 : IR :=
  (.seq (.reg false [⟨(some 2), .box 37 8 (.t 0), none⟩, ⟨(some 4), .new 37 8 [(.int .i64 0), (.int .i64 0), (.int .i64 0), (.int .i64 0), (.int .i64 0), (.int .i64 0), (.int .i64 0), (.int .i64 0)], none⟩, ⟨(some 5), .mv (.c (.bool false)), none⟩] [])
  (.seq (.reg false [⟨(some 6), .new 37 8 [(.int .i64 0), (.int .i64 0), (.int .i64 0), (.int .i64 0), (.int .i64 0), (.int .i64 0), (.int .i64 0), (.int .i64 0)], none⟩] [])
  (.seq (.seq (.reg false [⟨(some 8), .load true 8 (.t 2), none⟩, ⟨(some 9), .call 24 [(.t 8)], none⟩, ⟨(some 10), .not (.t 9), none⟩] [])
  (.cond (.t 10)
    (.seq (.reg false [⟨(some 11), .load true 8 (.t 6), none⟩, ⟨none, .store 8 (.t 4) (.t 11), none⟩, ⟨(some 5), .mv (.c (.bool false)), none⟩] [])
    .ret)
    .skip))
  (.seq (.seq (.reg false [⟨(some 7), .mv (.c (.int .i64 0)), none⟩] [])
  (.block 0 (.loop (.seq (.seq (.reg false [⟨(some 12), .mv (.t 7), none⟩, ⟨(some 13), .bin .lss (.t 12) (.c (.int .i64 8)), none⟩] [])
      (.cond (.t 13)
        .skip
        (.exit 0)))
      (.seq (.block 1 (.seq (.seq (.reg false [⟨(some 16), .mv (.t 7), none⟩, ⟨(some 17), .iaddrA 8 1 (.t 2) (.t 16), none⟩, ⟨(some 18), .load false 1 (.t 17), none⟩, ⟨(some 19), .bin .neq (.t 18) (.c (.int .i64 0)), none⟩, ⟨(some 20), .mv (.t 19), none⟩, ⟨(some 21), .mv (.t 1), (some ((some 20), true))⟩, ⟨(some 22), .bin .gtr (.t 21) (.c (.int .i64 100)), (some ((some 20), true))⟩, ⟨(some 23), .mv (.t 22), (some ((some 20), true))⟩, ⟨(some 24), .mv (.t 1), (some ((some 23), false))⟩, ⟨(some 25), .bin .lss (.t 24) (.c (.int .i64 (-100))), (some ((some 23), false))⟩, ⟨(some 26), .pick (.t 23) (.c (.bool true)) (.t 25), (some ((some 20), true))⟩, ⟨(some 27), .pick (.t 20) (.t 26) (.c (.bool false)), none⟩] [])
        (.cond (.t 27)
          (.seq (.reg false [⟨(some 28), .build [(.int .i64 0), (.int .i64 0), (.int .i64 0), (.int .i64 0), (.int .i64 0), (.int .i64 0), (.int .i64 0), (.int .i64 0)] [], none⟩, ⟨none, .store 8 (.t 4) (.t 28), none⟩, ⟨(some 5), .mv (.c (.bool false)), none⟩] [])
          .ret)
          .skip))
        (.seq (.reg false [⟨(some 29), .mv (.t 7), none⟩, ⟨(some 30), .iaddrA 8 1 (.t 2) (.t 29), none⟩, ⟨(some 31), .load false 1 (.t 30), none⟩, ⟨(some 32), .bin .neq (.t 31) (.c (.int .i64 0)), none⟩] [])
        (.cond (.t 32)
          (.reg false [⟨(some 33), .mv (.t 7), none⟩, ⟨(some 34), .mv (.t 7), none⟩, ⟨(some 35), .iaddrA 8 1 (.t 2) (.t 34), none⟩, ⟨(some 36), .load false 1 (.t 35), none⟩, ⟨(some 37), .mv (.t 1), none⟩, ⟨(some 38), .bin .mul (.t 36) (.t 37), none⟩, ⟨(some 39), .iaddrA 8 1 (.t 6) (.t 33), none⟩, ⟨none, .store 1 (.t 39) (.t 38), none⟩] [])
          .skip))))
      (.reg false [⟨(some 14), .mv (.t 7), none⟩, ⟨(some 15), .bin .add (.t 14) (.c (.int .i64 1)), none⟩, ⟨(some 7), .mv (.t 15), none⟩] []))))))
  (.seq (.seq (.reg false [⟨(some 40), .load true 8 (.t 6), none⟩, ⟨(some 41), .call 24 [(.t 40)], none⟩, ⟨(some 42), .not (.t 41), none⟩] [])
  (.cond (.t 42)
    (.seq (.reg false [⟨(some 43), .build [(.int .i64 0), (.int .i64 0), (.int .i64 0), (.int .i64 0), (.int .i64 0), (.int .i64 0), (.int .i64 0), (.int .i64 0)] [], none⟩, ⟨none, .store 8 (.t 4) (.t 43), none⟩, ⟨(some 5), .mv (.c (.bool false)), none⟩] [])
    .ret)
    .skip))
  (.seq (.reg false [⟨(some 44), .load true 8 (.t 6), none⟩, ⟨none, .store 8 (.t 4) (.t 44), none⟩, ⟨(some 5), .mv (.c (.bool true)), none⟩] [])
  .ret))))))
theorem ok15 : (Go.Proofs.Tryd.f15.body).bind (comp Go.Proofs.Tryd.prog) = some c15 := by kernel_rfl
def c17 : IR :=
  (.seq (.reg false [⟨(some 1), .box 37 8 (.t 0), none⟩, ⟨(some 2), .new 37 8 [(.int .i64 0), (.int .i64 0), (.int .i64 0), (.int .i64 0), (.int .i64 0), (.int .i64 0), (.int .i64 0), (.int .i64 0)], none⟩] [])
  (.seq (.reg false [⟨(some 6), .load true 8 (.t 1), none⟩, ⟨(some 7), .call 15 [(.t 6), (.c (.int .i64 (-1)))], none⟩, ⟨(some 5), .mv (.t 7), none⟩, ⟨(some 8), .ext (.t 5) 0, none⟩, ⟨(some 9), .ext (.t 5) 1, none⟩, ⟨(some 3), .new 37 8 [(.int .i64 0), (.int .i64 0), (.int .i64 0), (.int .i64 0), (.int .i64 0), (.int .i64 0), (.int .i64 0), (.int .i64 0)], none⟩, ⟨none, .store 8 (.t 3) (.t 8), none⟩, ⟨(some 4), .mv (.t 9), none⟩] [])
  (.seq (.reg false [⟨(some 10), .load true 8 (.t 3), none⟩, ⟨none, .store 8 (.t 2) (.t 10), none⟩] [])
  .ret)))
theorem ok17 : (Go.Proofs.Tryd.f17.body).bind (comp Go.Proofs.Tryd.prog) = some c17 := by kernel_rfl
def c24 : IR :=
  (.seq (.reg false [⟨(some 1), .box 37 8 (.t 0), none⟩, ⟨(some 2), .mv (.c (.bool false)), none⟩] [])
  (.seq (.seq (.reg false [⟨(some 3), .mv (.c (.int .i64 0)), none⟩] [])
  (.block 0 (.loop (.seq (.seq (.reg false [⟨(some 4), .mv (.t 3), none⟩, ⟨(some 5), .bin .lss (.t 4) (.c (.int .i64 8)), none⟩] [])
      (.cond (.t 5)
        .skip
        (.exit 0)))
      (.seq (.block 1 (.seq (.reg false [⟨(some 8), .mv (.t 3), none⟩, ⟨(some 9), .iaddrA 8 1 (.t 1) (.t 8), none⟩, ⟨(some 10), .load false 1 (.t 9), none⟩, ⟨(some 11), .bin .lss (.t 10) (.c (.int .i64 (-100))), none⟩, ⟨(some 12), .mv (.t 11), none⟩, ⟨(some 13), .mv (.t 3), (some ((some 12), false))⟩, ⟨(some 14), .iaddrA 8 1 (.t 1) (.t 13), (some ((some 12), false))⟩, ⟨(some 15), .load false 1 (.t 14), (some ((some 12), false))⟩, ⟨(some 16), .bin .gtr (.t 15) (.c (.int .i64 100)), (some ((some 12), false))⟩, ⟨(some 17), .pick (.t 12) (.c (.bool true)) (.t 16), none⟩] [])
        (.cond (.t 17)
          (.seq (.reg false [⟨(some 2), .mv (.c (.bool false)), none⟩] [])
          .ret)
          .skip)))
      (.reg false [⟨(some 6), .mv (.t 3), none⟩, ⟨(some 7), .bin .add (.t 6) (.c (.int .i64 1)), none⟩, ⟨(some 3), .mv (.t 7), none⟩] []))))))
  (.seq (.reg false [⟨(some 2), .mv (.c (.bool true)), none⟩] [])
  .ret)))
theorem ok24 : (Go.Proofs.Tryd.f24.body).bind (comp Go.Proofs.Tryd.prog) = some c24 := by kernel_rfl
end Go.Proofs.YticocfhgopppjaaDoorK.NatIr
