/-
  The compiled bodies, printed: IrLDimsLaws.
-/
import Derived.Test.YticocfhgopppjaaDoorKAb
import Derived.Test.YticocfhgopppjaaDoorProg
set_option linter.all false
set_option linter.unusedVariables false
set_option linter.unusedSimpArgs false
set_option maxHeartbeats 4000000
namespace Go.Proofs.YticocfhgopppjaaDoorK.NatIr
open Go.Proofs.YticocfhgopppjaaDoorK.AI
def c5 : IR :=
  (.seq (.reg false [⟨(some 2), .box 28 8 (.t 0), none⟩, ⟨(some 3), .box 28 8 (.t 1), none⟩, ⟨(some 4), .mv (.c (.bool false)), none⟩] [])
  (.seq (.seq (.reg false [⟨(some 15), .call 7 [], none⟩, ⟨(some 16), .not (.t 15), none⟩] [])
  (.cond (.t 16)
    (.seq (.reg false [⟨(some 4), .mv (.c (.bool false)), none⟩] [])
    .ret)
    .skip))
  (.seq (.reg false [⟨(some 18), .load true 8 (.t 2), none⟩, ⟨(some 19), .load true 8 (.t 3), none⟩, ⟨(some 20), .call 12 [(.t 18), (.t 19)], none⟩, ⟨(some 17), .mv (.t 20), none⟩, ⟨(some 21), .ext (.t 17) 0, none⟩, ⟨(some 22), .ext (.t 17) 1, none⟩, ⟨(some 5), .new 34 8 [(.int .i64 0), (.int .i64 0), (.int .i64 0), (.int .i64 0), (.int .i64 0), (.int .i64 0), (.int .i64 0), (.int .i64 0)], none⟩, ⟨none, .store 8 (.t 5) (.t 21), none⟩, ⟨(some 6), .mv (.t 22), none⟩] [])
  (.seq (.reg false [⟨(some 24), .load true 8 (.t 3), none⟩, ⟨(some 25), .load true 8 (.t 2), none⟩, ⟨(some 26), .call 12 [(.t 24), (.t 25)], none⟩, ⟨(some 23), .mv (.t 26), none⟩, ⟨(some 27), .ext (.t 23) 0, none⟩, ⟨(some 28), .ext (.t 23) 1, none⟩, ⟨(some 7), .new 34 8 [(.int .i64 0), (.int .i64 0), (.int .i64 0), (.int .i64 0), (.int .i64 0), (.int .i64 0), (.int .i64 0), (.int .i64 0)], none⟩, ⟨none, .store 8 (.t 7) (.t 27), none⟩, ⟨(some 8), .mv (.t 28), none⟩] [])
  (.seq (.reg false [⟨(some 30), .load true 8 (.t 2), none⟩, ⟨(some 31), .call 14 [(.t 30), (.c (.int .i64 2))], none⟩, ⟨(some 29), .mv (.t 31), none⟩, ⟨(some 32), .ext (.t 29) 0, none⟩, ⟨(some 33), .ext (.t 29) 1, none⟩, ⟨(some 9), .new 34 8 [(.int .i64 0), (.int .i64 0), (.int .i64 0), (.int .i64 0), (.int .i64 0), (.int .i64 0), (.int .i64 0), (.int .i64 0)], none⟩, ⟨none, .store 8 (.t 9) (.t 32), none⟩, ⟨(some 10), .mv (.t 33), none⟩] [])
  (.seq (.reg false [⟨(some 35), .load true 8 (.t 2), none⟩, ⟨(some 36), .load true 8 (.t 2), none⟩, ⟨(some 37), .call 12 [(.t 35), (.t 36)], none⟩, ⟨(some 34), .mv (.t 37), none⟩, ⟨(some 38), .ext (.t 34) 0, none⟩, ⟨(some 39), .ext (.t 34) 1, none⟩, ⟨(some 11), .new 34 8 [(.int .i64 0), (.int .i64 0), (.int .i64 0), (.int .i64 0), (.int .i64 0), (.int .i64 0), (.int .i64 0), (.int .i64 0)], none⟩, ⟨none, .store 8 (.t 11) (.t 38), none⟩, ⟨(some 12), .mv (.t 39), none⟩] [])
  (.seq (.seq (.reg false [⟨(some 40), .mv (.t 6), none⟩, ⟨(some 41), .mv (.t 8), none⟩, ⟨(some 42), .beq true (.t 40) (.t 41), none⟩, ⟨(some 43), .mv (.t 42), none⟩, ⟨(some 44), .load true 8 (.t 5), (some ((some 43), false))⟩, ⟨(some 45), .load true 8 (.t 7), (some ((some 43), false))⟩, ⟨(some 46), .aeq 8 true (.t 44) (.t 45), (some ((some 43), false))⟩, ⟨(some 47), .pick (.t 43) (.c (.bool true)) (.t 46), none⟩, ⟨(some 48), .mv (.t 47), none⟩, ⟨(some 49), .mv (.t 10), (some ((some 48), false))⟩, ⟨(some 50), .mv (.t 12), (some ((some 48), false))⟩, ⟨(some 51), .beq true (.t 49) (.t 50), (some ((some 48), false))⟩, ⟨(some 52), .pick (.t 48) (.c (.bool true)) (.t 51), none⟩, ⟨(some 53), .mv (.t 52), none⟩, ⟨(some 54), .load true 8 (.t 9), (some ((some 53), false))⟩, ⟨(some 55), .load true 8 (.t 11), (some ((some 53), false))⟩, ⟨(some 56), .aeq 8 true (.t 54) (.t 55), (some ((some 53), false))⟩, ⟨(some 57), .pick (.t 53) (.c (.bool true)) (.t 56), none⟩] [])
  (.cond (.t 57)
    (.seq (.reg false [⟨(some 4), .mv (.c (.bool false)), none⟩] [])
    .ret)
    .skip))
  (.seq (.seq (.reg false [⟨(some 58), .mv (.t 6), none⟩, ⟨(some 59), .not (.t 58), none⟩] [])
  (.cond (.t 59)
    (.seq (.reg false [⟨(some 60), .load true 8 (.t 5), none⟩, ⟨(some 61), .build [(.int .i64 0), (.int .i64 0), (.int .i64 0), (.int .i64 0), (.int .i64 0), (.int .i64 0), (.int .i64 0), (.int .i64 0)] [], none⟩, ⟨(some 62), .aeq 8 false (.t 60) (.t 61), none⟩, ⟨(some 4), .mv (.t 62), none⟩] [])
    .ret)
    .skip))
  (.seq (.reg true [⟨(some 64), .load true 8 (.t 5), none⟩, ⟨(some 65), .load true 8 (.t 3), none⟩, ⟨(some 66), .call 16 [(.t 65)], none⟩, ⟨(some 67), .call 12 [(.t 64), (.t 66)], none⟩, ⟨(some 63), .mv (.t 67), none⟩, ⟨(some 68), .ext (.t 63) 0, none⟩, ⟨(some 69), .ext (.t 63) 1, none⟩, ⟨(some 13), .new 34 8 [(.int .i64 0), (.int .i64 0), (.int .i64 0), (.int .i64 0), (.int .i64 0), (.int .i64 0), (.int .i64 0), (.int .i64 0)], none⟩, ⟨none, .store 8 (.t 13) (.t 68), none⟩, ⟨(some 14), .mv (.t 69), none⟩] [0, 0, 2, 7, 15, 31, 31, 0, 191, 511])
  (.seq (.reg true [⟨(some 70), .mv (.t 14), none⟩, ⟨(some 71), .mv (.t 70), none⟩, ⟨(some 72), .load true 8 (.t 13), (some ((some 71), true))⟩, ⟨(some 73), .load true 8 (.t 2), (some ((some 71), true))⟩, ⟨(some 74), .call 18 [(.t 72), (.t 73)], (some ((some 71), true))⟩, ⟨(some 75), .pick (.t 71) (.t 74) (.c (.bool false)), none⟩, ⟨(some 76), .mv (.t 75), none⟩, ⟨(some 77), .load true 8 (.t 2), (some ((some 76), true))⟩, ⟨(some 78), .call 16 [(.t 77)], (some ((some 76), true))⟩, ⟨(some 79), .call 16 [(.t 78)], (some ((some 76), true))⟩, ⟨(some 80), .load true 8 (.t 2), (some ((some 76), true))⟩, ⟨(some 81), .aeq 8 false (.t 79) (.t 80), (some ((some 76), true))⟩, ⟨(some 82), .pick (.t 76) (.t 81) (.c (.bool false)), none⟩, ⟨(some 4), .mv (.t 82), none⟩] [0, 1, 3, 3, 15, 31, 63, 127, 255, 511, 127, 2047, 4095, 8191])
  .ret))))))))))
theorem ok5 : (Go.Proofs.Tryd.f5.body).bind (comp Go.Proofs.Tryd.prog) = some c5 := by kernel_rfl
end Go.Proofs.YticocfhgopppjaaDoorK.NatIr
