/-
  The compiled bodies, printed: IrLDimsSays.
-/
import Derived.Test.YticocfhgopppjaaDoorKAb
import Derived.Test.YticocfhgopppjaaDoorProg
set_option linter.all false
set_option linter.unusedVariables false
set_option linter.unusedSimpArgs false
set_option maxHeartbeats 4000000
namespace Go.Proofs.YticocfhgopppjaaDoorK.NatIr
open Go.Proofs.YticocfhgopppjaaDoorK.AI
def c4 : IR :=
  (.seq (.reg false [⟨(some 3), .box 28 8 (.t 0), none⟩, ⟨(some 4), .box 28 8 (.t 1), none⟩, ⟨(some 6), .mv (.c (.bool false)), none⟩] [])
  (.seq (.seq (.reg false [⟨(some 15), .call 7 [], none⟩, ⟨(some 16), .not (.t 15), none⟩] [])
  (.cond (.t 16)
    (.seq (.reg false [⟨(some 6), .mv (.c (.bool false)), none⟩] [])
    .ret)
    .skip))
  (.seq (.reg false [⟨(some 18), .load true 8 (.t 3), none⟩, ⟨(some 19), .load true 8 (.t 4), none⟩, ⟨(some 20), .call 12 [(.t 18), (.t 19)], none⟩, ⟨(some 17), .mv (.t 20), none⟩, ⟨(some 21), .ext (.t 17) 0, none⟩, ⟨(some 22), .ext (.t 17) 1, none⟩, ⟨(some 7), .new 34 8 [(.int .i64 0), (.int .i64 0), (.int .i64 0), (.int .i64 0), (.int .i64 0), (.int .i64 0), (.int .i64 0), (.int .i64 0)], none⟩, ⟨none, .store 8 (.t 7) (.t 21), none⟩, ⟨(some 8), .mv (.t 22), none⟩] [])
  (.seq (.reg false [⟨(some 24), .load true 8 (.t 3), none⟩, ⟨(some 25), .load true 8 (.t 4), none⟩, ⟨(some 26), .call 13 [(.t 24), (.t 25)], none⟩, ⟨(some 23), .mv (.t 26), none⟩, ⟨(some 27), .ext (.t 23) 0, none⟩, ⟨(some 28), .ext (.t 23) 1, none⟩, ⟨(some 9), .new 37 8 [(.int .i64 0), (.int .i64 0), (.int .i64 0), (.int .i64 0), (.int .i64 0), (.int .i64 0), (.int .i64 0), (.int .i64 0)], none⟩, ⟨none, .store 8 (.t 9) (.t 27), none⟩, ⟨(some 10), .mv (.t 28), none⟩] [])
  (.seq (.reg false [⟨(some 30), .load true 8 (.t 3), none⟩, ⟨(some 31), .mv (.t 2), none⟩, ⟨(some 32), .call 14 [(.t 30), (.t 31)], none⟩, ⟨(some 29), .mv (.t 32), none⟩, ⟨(some 33), .ext (.t 29) 0, none⟩, ⟨(some 34), .ext (.t 29) 1, none⟩, ⟨(some 11), .new 34 8 [(.int .i64 0), (.int .i64 0), (.int .i64 0), (.int .i64 0), (.int .i64 0), (.int .i64 0), (.int .i64 0), (.int .i64 0)], none⟩, ⟨none, .store 8 (.t 11) (.t 33), none⟩, ⟨(some 12), .mv (.t 34), none⟩] [])
  (.seq (.reg false [⟨(some 36), .load true 8 (.t 3), none⟩, ⟨(some 37), .mv (.t 2), none⟩, ⟨(some 38), .call 15 [(.t 36), (.t 37)], none⟩, ⟨(some 35), .mv (.t 38), none⟩, ⟨(some 39), .ext (.t 35) 0, none⟩, ⟨(some 40), .ext (.t 35) 1, none⟩, ⟨(some 13), .new 37 8 [(.int .i64 0), (.int .i64 0), (.int .i64 0), (.int .i64 0), (.int .i64 0), (.int .i64 0), (.int .i64 0), (.int .i64 0)], none⟩, ⟨none, .store 8 (.t 13) (.t 39), none⟩, ⟨(some 14), .mv (.t 40), none⟩] [])
  (.seq (.reg true [⟨(some 41), .mv (.t 8), none⟩, ⟨(some 42), .mv (.t 10), none⟩, ⟨(some 43), .beq false (.t 41) (.t 42), none⟩, ⟨(some 44), .mv (.t 43), none⟩, ⟨(some 45), .load true 8 (.t 7), (some ((some 44), true))⟩, ⟨(some 46), .load true 8 (.t 9), (some ((some 44), true))⟩, ⟨(some 47), .aeq 8 false (.t 45) (.t 46), (some ((some 44), true))⟩, ⟨(some 48), .pick (.t 44) (.t 47) (.c (.bool false)), none⟩, ⟨(some 49), .mv (.t 48), none⟩, ⟨(some 50), .mv (.t 12), (some ((some 49), true))⟩, ⟨(some 51), .mv (.t 14), (some ((some 49), true))⟩, ⟨(some 52), .beq false (.t 50) (.t 51), (some ((some 49), true))⟩, ⟨(some 53), .pick (.t 49) (.t 52) (.c (.bool false)), none⟩, ⟨(some 54), .mv (.t 53), none⟩, ⟨(some 55), .load true 8 (.t 11), (some ((some 54), true))⟩, ⟨(some 56), .load true 8 (.t 13), (some ((some 54), true))⟩, ⟨(some 57), .aeq 8 false (.t 55) (.t 56), (some ((some 54), true))⟩, ⟨(some 58), .pick (.t 54) (.t 57) (.c (.bool false)), none⟩, ⟨(some 59), .mv (.t 58), none⟩, ⟨(some 60), .load true 8 (.t 3), (some ((some 59), true))⟩, ⟨(some 61), .call 16 [(.t 60)], (some ((some 59), true))⟩, ⟨(some 62), .load true 8 (.t 3), (some ((some 59), true))⟩, ⟨(some 63), .call 17 [(.t 62)], (some ((some 59), true))⟩, ⟨(some 64), .aeq 8 false (.t 61) (.t 63), (some ((some 59), true))⟩, ⟨(some 65), .pick (.t 59) (.t 64) (.c (.bool false)), none⟩, ⟨(some 66), .mv (.t 65), none⟩, ⟨(some 67), .load true 8 (.t 3), (some ((some 66), true))⟩, ⟨(some 68), .load true 8 (.t 4), (some ((some 66), true))⟩, ⟨(some 69), .call 18 [(.t 67), (.t 68)], (some ((some 66), true))⟩, ⟨(some 70), .load true 8 (.t 3), (some ((some 66), true))⟩, ⟨(some 71), .load true 8 (.t 4), (some ((some 66), true))⟩, ⟨(some 72), .aeq 8 false (.t 70) (.t 71), (some ((some 66), true))⟩, ⟨(some 73), .beq false (.t 69) (.t 72), (some ((some 66), true))⟩, ⟨(some 74), .pick (.t 66) (.t 73) (.c (.bool false)), none⟩, ⟨(some 6), .mv (.t 74), none⟩] [0, 0, 3, 7, 15, 15, 63, 127, 255, 511, 511, 2047, 4095, 8191, 16383, 16383, 65535, 131071, 262143, 524287, 1048575, 524287, 4194303, 8388607, 16777215, 33554431, 67108863, 67108863, 268435455, 67108863, 67108863, 1677721599, 4294967295, 8589934591, 17179869183])
  .ret)))))))
theorem ok4 : (Go.Proofs.Tryd.f4.body).bind (comp Go.Proofs.Tryd.prog) = some c4 := by kernel_rfl
end Go.Proofs.YticocfhgopppjaaDoorK.NatIr
