/-
  The compiled bodies, printed: IrLRoundOrder.
-/
import Derived.Test.YtapikjmijmebpaaDoorKAb
import Derived.Test.YtapikjmijmebpaaDoorProg
set_option linter.all false
set_option linter.unusedVariables false
set_option linter.unusedSimpArgs false
set_option maxHeartbeats 4000000
namespace Go.Proofs.YtapikjmijmebpaaDoorK.NatIr
open Go.Proofs.YtapikjmijmebpaaDoorK.AI
/-- cubit/cubitlaw5.RoundOrder -/
def c6 : IR :=
  (.seq (.reg false [⟨(some 4), .box 28 3 (.t 0), none⟩, ⟨(some 5), .box 28 3 (.t 1), none⟩, ⟨(some 8), .mv (.c (.bool false)), none⟩] [])
  (.seq (.seq (.reg false [⟨(some 16), .call 9 [], none⟩, ⟨(some 17), .not (.t 16), none⟩] [])
  (.cond (.t 17)
    (.seq (.reg false [⟨(some 8), .mv (.c (.bool false)), none⟩] [])
    .ret)
    .skip))
  (.seq (.seq (.reg false [⟨(some 18), .load true 3 (.t 4), none⟩, ⟨(some 19), .call 14 [(.t 18)], none⟩, ⟨(some 20), .mv (.t 19), none⟩, ⟨(some 21), .load true 3 (.t 5), (some ((some 20), false))⟩, ⟨(some 22), .call 14 [(.t 21)], (some ((some 20), false))⟩, ⟨(some 23), .pick (.t 20) (.c (.bool true)) (.t 22), none⟩, ⟨(some 24), .mv (.t 23), none⟩, ⟨(some 25), .mv (.t 2), (some ((some 24), false))⟩, ⟨(some 26), .bin .lss (.t 25) (.c (.int .i64 0)), (some ((some 24), false))⟩, ⟨(some 27), .pick (.t 24) (.c (.bool true)) (.t 26), none⟩, ⟨(some 28), .mv (.t 27), none⟩, ⟨(some 29), .mv (.t 2), (some ((some 28), false))⟩, ⟨(some 30), .bin .gtr (.t 29) (.c (.int .i64 10)), (some ((some 28), false))⟩, ⟨(some 31), .pick (.t 28) (.c (.bool true)) (.t 30), none⟩, ⟨(some 32), .mv (.t 31), none⟩, ⟨(some 33), .mv (.t 3), (some ((some 32), false))⟩, ⟨(some 34), .bin .lss (.t 33) (.c (.int .i64 1)), (some ((some 32), false))⟩, ⟨(some 35), .pick (.t 32) (.c (.bool true)) (.t 34), none⟩, ⟨(some 36), .mv (.t 35), none⟩, ⟨(some 37), .mv (.t 3), (some ((some 36), false))⟩, ⟨(some 38), .bin .gtr (.t 37) (.c (.int .i64 7)), (some ((some 36), false))⟩, ⟨(some 39), .pick (.t 36) (.c (.bool true)) (.t 38), none⟩] [])
  (.cond (.t 39)
    (.seq (.reg false [⟨(some 8), .mv (.c (.bool true)), none⟩] [])
    .ret)
    .skip))
  (.seq (.reg false [⟨(some 41), .load true 3 (.t 4), none⟩, ⟨(some 42), .mv (.t 2), none⟩, ⟨(some 43), .mv (.t 3), none⟩, ⟨(some 44), .call 21 [(.t 41), (.t 42), (.t 43)], none⟩, ⟨(some 40), .mv (.t 44), none⟩, ⟨(some 45), .ext (.t 40) 0, none⟩, ⟨(some 46), .ext (.t 40) 1, none⟩, ⟨(some 9), .new 33 3 [(.bool false), .nils, (.int .i64 0)], none⟩, ⟨none, .store 3 (.t 9) (.t 45), none⟩, ⟨(some 10), .mv (.t 46), none⟩] [])
  (.seq (.reg false [⟨(some 48), .load true 3 (.t 5), none⟩, ⟨(some 49), .mv (.t 2), none⟩, ⟨(some 50), .mv (.t 3), none⟩, ⟨(some 51), .call 21 [(.t 48), (.t 49), (.t 50)], none⟩, ⟨(some 47), .mv (.t 51), none⟩, ⟨(some 52), .ext (.t 47) 0, none⟩, ⟨(some 53), .ext (.t 47) 1, none⟩, ⟨(some 11), .new 33 3 [(.bool false), .nils, (.int .i64 0)], none⟩, ⟨none, .store 3 (.t 11) (.t 52), none⟩, ⟨(some 12), .mv (.t 53), none⟩] [])
  (.seq (.reg false [⟨(some 54), .mv (.t 3), none⟩, ⟨(some 13), .mv (.t 54), none⟩] [])
  (.seq (.seq (.reg false [⟨(some 55), .mv (.t 3), none⟩, ⟨(some 56), .bin .eql (.t 55) (.c (.int .i64 3)), none⟩] [])
  (.cond (.t 56)
    (.reg false [⟨(some 13), .mv (.c (.int .i64 4)), none⟩] [])
    .skip))
  (.seq (.seq (.reg false [⟨(some 57), .mv (.t 3), none⟩, ⟨(some 58), .bin .eql (.t 57) (.c (.int .i64 4)), none⟩] [])
  (.cond (.t 58)
    (.reg false [⟨(some 13), .mv (.c (.int .i64 3)), none⟩] [])
    .skip))
  (.seq (.reg false [⟨(some 60), .load true 3 (.t 4), none⟩, ⟨(some 61), .call 26 [(.t 60)], none⟩, ⟨(some 62), .mv (.t 2), none⟩, ⟨(some 63), .mv (.t 13), none⟩, ⟨(some 64), .call 21 [(.t 61), (.t 62), (.t 63)], none⟩, ⟨(some 59), .mv (.t 64), none⟩, ⟨(some 65), .ext (.t 59) 0, none⟩, ⟨(some 66), .ext (.t 59) 1, none⟩, ⟨(some 14), .new 33 3 [(.bool false), .nils, (.int .i64 0)], none⟩, ⟨none, .store 3 (.t 14) (.t 65), none⟩, ⟨(some 15), .mv (.t 66), none⟩] [])
  (.seq (.seq (.reg false [⟨(some 67), .mv (.t 10), none⟩, ⟨(some 68), .bin .neq (.t 67) (.c (.int .i64 0)), none⟩, ⟨(some 69), .mv (.t 68), none⟩, ⟨(some 70), .mv (.t 12), (some ((some 69), false))⟩, ⟨(some 71), .bin .neq (.t 70) (.c (.int .i64 0)), (some ((some 69), false))⟩, ⟨(some 72), .pick (.t 69) (.c (.bool true)) (.t 71), none⟩, ⟨(some 73), .mv (.t 72), none⟩, ⟨(some 74), .mv (.t 15), (some ((some 73), false))⟩, ⟨(some 75), .bin .neq (.t 74) (.c (.int .i64 0)), (some ((some 73), false))⟩, ⟨(some 76), .pick (.t 73) (.c (.bool true)) (.t 75), none⟩] [])
  (.cond (.t 76)
    (.seq (.reg false [⟨(some 8), .mv (.c (.bool false)), none⟩] [])
    .ret)
    .skip))
  (.seq (.reg true [⟨(some 77), .load true 3 (.t 4), none⟩, ⟨(some 78), .load true 3 (.t 5), none⟩, ⟨(some 79), .call 18 [(.t 77), (.t 78)], none⟩, ⟨(some 80), .bin .gtr (.t 79) (.c (.int .i64 0)), none⟩, ⟨(some 81), .mv (.t 80), none⟩, ⟨(some 82), .load true 3 (.t 9), (some ((some 81), false))⟩, ⟨(some 83), .call 25 [(.t 82)], (some ((some 81), false))⟩, ⟨(some 84), .load true 3 (.t 11), (some ((some 81), false))⟩, ⟨(some 85), .call 25 [(.t 84)], (some ((some 81), false))⟩, ⟨(some 86), .call 18 [(.t 83), (.t 85)], (some ((some 81), false))⟩, ⟨(some 87), .bin .leq (.t 86) (.c (.int .i64 0)), (some ((some 81), false))⟩, ⟨(some 88), .pick (.t 81) (.c (.bool true)) (.t 87), none⟩, ⟨(some 89), .mv (.t 88), none⟩, ⟨(some 90), .load true 3 (.t 14), (some ((some 89), true))⟩, ⟨(some 91), .call 25 [(.t 90)], (some ((some 89), true))⟩, ⟨(some 92), .load true 3 (.t 9), (some ((some 89), true))⟩, ⟨(some 93), .call 25 [(.t 92)], (some ((some 89), true))⟩, ⟨(some 94), .call 26 [(.t 93)], (some ((some 89), true))⟩, ⟨(some 95), .call 18 [(.t 91), (.t 94)], (some ((some 89), true))⟩, ⟨(some 96), .bin .eql (.t 95) (.c (.int .i64 0)), (some ((some 89), true))⟩, ⟨(some 97), .pick (.t 89) (.t 96) (.c (.bool false)), none⟩, ⟨(some 8), .mv (.t 97), none⟩] [0, 0, 3, 7, 15, 31, 63, 31, 255, 511, 1023, 2047, 4095, 8191, 16383, 8191, 65535, 131071, 262143, 524287, 1048575, 2097151])
  .ret)))))))))))
theorem ok6 : (Go.Proofs.Tryd.f6.body).bind (comp Go.Proofs.Tryd.prog) = some c6 := by kernel_rfl
end Go.Proofs.YtapikjmijmebpaaDoorK.NatIr
