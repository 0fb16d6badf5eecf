/-
  The compiled bodies, printed: IrLRoundNear.
-/
import Derived.Test.YtapikjmijmebpaaDoorKAb
import Derived.Test.YtapikjmijmebpaaDoorProg
set_option linter.all false
set_option linter.unusedVariables false
set_option linter.unusedSimpArgs false
set_option maxHeartbeats 4000000
namespace Go.Proofs.YtapikjmijmebpaaDoorK.NatIr
open Go.Proofs.YtapikjmijmebpaaDoorK.AI
/-- cubit/cubitlaw5.RoundNear -/
def c5 : IR :=
  (.seq (.reg false [⟨(some 3), .box 28 3 (.t 0), none⟩, ⟨(some 6), .mv (.c (.bool false)), none⟩] [])
  (.seq (.seq (.reg false [⟨(some 14), .call 9 [], none⟩, ⟨(some 15), .not (.t 14), none⟩] [])
  (.cond (.t 15)
    (.seq (.reg false [⟨(some 6), .mv (.c (.bool false)), none⟩] [])
    .ret)
    .skip))
  (.seq (.seq (.reg false [⟨(some 16), .load true 3 (.t 3), none⟩, ⟨(some 17), .call 14 [(.t 16)], none⟩, ⟨(some 18), .mv (.t 17), none⟩, ⟨(some 19), .mv (.t 1), (some ((some 18), false))⟩, ⟨(some 20), .bin .lss (.t 19) (.c (.int .i64 0)), (some ((some 18), false))⟩, ⟨(some 21), .pick (.t 18) (.c (.bool true)) (.t 20), none⟩, ⟨(some 22), .mv (.t 21), none⟩, ⟨(some 23), .mv (.t 1), (some ((some 22), false))⟩, ⟨(some 24), .bin .gtr (.t 23) (.c (.int .i64 20)), (some ((some 22), false))⟩, ⟨(some 25), .pick (.t 22) (.c (.bool true)) (.t 24), none⟩, ⟨(some 26), .mv (.t 25), none⟩, ⟨(some 27), .mv (.t 2), (some ((some 26), false))⟩, ⟨(some 28), .bin .lss (.t 27) (.c (.int .i64 1)), (some ((some 26), false))⟩, ⟨(some 29), .pick (.t 26) (.c (.bool true)) (.t 28), none⟩, ⟨(some 30), .mv (.t 29), none⟩, ⟨(some 31), .mv (.t 2), (some ((some 30), false))⟩, ⟨(some 32), .bin .gtr (.t 31) (.c (.int .i64 7)), (some ((some 30), false))⟩, ⟨(some 33), .pick (.t 30) (.c (.bool true)) (.t 32), none⟩] [])
  (.cond (.t 33)
    (.seq (.reg false [⟨(some 6), .mv (.c (.bool true)), none⟩] [])
    .ret)
    .skip))
  (.seq (.reg false [⟨(some 35), .load true 3 (.t 3), none⟩, ⟨(some 36), .mv (.t 1), none⟩, ⟨(some 37), .mv (.t 2), none⟩, ⟨(some 38), .call 21 [(.t 35), (.t 36), (.t 37)], none⟩, ⟨(some 34), .mv (.t 38), none⟩, ⟨(some 39), .ext (.t 34) 0, none⟩, ⟨(some 40), .ext (.t 34) 1, none⟩, ⟨(some 7), .new 33 3 [(.bool false), .nils, (.int .i64 0)], none⟩, ⟨none, .store 3 (.t 7) (.t 39), none⟩, ⟨(some 8), .mv (.t 40), none⟩] [])
  (.seq (.seq (.reg false [⟨(some 41), .mv (.t 8), none⟩, ⟨(some 42), .bin .neq (.t 41) (.c (.int .i64 0)), none⟩, ⟨(some 43), .mv (.t 42), none⟩, ⟨(some 44), .faddr 2 (.t 7), (some ((some 43), false))⟩, ⟨(some 45), .load false 1 (.t 44), (some ((some 43), false))⟩, ⟨(some 46), .mv (.t 1), (some ((some 43), false))⟩, ⟨(some 47), .bin .neq (.t 45) (.t 46), (some ((some 43), false))⟩, ⟨(some 48), .pick (.t 43) (.c (.bool true)) (.t 47), none⟩] [])
  (.cond (.t 48)
    (.seq (.reg false [⟨(some 6), .mv (.c (.bool false)), none⟩] [])
    .ret)
    .skip))
  (.seq (.reg false [⟨(some 50), .call 23 [(.c (.int .i64 1)), (.c (.int .u64 10))], none⟩, ⟨(some 51), .mv (.t 1), none⟩, ⟨(some 52), .call 22 [(.t 50), (.t 51)], none⟩, ⟨(some 49), .mv (.t 52), none⟩, ⟨(some 53), .ext (.t 49) 0, none⟩, ⟨(some 54), .ext (.t 49) 1, none⟩, ⟨(some 9), .new 28 3 [(.bool false), .nils, .nils], none⟩, ⟨none, .store 3 (.t 9) (.t 53), none⟩, ⟨(some 10), .mv (.t 54), none⟩] [])
  (.seq (.reg true [⟨(some 55), .load true 3 (.t 7), none⟩, ⟨(some 56), .call 25 [(.t 55)], none⟩, ⟨(some 57), .load true 3 (.t 3), none⟩, ⟨(some 58), .call 26 [(.t 57)], none⟩, ⟨(some 59), .call 24 [(.t 56), (.t 58)], none⟩, ⟨(some 11), .new 28 3 [(.bool false), .nils, .nils], none⟩, ⟨none, .store 3 (.t 11) (.t 59), none⟩] [0, 1, 0, 7, 15, 0, 63])
  (.seq (.seq (.reg false [⟨(some 60), .load true 3 (.t 11), none⟩, ⟨(some 61), .call 11 [(.t 60)], none⟩, ⟨(some 62), .bin .lss (.t 61) (.c (.int .i64 0)), none⟩] [])
  (.cond (.t 62)
    (.reg false [⟨(some 63), .load true 3 (.t 11), none⟩, ⟨(some 64), .call 26 [(.t 63)], none⟩, ⟨none, .store 3 (.t 11) (.t 64), none⟩] [])
    .skip))
  (.seq (.seq (.reg true [⟨(some 65), .load true 3 (.t 11), none⟩, ⟨(some 66), .load true 3 (.t 9), none⟩, ⟨(some 67), .call 18 [(.t 65), (.t 66)], none⟩, ⟨(some 68), .bin .geq (.t 67) (.c (.int .i64 0)), none⟩, ⟨(some 69), .mv (.t 68), none⟩, ⟨(some 70), .mv (.t 2), (some ((some 69), false))⟩, ⟨(some 71), .bin .geq (.t 70) (.c (.int .i64 5)), (some ((some 69), false))⟩, ⟨(some 72), .mv (.t 71), (some ((some 69), false))⟩, ⟨(some 73), .load true 3 (.t 11), (some ((some 72), true))⟩, ⟨(some 74), .load true 3 (.t 11), (some ((some 72), true))⟩, ⟨(some 75), .call 24 [(.t 73), (.t 74)], (some ((some 72), true))⟩, ⟨(some 76), .load true 3 (.t 9), (some ((some 72), true))⟩, ⟨(some 77), .call 18 [(.t 75), (.t 76)], (some ((some 72), true))⟩, ⟨(some 78), .bin .gtr (.t 77) (.c (.int .i64 0)), (some ((some 72), true))⟩, ⟨(some 79), .pick (.t 72) (.t 78) (.c (.bool false)), (some ((some 69), false))⟩, ⟨(some 80), .pick (.t 69) (.c (.bool true)) (.t 79), none⟩] [0, 0, 3, 7, 15, 31, 63, 127, 255, 255, 1023, 255, 4095, 8191, 16383, 32767])
  (.cond (.t 80)
    (.seq (.reg false [⟨(some 6), .mv (.c (.bool false)), none⟩] [])
    .ret)
    .skip))
  (.seq (.reg false [⟨(some 82), .load true 3 (.t 7), none⟩, ⟨(some 83), .call 25 [(.t 82)], none⟩, ⟨(some 84), .mv (.t 1), none⟩, ⟨(some 85), .mv (.t 2), none⟩, ⟨(some 86), .call 21 [(.t 83), (.t 84), (.t 85)], none⟩, ⟨(some 81), .mv (.t 86), none⟩, ⟨(some 87), .ext (.t 81) 0, none⟩, ⟨(some 88), .ext (.t 81) 1, none⟩, ⟨(some 12), .new 33 3 [(.bool false), .nils, (.int .i64 0)], none⟩, ⟨none, .store 3 (.t 12) (.t 87), none⟩, ⟨(some 13), .mv (.t 88), none⟩] [])
  (.seq (.reg true [⟨(some 89), .mv (.t 13), none⟩, ⟨(some 90), .bin .eql (.t 89) (.c (.int .i64 0)), none⟩, ⟨(some 91), .mv (.t 90), none⟩, ⟨(some 92), .load true 3 (.t 12), (some ((some 91), true))⟩, ⟨(some 93), .call 25 [(.t 92)], (some ((some 91), true))⟩, ⟨(some 94), .load true 3 (.t 7), (some ((some 91), true))⟩, ⟨(some 95), .call 25 [(.t 94)], (some ((some 91), true))⟩, ⟨(some 96), .call 18 [(.t 93), (.t 95)], (some ((some 91), true))⟩, ⟨(some 97), .bin .eql (.t 96) (.c (.int .i64 0)), (some ((some 91), true))⟩, ⟨(some 98), .pick (.t 91) (.t 97) (.c (.bool false)), none⟩, ⟨(some 6), .mv (.t 98), none⟩] [0, 1, 3, 7, 15, 7, 63, 127, 255, 511, 1023])
  .ret)))))))))))
theorem ok5 : (Go.Proofs.Tryd.f5.body).bind (comp Go.Proofs.Tryd.prog) = some c5 := by kernel_rfl
end Go.Proofs.YtapikjmijmebpaaDoorK.NatIr
