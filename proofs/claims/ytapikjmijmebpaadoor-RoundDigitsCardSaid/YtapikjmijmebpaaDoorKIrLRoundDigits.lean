/-
  The compiled bodies, printed: IrLRoundDigits.
-/
import Derived.Test.YtapikjmijmebpaaDoorKAb
import Derived.Test.YtapikjmijmebpaaDoorProg
set_option linter.all false
set_option linter.unusedVariables false
set_option linter.unusedSimpArgs false
set_option maxHeartbeats 4000000
namespace Go.Proofs.YtapikjmijmebpaaDoorK.NatIr
open Go.Proofs.YtapikjmijmebpaaDoorK.AI
/-- cubit/cubitlaw5.RoundDigits -/
def c3 : IR :=
  (.seq (.reg false [⟨(some 3), .box 28 3 (.t 0), none⟩, ⟨(some 6), .mv (.c (.bool false)), none⟩] [])
  (.seq (.seq (.reg false [⟨(some 10), .call 9 [], none⟩, ⟨(some 11), .not (.t 10), none⟩] [])
  (.cond (.t 11)
    (.seq (.reg false [⟨(some 6), .mv (.c (.bool false)), none⟩] [])
    .ret)
    .skip))
  (.seq (.seq (.reg false [⟨(some 12), .faddr 0 (.t 3), none⟩, ⟨(some 13), .faddr 1 (.t 12), none⟩, ⟨(some 14), .faddr 0 (.t 13), none⟩, ⟨(some 15), .load false 1 (.t 14), none⟩, ⟨(some 16), .lenL (.t 15), none⟩, ⟨(some 17), .bin .gtr (.t 16) (.c (.int .i64 6)), none⟩, ⟨(some 18), .mv (.t 17), none⟩, ⟨(some 19), .faddr 2 (.t 3), (some ((some 18), false))⟩, ⟨(some 20), .faddr 0 (.t 19), (some ((some 18), false))⟩, ⟨(some 21), .load false 1 (.t 20), (some ((some 18), false))⟩, ⟨(some 22), .lenL (.t 21), (some ((some 18), false))⟩, ⟨(some 23), .bin .gtr (.t 22) (.c (.int .i64 6)), (some ((some 18), false))⟩, ⟨(some 24), .pick (.t 18) (.c (.bool true)) (.t 23), none⟩, ⟨(some 25), .mv (.t 24), none⟩, ⟨(some 26), .load true 3 (.t 3), (some ((some 25), false))⟩, ⟨(some 27), .call 10 [(.t 26)], (some ((some 25), false))⟩, ⟨(some 28), .not (.t 27), (some ((some 25), false))⟩, ⟨(some 29), .pick (.t 25) (.c (.bool true)) (.t 28), none⟩, ⟨(some 30), .mv (.t 29), none⟩, ⟨(some 31), .load true 3 (.t 3), (some ((some 30), false))⟩, ⟨(some 32), .call 11 [(.t 31)], (some ((some 30), false))⟩, ⟨(some 33), .bin .eql (.t 32) (.c (.int .i64 0)), (some ((some 30), false))⟩, ⟨(some 34), .pick (.t 30) (.c (.bool true)) (.t 33), none⟩, ⟨(some 35), .mv (.t 34), none⟩, ⟨(some 36), .mv (.t 1), (some ((some 35), false))⟩, ⟨(some 37), .bin .lss (.t 36) (.c (.int .i64 1)), (some ((some 35), false))⟩, ⟨(some 38), .pick (.t 35) (.c (.bool true)) (.t 37), none⟩, ⟨(some 39), .mv (.t 38), none⟩, ⟨(some 40), .mv (.t 1), (some ((some 39), false))⟩, ⟨(some 41), .bin .gtr (.t 40) (.c (.int .i64 40)), (some ((some 39), false))⟩, ⟨(some 42), .pick (.t 39) (.c (.bool true)) (.t 41), none⟩, ⟨(some 43), .mv (.t 42), none⟩, ⟨(some 44), .mv (.t 2), (some ((some 43), false))⟩, ⟨(some 45), .bin .lss (.t 44) (.c (.int .i64 1)), (some ((some 43), false))⟩, ⟨(some 46), .pick (.t 43) (.c (.bool true)) (.t 45), none⟩, ⟨(some 47), .mv (.t 46), none⟩, ⟨(some 48), .mv (.t 2), (some ((some 47), false))⟩, ⟨(some 49), .bin .gtr (.t 48) (.c (.int .i64 7)), (some ((some 47), false))⟩, ⟨(some 50), .pick (.t 47) (.c (.bool true)) (.t 49), none⟩] [])
  (.cond (.t 50)
    (.seq (.reg false [⟨(some 6), .mv (.c (.bool true)), none⟩] [])
    .ret)
    .skip))
  (.seq (.reg false [⟨(some 52), .load true 3 (.t 3), none⟩, ⟨(some 53), .mv (.t 1), none⟩, ⟨(some 54), .mv (.t 2), none⟩, ⟨(some 55), .call 12 [(.t 52), (.t 53), (.t 54)], none⟩, ⟨(some 51), .mv (.t 55), none⟩, ⟨(some 56), .ext (.t 51) 0, none⟩, ⟨(some 57), .ext (.t 51) 1, none⟩, ⟨(some 7), .new 33 3 [(.bool false), .nils, (.int .i64 0)], none⟩, ⟨none, .store 3 (.t 7) (.t 56), none⟩, ⟨(some 8), .mv (.t 57), none⟩] [])
  (.seq (.seq (.reg false [⟨(some 58), .mv (.t 8), none⟩, ⟨(some 59), .bin .neq (.t 58) (.c (.int .i64 0)), none⟩] [])
  (.cond (.t 59)
    (.seq (.reg false [⟨(some 60), .mv (.t 8), none⟩, ⟨(some 61), .bin .eql (.t 60) (.c (.int .i64 11)), none⟩, ⟨(some 6), .mv (.t 61), none⟩] [])
    .ret)
    .skip))
  (.seq (.reg false [⟨(some 62), .faddr 1 (.t 7), none⟩, ⟨(some 63), .load true 1 (.t 62), none⟩, ⟨(some 64), .call 13 [(.t 63)], none⟩, ⟨(some 9), .mv (.t 64), none⟩] [])
  (.seq (.block 0 (.loop (.seq (.seq (.reg false [⟨(some 65), .mv (.t 9), none⟩, ⟨(some 66), .lenS (.t 65), none⟩, ⟨(some 67), .mv (.t 1), none⟩, ⟨(some 68), .bin .gtr (.t 66) (.t 67), none⟩, ⟨(some 69), .mv (.t 68), none⟩, ⟨(some 70), .mv (.t 9), (some ((some 69), true))⟩, ⟨(some 71), .mv (.t 9), (some ((some 69), true))⟩, ⟨(some 72), .lenS (.t 71), (some ((some 69), true))⟩, ⟨(some 73), .bin .sub (.t 72) (.c (.int .i64 1)), (some ((some 69), true))⟩, ⟨(some 74), .idxs (.t 70) (.t 73), (some ((some 69), true))⟩, ⟨(some 75), .bin .eql (.t 74) (.c (.int .u8 48)), (some ((some 69), true))⟩, ⟨(some 76), .pick (.t 69) (.t 75) (.c (.bool false)), none⟩] [])
      (.cond (.t 76)
        .skip
        (.exit 0)))
      (.block 1 (.reg false [⟨(some 77), .mv (.t 9), none⟩, ⟨(some 78), .mv (.t 9), none⟩, ⟨(some 79), .lenS (.t 78), none⟩, ⟨(some 80), .bin .sub (.t 79) (.c (.int .i64 1)), none⟩, ⟨(some 81), .slcS (.t 77) none (some (.t 80)), none⟩, ⟨(some 9), .mv (.t 81), none⟩] [])))))
  (.seq (.reg false [⟨(some 82), .mv (.t 9), none⟩, ⟨(some 83), .lenS (.t 82), none⟩, ⟨(some 84), .mv (.t 1), none⟩, ⟨(some 85), .bin .leq (.t 83) (.t 84), none⟩, ⟨(some 86), .mv (.t 85), none⟩, ⟨(some 87), .mv (.t 9), (some ((some 86), true))⟩, ⟨(some 88), .bin .neq (.t 87) (.c (.str ⟨#[]⟩)), (some ((some 86), true))⟩, ⟨(some 89), .pick (.t 86) (.t 88) (.c (.bool false)), none⟩, ⟨(some 90), .mv (.t 89), none⟩, ⟨(some 91), .faddr 2 (.t 7), (some ((some 90), true))⟩, ⟨(some 92), .load false 1 (.t 91), (some ((some 90), true))⟩, ⟨(some 93), .bin .eql (.t 92) (.c (.int .i64 0)), (some ((some 90), true))⟩, ⟨(some 94), .mv (.t 93), (some ((some 90), true))⟩, ⟨(some 95), .faddr 1 (.t 7), (some ((some 94), false))⟩, ⟨(some 96), .load true 1 (.t 95), (some ((some 94), false))⟩, ⟨(some 97), .call 13 [(.t 96)], (some ((some 94), false))⟩, ⟨(some 98), .lenS (.t 97), (some ((some 94), false))⟩, ⟨(some 99), .mv (.t 1), (some ((some 94), false))⟩, ⟨(some 100), .bin .leq (.t 98) (.t 99), (some ((some 94), false))⟩, ⟨(some 101), .pick (.t 94) (.c (.bool true)) (.t 100), (some ((some 90), true))⟩, ⟨(some 102), .pick (.t 90) (.t 101) (.c (.bool false)), none⟩, ⟨(some 6), .mv (.t 102), none⟩] [])
  .ret))))))))
theorem ok3 : (Go.Proofs.Tryd.f3.body).bind (comp Go.Proofs.Tryd.prog) = some c3 := by kernel_rfl
end Go.Proofs.YtapikjmijmebpaaDoorK.NatIr
