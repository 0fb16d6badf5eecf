/-
  The compiled bodies, printed: IrLOperSays.
-/
import Derived.Test.YtapikjmijmebpaaGreatDoorKAb
import Derived.Test.YtapikjmijmebpaaGreatDoorProg
set_option linter.all false
set_option linter.unusedVariables false
set_option linter.unusedSimpArgs false
set_option maxHeartbeats 4000000
namespace Go.Proofs.YtapikjmijmebpaaGreatDoorK.NatIr
open Go.Proofs.YtapikjmijmebpaaGreatDoorK.AI
/-- cubit/cubitlaw18.OperSays -/
def c8 : IR :=
  (.seq (.reg false [⟨(some 2), .box 30 3 (.t 0), none⟩, ⟨(some 4), .mv (.c (.bool false)), none⟩] [])
  (.seq (.seq (.reg false [⟨(some 17), .call 54 [], none⟩, ⟨(some 18), .not (.t 17), none⟩] [])
  (.cond (.t 18)
    (.seq (.reg false [⟨(some 4), .mv (.c (.bool false)), none⟩] [])
    .ret)
    .skip))
  (.seq (.seq (.reg false [⟨(some 19), .faddr 1 (.t 2), none⟩, ⟨(some 20), .faddr 0 (.t 19), none⟩, ⟨(some 21), .load false 1 (.t 20), none⟩, ⟨(some 22), .lenL (.t 21), none⟩, ⟨(some 23), .bin .gtr (.t 22) (.c (.int .i64 20)), none⟩] [])
  (.cond (.t 23)
    (.seq (.reg false [⟨(some 4), .mv (.c (.bool true)), none⟩] [])
    .ret)
    .skip))
  (.seq (.reg false [⟨(some 24), .load true 3 (.t 2), none⟩, ⟨(some 25), .call 55 [(.t 24)], none⟩, ⟨(some 5), .new 84 8 [(.bool false), .nils, .nils, .nils, (.int .i64 0), (.int .i64 0), .nils, .nils], none⟩, ⟨none, .store 8 (.t 5) (.t 25), none⟩] [])
  (.seq (.reg false [⟨(some 26), .load true 3 (.t 2), none⟩, ⟨(some 27), .call 60 [(.t 26)], none⟩, ⟨(some 6), .new 50 3 [(.bool false), .nils, (.int .i64 0)], none⟩, ⟨none, .store 3 (.t 6) (.t 27), none⟩] [])
  (.seq (.reg false [⟨(some 7), .mv (.c (.str ⟨#[110, 105, 118, 119, 102, 116, 101]⟩)), none⟩] [])
  (.seq (.seq (.reg false [⟨(some 8), .mv (.c (.int .i64 0)), none⟩] [])
  (.block 0 (.loop (.seq (.seq (.reg false [⟨(some 28), .mv (.t 8), none⟩, ⟨(some 29), .mv (.t 7), none⟩, ⟨(some 30), .lenS (.t 29), none⟩, ⟨(some 31), .bin .lss (.t 28) (.t 30), none⟩] [])
      (.cond (.t 31)
        .skip
        (.exit 0)))
      (.seq (.block 1 (.seq (.reg true [⟨(some 35), .load true 8 (.t 5), none⟩, ⟨(some 36), .mv (.t 7), none⟩, ⟨(some 37), .mv (.t 8), none⟩, ⟨(some 38), .idxs (.t 36) (.t 37), none⟩, ⟨(some 39), .call 56 [(.t 35), (.t 38)], none⟩, ⟨(some 34), .mv (.t 39), none⟩, ⟨(some 40), .ext (.t 34) 0, none⟩, ⟨(some 41), .ext (.t 34) 1, none⟩, ⟨(some 9), .new 28 3 [(.bool false), .nils, .nils], none⟩, ⟨none, .store 3 (.t 9) (.t 40), none⟩, ⟨(some 10), .mv (.t 41), none⟩] [0, 0, 0, 6, 15, 31, 63, 63, 0, 383, 1023])
        (.seq (.reg true [⟨(some 43), .load true 3 (.t 6), none⟩, ⟨(some 44), .mv (.t 7), none⟩, ⟨(some 45), .mv (.t 8), none⟩, ⟨(some 46), .idxs (.t 44) (.t 45), none⟩, ⟨(some 47), .call 61 [(.t 43), (.t 46)], none⟩, ⟨(some 42), .mv (.t 47), none⟩, ⟨(some 48), .ext (.t 42) 0, none⟩, ⟨(some 49), .ext (.t 42) 1, none⟩, ⟨(some 11), .new 38 3 [(.bool false), .nils, .nils], none⟩, ⟨none, .store 3 (.t 11) (.t 48), none⟩, ⟨(some 12), .mv (.t 49), none⟩] [0, 0, 0, 6, 15, 31, 63, 63, 0, 383, 1023])
        (.seq (.reg false [⟨(some 50), .mv (.t 10), none⟩, ⟨(some 51), .not (.t 50), none⟩, ⟨(some 52), .mv (.t 51), none⟩, ⟨(some 53), .load true 3 (.t 9), (some ((some 52), false))⟩, ⟨(some 54), .load true 3 (.t 11), (some ((some 52), false))⟩, ⟨(some 55), .call 62 [(.t 53), (.t 54)], (some ((some 52), false))⟩, ⟨(some 56), .not (.t 55), (some ((some 52), false))⟩, ⟨(some 57), .pick (.t 52) (.c (.bool true)) (.t 56), none⟩] [])
        (.cond (.t 57)
          (.seq (.reg false [⟨(some 4), .mv (.c (.bool false)), none⟩] [])
          .ret)
          .skip)))))
      (.reg false [⟨(some 32), .mv (.t 8), none⟩, ⟨(some 33), .bin .add (.t 32) (.c (.int .i64 1)), none⟩, ⟨(some 8), .mv (.t 33), none⟩] []))))))
  (.seq (.reg false [⟨(some 59), .load true 8 (.t 5), none⟩, ⟨(some 60), .mv (.t 1), none⟩, ⟨(some 61), .call 56 [(.t 59), (.t 60)], none⟩, ⟨(some 58), .mv (.t 61), none⟩, ⟨(some 62), .ext (.t 58) 0, none⟩, ⟨(some 63), .ext (.t 58) 1, none⟩, ⟨(some 13), .new 28 3 [(.bool false), .nils, .nils], none⟩, ⟨none, .store 3 (.t 13) (.t 62), none⟩, ⟨(some 14), .mv (.t 63), none⟩] [])
  (.seq (.reg false [⟨(some 65), .load true 3 (.t 6), none⟩, ⟨(some 66), .mv (.t 1), none⟩, ⟨(some 67), .call 61 [(.t 65), (.t 66)], none⟩, ⟨(some 64), .mv (.t 67), none⟩, ⟨(some 68), .ext (.t 64) 0, none⟩, ⟨(some 69), .ext (.t 64) 1, none⟩, ⟨(some 15), .new 38 3 [(.bool false), .nils, .nils], none⟩, ⟨none, .store 3 (.t 15) (.t 68), none⟩, ⟨(some 16), .mv (.t 69), none⟩] [])
  (.seq (.reg true [⟨(some 70), .mv (.t 14), none⟩, ⟨(some 71), .mv (.t 16), none⟩, ⟨(some 72), .beq false (.t 70) (.t 71), none⟩, ⟨(some 73), .mv (.t 72), none⟩, ⟨(some 74), .faddr 3 (.t 5), (some ((some 73), true))⟩, ⟨(some 75), .load true 1 (.t 74), (some ((some 73), true))⟩, ⟨(some 76), .load true 3 (.t 6), (some ((some 73), true))⟩, ⟨(some 77), .call 51 [(.t 76)], (some ((some 73), true))⟩, ⟨(some 78), .call 58 [(.t 75), (.t 77)], (some ((some 73), true))⟩, ⟨(some 79), .pick (.t 73) (.t 78) (.c (.bool false)), none⟩, ⟨(some 80), .mv (.t 79), none⟩, ⟨(some 81), .faddr 4 (.t 5), (some ((some 80), true))⟩, ⟨(some 82), .load false 1 (.t 81), (some ((some 80), true))⟩, ⟨(some 83), .faddr 2 (.t 6), (some ((some 80), true))⟩, ⟨(some 84), .load false 1 (.t 83), (some ((some 80), true))⟩, ⟨(some 85), .bin .eql (.t 82) (.t 84), (some ((some 80), true))⟩, ⟨(some 86), .pick (.t 80) (.t 85) (.c (.bool false)), none⟩, ⟨(some 4), .mv (.t 86), none⟩] [0, 0, 3, 7, 15, 31, 15, 79, 255, 511, 1023, 2047, 4095, 2047, 10239, 32767, 65535, 131071])
  .ret))))))))))
theorem ok8 : (Go.Proofs.Tryz.f8.body).bind (comp Go.Proofs.Tryz.prog) = some c8 := by kernel_rfl
end Go.Proofs.YtapikjmijmebpaaGreatDoorK.NatIr
