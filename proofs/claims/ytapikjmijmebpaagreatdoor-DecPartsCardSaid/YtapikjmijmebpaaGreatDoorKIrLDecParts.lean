/-
  The compiled bodies, printed: IrLDecParts.
-/
import Derived.Test.YtapikjmijmebpaaGreatDoorKAb
import Derived.Test.YtapikjmijmebpaaGreatDoorProg
set_option linter.all false
set_option linter.unusedVariables false
set_option linter.unusedSimpArgs false
set_option maxHeartbeats 4000000
namespace Go.Proofs.YtapikjmijmebpaaGreatDoorK.NatIr
open Go.Proofs.YtapikjmijmebpaaGreatDoorK.AI
/-- cubit/cubitlaw4.DecParts -/
def c4 : IR :=
  (.seq (.reg false [⟨(some 2), .mv (.c (.bool false)), none⟩] [])
  (.seq (.seq (.reg false [⟨(some 8), .call 28 [], none⟩, ⟨(some 9), .not (.t 8), none⟩] [])
  (.cond (.t 9)
    (.seq (.reg false [⟨(some 2), .mv (.c (.bool false)), none⟩] [])
    .ret)
    .skip))
  (.seq (.seq (.reg false [⟨(some 10), .mv (.t 0), none⟩, ⟨(some 11), .lenS (.t 10), none⟩, ⟨(some 12), .bin .gtr (.t 11) (.c (.int .i64 256)), none⟩] [])
  (.cond (.t 12)
    (.seq (.reg false [⟨(some 2), .mv (.c (.bool true)), none⟩] [])
    .ret)
    .skip))
  (.seq (.reg false [⟨(some 14), .mv (.t 0), none⟩, ⟨(some 15), .call 29 [(.t 14)], none⟩, ⟨(some 13), .mv (.t 15), none⟩, ⟨(some 16), .ext (.t 13) 0, none⟩, ⟨(some 17), .ext (.t 13) 1, none⟩, ⟨(some 3), .new 30 3 [(.bool false), .nils, (.int .i64 0)], none⟩, ⟨none, .store 3 (.t 3) (.t 16), none⟩, ⟨(some 4), .mv (.t 17), none⟩] [])
  (.seq (.seq (.reg false [⟨(some 18), .mv (.t 4), none⟩, ⟨(some 19), .bin .neq (.t 18) (.c (.int .i64 0)), none⟩] [])
  (.cond (.t 19)
    (.seq (.reg false [⟨(some 2), .mv (.c (.bool true)), none⟩] [])
    .ret)
    .skip))
  (.seq (.reg false [⟨(some 5), .mv (.c (.str ⟨#[]⟩)), none⟩] [])
  (.seq (.seq (.reg false [⟨(some 20), .faddr 0 (.t 3), none⟩, ⟨(some 21), .load false 1 (.t 20), none⟩] [])
  (.cond (.t 21)
    (.reg false [⟨(some 5), .mv (.c (.str ⟨#[45]⟩)), none⟩] [])
    .skip))
  (.seq (.seq (.reg false [⟨(some 6), .mv (.c (.int .i64 0)), none⟩] [])
  (.block 0 (.loop (.seq (.seq (.reg false [⟨(some 22), .mv (.t 6), none⟩, ⟨(some 23), .load true 3 (.t 3), none⟩, ⟨(some 24), .call 30 [(.t 23)], none⟩, ⟨(some 25), .lenS (.t 24), none⟩, ⟨(some 26), .bin .lss (.t 22) (.t 25), none⟩] [])
      (.cond (.t 26)
        .skip
        (.exit 0)))
      (.seq (.block 1 (.seq (.reg false [⟨(some 29), .load true 3 (.t 3), none⟩, ⟨(some 30), .call 30 [(.t 29)], none⟩, ⟨(some 31), .mv (.t 6), none⟩, ⟨(some 32), .idxs (.t 30) (.t 31), none⟩, ⟨(some 33), .bin .lss (.t 32) (.c (.int .u8 48)), none⟩, ⟨(some 34), .mv (.t 33), none⟩, ⟨(some 35), .load true 3 (.t 3), (some ((some 34), false))⟩, ⟨(some 36), .call 30 [(.t 35)], (some ((some 34), false))⟩, ⟨(some 37), .mv (.t 6), (some ((some 34), false))⟩, ⟨(some 38), .idxs (.t 36) (.t 37), (some ((some 34), false))⟩, ⟨(some 39), .bin .gtr (.t 38) (.c (.int .u8 57)), (some ((some 34), false))⟩, ⟨(some 40), .pick (.t 34) (.c (.bool true)) (.t 39), none⟩] [])
        (.cond (.t 40)
          (.seq (.reg false [⟨(some 2), .mv (.c (.bool false)), none⟩] [])
          .ret)
          .skip)))
      (.reg false [⟨(some 27), .mv (.t 6), none⟩, ⟨(some 28), .bin .add (.t 27) (.c (.int .i64 1)), none⟩, ⟨(some 6), .mv (.t 28), none⟩] []))))))
  (.seq (.reg false [⟨(some 41), .load true 3 (.t 3), none⟩, ⟨(some 42), .call 31 [(.t 41)], none⟩, ⟨(some 7), .mv (.t 42), none⟩] [])
  (.seq (.reg false [⟨(some 43), .mv (.t 5), none⟩, ⟨(some 44), .mv (.t 7), none⟩, ⟨(some 45), .bin .add (.t 43) (.t 44), none⟩, ⟨(some 5), .mv (.t 45), none⟩] [])
  (.seq (.seq (.reg false [⟨(some 46), .load true 3 (.t 3), none⟩, ⟨(some 47), .call 30 [(.t 46)], none⟩, ⟨(some 48), .bin .neq (.t 47) (.c (.str ⟨#[]⟩)), none⟩] [])
  (.cond (.t 48)
    (.reg false [⟨(some 49), .mv (.t 5), none⟩, ⟨(some 50), .bin .add (.t 49) (.c (.str ⟨#[46]⟩)), none⟩, ⟨(some 51), .load true 3 (.t 3), none⟩, ⟨(some 52), .call 30 [(.t 51)], none⟩, ⟨(some 53), .bin .add (.t 50) (.t 52), none⟩, ⟨(some 5), .mv (.t 53), none⟩] [])
    .skip))
  (.seq (.reg true [⟨(some 54), .load true 3 (.t 3), none⟩, ⟨(some 55), .call 32 [(.t 54)], none⟩, ⟨(some 56), .mv (.t 5), none⟩, ⟨(some 57), .bin .eql (.t 55) (.t 56), none⟩, ⟨(some 58), .mv (.t 57), none⟩, ⟨(some 59), .load true 3 (.t 3), (some ((some 58), true))⟩, ⟨(some 60), .call 34 [(.t 59)], (some ((some 58), true))⟩, ⟨(some 61), .call 33 [(.t 60)], (some ((some 58), true))⟩, ⟨(some 62), .pick (.t 58) (.t 61) (.c (.bool false)), none⟩, ⟨(some 63), .mv (.t 62), none⟩, ⟨(some 64), .load true 3 (.t 3), (some ((some 63), true))⟩, ⟨(some 65), .call 34 [(.t 64)], (some ((some 63), true))⟩, ⟨(some 66), .call 35 [(.t 65)], (some ((some 63), true))⟩, ⟨(some 67), .bin .lss (.t 66) (.c (.int .i64 0)), (some ((some 63), true))⟩, ⟨(some 68), .faddr 0 (.t 3), (some ((some 63), true))⟩, ⟨(some 69), .load false 1 (.t 68), (some ((some 63), true))⟩, ⟨(some 70), .beq false (.t 67) (.t 69), (some ((some 63), true))⟩, ⟨(some 71), .pick (.t 63) (.t 70) (.c (.bool false)), none⟩, ⟨(some 2), .mv (.t 71), none⟩] [0, 1, 0, 7, 15, 31, 63, 127, 255, 511, 1023, 2047, 4095, 8191, 1023, 17407, 65535, 131071, 262143])
  .ret))))))))))))
theorem ok4 : (Go.Proofs.Tryz.f4.body).bind (comp Go.Proofs.Tryz.prog) = some c4 := by kernel_rfl
end Go.Proofs.YtapikjmijmebpaaGreatDoorK.NatIr
