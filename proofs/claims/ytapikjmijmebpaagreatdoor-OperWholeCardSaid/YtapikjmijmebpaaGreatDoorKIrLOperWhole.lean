/-
  The compiled bodies, printed: IrLOperWhole.
-/
import Derived.Test.YtapikjmijmebpaaGreatDoorKAb
import Derived.Test.YtapikjmijmebpaaGreatDoorProg
set_option linter.all false
set_option linter.unusedVariables false
set_option linter.unusedSimpArgs false
set_option maxHeartbeats 4000000
namespace Go.Proofs.YtapikjmijmebpaaGreatDoorK.NatIr
open Go.Proofs.YtapikjmijmebpaaGreatDoorK.AI
/-- cubit/cubitlaw18.OperWhole -/
def c11 : IR :=
  (.seq (.reg false [⟨(some 4), .mv (.c (.bool false)), none⟩] [])
  (.seq (.seq (.reg false [⟨(some 15), .call 54 [], none⟩, ⟨(some 16), .not (.t 15), none⟩] [])
  (.cond (.t 16)
    (.seq (.reg false [⟨(some 4), .mv (.c (.bool false)), none⟩] [])
    .ret)
    .skip))
  (.seq (.reg false [⟨(some 17), .mv (.t 1), none⟩, ⟨(some 18), .mv (.t 17), none⟩, ⟨(some 19), .mv (.t 0), (some ((some 18), true))⟩, ⟨(some 20), .bin .gtr (.t 19) (.c (.int .u64 0)), (some ((some 18), true))⟩, ⟨(some 21), .pick (.t 18) (.t 20) (.c (.bool false)), none⟩, ⟨(some 22), .mv (.t 0), none⟩, ⟨(some 23), .call 38 [(.t 22)], none⟩, ⟨(some 24), .build [(.bool false), .nils, (.int .i64 0)] [(0, 1, (.t 21)), (1, 1, (.t 23))], none⟩, ⟨(some 5), .new 30 3 [(.bool false), .nils, (.int .i64 0)], none⟩, ⟨none, .store 3 (.t 5) (.t 24), none⟩] [])
  (.seq (.reg false [⟨(some 25), .load true 3 (.t 5), none⟩, ⟨(some 26), .call 55 [(.t 25)], none⟩, ⟨(some 6), .new 84 8 [(.bool false), .nils, .nils, .nils, (.int .i64 0), (.int .i64 0), .nils, .nils], none⟩, ⟨none, .store 8 (.t 6) (.t 26), none⟩] [])
  (.seq (.reg false [⟨(some 28), .load true 8 (.t 6), none⟩, ⟨(some 29), .call 56 [(.t 28), (.c (.int .u8 110))], none⟩, ⟨(some 27), .mv (.t 29), none⟩, ⟨(some 30), .ext (.t 27) 0, none⟩, ⟨(some 31), .ext (.t 27) 1, none⟩, ⟨(some 7), .new 28 3 [(.bool false), .nils, .nils], none⟩, ⟨none, .store 3 (.t 7) (.t 30), none⟩, ⟨(some 8), .mv (.t 31), none⟩] [])
  (.seq (.reg false [⟨(some 33), .load true 8 (.t 6), none⟩, ⟨(some 34), .call 56 [(.t 33), (.c (.int .u8 105))], none⟩, ⟨(some 32), .mv (.t 34), none⟩, ⟨(some 35), .ext (.t 32) 0, none⟩, ⟨(some 36), .ext (.t 32) 1, none⟩, ⟨(some 9), .new 28 3 [(.bool false), .nils, .nils], none⟩, ⟨none, .store 3 (.t 9) (.t 35), none⟩, ⟨(some 10), .mv (.t 36), none⟩] [])
  (.seq (.seq (.reg true [⟨(some 37), .load true 3 (.t 7), none⟩, ⟨(some 38), .load true 3 (.t 9), none⟩, ⟨(some 39), .call 63 [(.t 37), (.t 38)], none⟩, ⟨(some 40), .bin .neq (.t 39) (.c (.int .i64 0)), none⟩, ⟨(some 41), .mv (.t 40), none⟩, ⟨(some 42), .faddr 3 (.t 6), (some ((some 41), false))⟩, ⟨(some 43), .load true 1 (.t 42), (some ((some 41), false))⟩, ⟨(some 44), .mv (.t 0), (some ((some 41), false))⟩, ⟨(some 45), .call 38 [(.t 44)], (some ((some 41), false))⟩, ⟨(some 46), .call 69 [(.t 43), (.t 45)], (some ((some 41), false))⟩, ⟨(some 47), .bin .neq (.t 46) (.c (.int .i64 0)), (some ((some 41), false))⟩, ⟨(some 48), .pick (.t 41) (.c (.bool true)) (.t 47), none⟩] [0, 0, 3, 7, 15, 31, 63, 31, 159, 511, 1023, 2047])
  (.cond (.t 48)
    (.seq (.reg false [⟨(some 4), .mv (.c (.bool false)), none⟩] [])
    .ret)
    .skip))
  (.seq (.reg false [⟨(some 11), .mv (.c (.str ⟨#[118, 119, 102, 116, 101]⟩)), none⟩] [])
  (.seq (.seq (.reg false [⟨(some 12), .mv (.c (.int .i64 0)), none⟩] [])
  (.block 0 (.loop (.seq (.seq (.reg false [⟨(some 49), .mv (.t 12), none⟩, ⟨(some 50), .mv (.t 11), none⟩, ⟨(some 51), .lenS (.t 50), none⟩, ⟨(some 52), .bin .lss (.t 49) (.t 51), none⟩] [])
      (.cond (.t 52)
        .skip
        (.exit 0)))
      (.seq (.block 1 (.seq (.reg true [⟨(some 56), .load true 8 (.t 6), none⟩, ⟨(some 57), .mv (.t 11), none⟩, ⟨(some 58), .mv (.t 12), none⟩, ⟨(some 59), .idxs (.t 57) (.t 58), none⟩, ⟨(some 60), .call 56 [(.t 56), (.t 59)], none⟩, ⟨(some 55), .mv (.t 60), none⟩, ⟨(some 61), .ext (.t 55) 0, none⟩, ⟨(some 62), .ext (.t 55) 1, none⟩, ⟨(some 13), .new 28 3 [(.bool false), .nils, .nils], none⟩, ⟨none, .store 3 (.t 13) (.t 61), none⟩, ⟨(some 14), .mv (.t 62), none⟩] [0, 0, 0, 6, 15, 31, 63, 63, 0, 383, 1023])
        (.seq (.reg false [⟨(some 63), .mv (.t 14), none⟩, ⟨(some 64), .not (.t 63), none⟩, ⟨(some 65), .mv (.t 64), none⟩, ⟨(some 66), .load true 3 (.t 13), (some ((some 65), false))⟩, ⟨(some 67), .call 35 [(.t 66)], (some ((some 65), false))⟩, ⟨(some 68), .bin .neq (.t 67) (.c (.int .i64 0)), (some ((some 65), false))⟩, ⟨(some 69), .pick (.t 65) (.c (.bool true)) (.t 68), none⟩] [])
        (.cond (.t 69)
          (.seq (.reg false [⟨(some 4), .mv (.c (.bool false)), none⟩] [])
          .ret)
          .skip))))
      (.reg false [⟨(some 53), .mv (.t 12), none⟩, ⟨(some 54), .bin .add (.t 53) (.c (.int .i64 1)), none⟩, ⟨(some 12), .mv (.t 54), none⟩] []))))))
  (.seq (.reg false [⟨(some 4), .mv (.c (.bool true)), none⟩] [])
  .ret))))))))))
theorem ok11 : (Go.Proofs.Tryz.f11.body).bind (comp Go.Proofs.Tryz.prog) = some c11 := by kernel_rfl
end Go.Proofs.YtapikjmijmebpaaGreatDoorK.NatIr
