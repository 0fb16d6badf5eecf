/-
  The compiled bodies, printed: IrLRoundSteps.
-/
import Derived.Test.YtapikjmijmebpaaDoorKAb
import Derived.Test.YtapikjmijmebpaaDoorProg
set_option linter.all false
set_option linter.unusedVariables false
set_option linter.unusedSimpArgs false
set_option maxHeartbeats 4000000
namespace Go.Proofs.YtapikjmijmebpaaDoorK.NatIr
open Go.Proofs.YtapikjmijmebpaaDoorK.AI
/-- cubit/cubitlaw5.RoundSteps -/
def c8 : IR :=
  (.seq (.reg false [⟨(some 4), .box 28 3 (.t 0), none⟩, ⟨(some 8), .mv (.c (.bool false)), none⟩] [])
  (.seq (.seq (.reg false [⟨(some 18), .call 9 [], none⟩, ⟨(some 19), .not (.t 18), none⟩] [])
  (.cond (.t 19)
    (.seq (.reg false [⟨(some 8), .mv (.c (.bool false)), none⟩] [])
    .ret)
    .skip))
  (.seq (.seq (.reg false [⟨(some 20), .load true 3 (.t 4), none⟩, ⟨(some 21), .call 14 [(.t 20)], none⟩, ⟨(some 22), .mv (.t 21), none⟩, ⟨(some 23), .mv (.t 1), (some ((some 22), false))⟩, ⟨(some 24), .bin .lss (.t 23) (.c (.int .i64 0)), (some ((some 22), false))⟩, ⟨(some 25), .pick (.t 22) (.c (.bool true)) (.t 24), none⟩, ⟨(some 26), .mv (.t 25), none⟩, ⟨(some 27), .mv (.t 1), (some ((some 26), false))⟩, ⟨(some 28), .bin .gtr (.t 27) (.c (.int .i64 15)), (some ((some 26), false))⟩, ⟨(some 29), .pick (.t 26) (.c (.bool true)) (.t 28), none⟩, ⟨(some 30), .mv (.t 29), none⟩, ⟨(some 31), .mv (.t 2), (some ((some 30), false))⟩, ⟨(some 32), .bin .lss (.t 31) (.c (.int .i64 1)), (some ((some 30), false))⟩, ⟨(some 33), .pick (.t 30) (.c (.bool true)) (.t 32), none⟩, ⟨(some 34), .mv (.t 33), none⟩, ⟨(some 35), .mv (.t 2), (some ((some 34), false))⟩, ⟨(some 36), .bin .gtr (.t 35) (.c (.int .i64 7)), (some ((some 34), false))⟩, ⟨(some 37), .pick (.t 34) (.c (.bool true)) (.t 36), none⟩, ⟨(some 38), .mv (.t 37), none⟩, ⟨(some 39), .mv (.t 3), (some ((some 38), false))⟩, ⟨(some 40), .bin .eql (.t 39) (.c (.int .u64 0)), (some ((some 38), false))⟩, ⟨(some 41), .pick (.t 38) (.c (.bool true)) (.t 40), none⟩] [])
  (.cond (.t 41)
    (.seq (.reg false [⟨(some 8), .mv (.c (.bool true)), none⟩] [])
    .ret)
    .skip))
  (.seq (.reg false [⟨(some 43), .load true 3 (.t 4), none⟩, ⟨(some 44), .mv (.t 1), none⟩, ⟨(some 45), .mv (.t 2), none⟩, ⟨(some 46), .call 21 [(.t 43), (.t 44), (.t 45)], none⟩, ⟨(some 42), .mv (.t 46), none⟩, ⟨(some 47), .ext (.t 42) 0, none⟩, ⟨(some 48), .ext (.t 42) 1, none⟩, ⟨(some 9), .new 33 3 [(.bool false), .nils, (.int .i64 0)], none⟩, ⟨none, .store 3 (.t 9) (.t 47), none⟩, ⟨(some 10), .mv (.t 48), none⟩] [])
  (.seq (.reg true [⟨(some 50), .load true 3 (.t 4), none⟩, ⟨(some 51), .call 17 [(.c (.int .u64 1))], none⟩, ⟨(some 52), .mv (.t 1), none⟩, ⟨(some 53), .build [(.bool false), .nils, (.int .i64 0)] [(1, 1, (.t 51)), (2, 1, (.t 52))], none⟩, ⟨(some 54), .mv (.t 2), none⟩, ⟨(some 55), .call 28 [(.t 50), (.t 53), (.t 54)], none⟩, ⟨(some 49), .mv (.t 55), none⟩, ⟨(some 56), .ext (.t 49) 0, none⟩, ⟨(some 57), .ext (.t 49) 1, none⟩, ⟨(some 11), .new 33 3 [(.bool false), .nils, (.int .i64 0)], none⟩, ⟨none, .store 3 (.t 11) (.t 56), none⟩, ⟨(some 12), .mv (.t 57), none⟩] [0, 0, 0, 6, 0, 31, 63, 127, 127, 0, 767, 2047])
  (.seq (.reg true [⟨(some 59), .load true 3 (.t 4), none⟩, ⟨(some 60), .mv (.t 3), none⟩, ⟨(some 61), .call 17 [(.t 60)], none⟩, ⟨(some 62), .mv (.t 1), none⟩, ⟨(some 63), .build [(.bool false), .nils, (.int .i64 0)] [(1, 1, (.t 61)), (2, 1, (.t 62))], none⟩, ⟨(some 64), .mv (.t 2), none⟩, ⟨(some 65), .call 28 [(.t 59), (.t 63), (.t 64)], none⟩, ⟨(some 58), .mv (.t 65), none⟩, ⟨(some 66), .ext (.t 58) 0, none⟩, ⟨(some 67), .ext (.t 58) 1, none⟩, ⟨(some 13), .new 33 3 [(.bool false), .nils, (.int .i64 0)], none⟩, ⟨none, .store 3 (.t 13) (.t 66), none⟩, ⟨(some 14), .mv (.t 67), none⟩] [0, 0, 2, 0, 14, 0, 63, 127, 255, 255, 0, 1535, 4095])
  (.seq (.seq (.reg true [⟨(some 68), .mv (.t 10), none⟩, ⟨(some 69), .bin .neq (.t 68) (.c (.int .i64 0)), none⟩, ⟨(some 70), .mv (.t 69), none⟩, ⟨(some 71), .mv (.t 12), (some ((some 70), false))⟩, ⟨(some 72), .bin .neq (.t 71) (.c (.int .i64 0)), (some ((some 70), false))⟩, ⟨(some 73), .pick (.t 70) (.c (.bool true)) (.t 72), none⟩, ⟨(some 74), .mv (.t 73), none⟩, ⟨(some 75), .mv (.t 14), (some ((some 74), false))⟩, ⟨(some 76), .bin .neq (.t 75) (.c (.int .i64 0)), (some ((some 74), false))⟩, ⟨(some 77), .pick (.t 74) (.c (.bool true)) (.t 76), none⟩, ⟨(some 78), .mv (.t 77), none⟩, ⟨(some 79), .load true 3 (.t 9), (some ((some 78), false))⟩, ⟨(some 80), .call 29 [(.t 79)], (some ((some 78), false))⟩, ⟨(some 81), .load true 3 (.t 11), (some ((some 78), false))⟩, ⟨(some 82), .call 29 [(.t 81)], (some ((some 78), false))⟩, ⟨(some 83), .bin .neq (.t 80) (.t 82), (some ((some 78), false))⟩, ⟨(some 84), .pick (.t 78) (.c (.bool true)) (.t 83), none⟩, ⟨(some 85), .mv (.t 84), none⟩, ⟨(some 86), .faddr 2 (.t 13), (some ((some 85), false))⟩, ⟨(some 87), .load false 1 (.t 86), (some ((some 85), false))⟩, ⟨(some 88), .mv (.t 1), (some ((some 85), false))⟩, ⟨(some 89), .bin .neq (.t 87) (.t 88), (some ((some 85), false))⟩, ⟨(some 90), .pick (.t 85) (.c (.bool true)) (.t 89), none⟩] [0, 1, 3, 7, 15, 31, 63, 127, 255, 511, 1023, 2047, 4095, 2047, 16383, 32767, 65535, 131071, 262143, 524287, 262143, 2097151, 4194303])
  (.cond (.t 90)
    (.seq (.reg false [⟨(some 8), .mv (.c (.bool false)), none⟩] [])
    .ret)
    .skip))
  (.seq (.reg true [⟨(some 92), .faddr 1 (.t 13), none⟩, ⟨(some 93), .load true 1 (.t 92), none⟩, ⟨(some 94), .mv (.t 3), none⟩, ⟨(some 95), .call 17 [(.t 94)], none⟩, ⟨(some 96), .call 30 [(.t 93), (.t 95)], none⟩, ⟨(some 91), .mv (.t 96), none⟩, ⟨(some 97), .ext (.t 91) 0, none⟩, ⟨(some 98), .ext (.t 91) 1, none⟩, ⟨(some 99), .ext (.t 91) 2, none⟩, ⟨(some 15), .new 24 1 [.nils], none⟩, ⟨(some 16), .new 24 1 [.nils], none⟩, ⟨none, .store 1 (.t 15) (.t 97), none⟩, ⟨none, .store 1 (.t 16) (.t 98), none⟩, ⟨(some 17), .mv (.t 99), none⟩] [0, 1, 0, 4, 15, 31, 63, 63, 63, 0, 0, 1663, 3839, 8191])
  (.seq (.reg true [⟨(some 100), .mv (.t 17), none⟩, ⟨(some 101), .mv (.t 100), none⟩, ⟨(some 102), .load true 1 (.t 16), (some ((some 101), true))⟩, ⟨(some 103), .call 17 [(.c (.int .u64 0))], (some ((some 101), true))⟩, ⟨(some 104), .call 31 [(.t 102), (.t 103)], (some ((some 101), true))⟩, ⟨(some 105), .bin .eql (.t 104) (.c (.int .i64 0)), (some ((some 101), true))⟩, ⟨(some 106), .pick (.t 101) (.t 105) (.c (.bool false)), none⟩, ⟨(some 8), .mv (.t 106), none⟩] [0, 1, 3, 3, 15, 31, 63, 127])
  .ret)))))))))
theorem ok8 : (Go.Proofs.Tryd.f8.body).bind (comp Go.Proofs.Tryd.prog) = some c8 := by kernel_rfl
end Go.Proofs.YtapikjmijmebpaaDoorK.NatIr
