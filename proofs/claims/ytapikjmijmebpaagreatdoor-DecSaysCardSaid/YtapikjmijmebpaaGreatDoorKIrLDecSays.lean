/-
  The compiled bodies, printed: IrLDecSays.
-/
import Derived.Test.YtapikjmijmebpaaGreatDoorKAb
import Derived.Test.YtapikjmijmebpaaGreatDoorProg
set_option linter.all false
set_option linter.unusedVariables false
set_option linter.unusedSimpArgs false
set_option maxHeartbeats 4000000
namespace Go.Proofs.YtapikjmijmebpaaGreatDoorK.NatIr
open Go.Proofs.YtapikjmijmebpaaGreatDoorK.AI
/-- cubit/cubitlaw4.DecSays -/
def c6 : IR :=
  (.seq (.reg false [⟨(some 5), .box 30 3 (.t 1), none⟩, ⟨(some 6), .box 28 3 (.t 2), none⟩, ⟨(some 8), .mv (.c (.bool false)), none⟩] [])
  (.seq (.seq (.reg false [⟨(some 18), .call 28 [], none⟩, ⟨(some 19), .not (.t 18), none⟩] [])
  (.cond (.t 19)
    (.seq (.reg false [⟨(some 8), .mv (.c (.bool false)), none⟩] [])
    .ret)
    .skip))
  (.seq (.seq (.reg false [⟨(some 20), .mv (.t 0), none⟩, ⟨(some 21), .lenS (.t 20), none⟩, ⟨(some 22), .bin .gtr (.t 21) (.c (.int .i64 300)), none⟩, ⟨(some 23), .mv (.t 22), none⟩, ⟨(some 24), .faddr 1 (.t 5), (some ((some 23), false))⟩, ⟨(some 25), .faddr 0 (.t 24), (some ((some 23), false))⟩, ⟨(some 26), .load false 1 (.t 25), (some ((some 23), false))⟩, ⟨(some 27), .lenL (.t 26), (some ((some 23), false))⟩, ⟨(some 28), .bin .gtr (.t 27) (.c (.int .i64 12)), (some ((some 23), false))⟩, ⟨(some 29), .pick (.t 23) (.c (.bool true)) (.t 28), none⟩, ⟨(some 30), .mv (.t 29), none⟩, ⟨(some 31), .load true 3 (.t 6), (some ((some 30), false))⟩, ⟨(some 32), .call 40 [(.t 31)], (some ((some 30), false))⟩, ⟨(some 33), .pick (.t 30) (.c (.bool true)) (.t 32), none⟩] [])
  (.cond (.t 33)
    (.seq (.reg false [⟨(some 8), .mv (.c (.bool true)), none⟩] [])
    .ret)
    .skip))
  (.seq (.reg false [⟨(some 35), .mv (.t 0), none⟩, ⟨(some 36), .call 29 [(.t 35)], none⟩, ⟨(some 34), .mv (.t 36), none⟩, ⟨(some 37), .ext (.t 34) 0, none⟩, ⟨(some 38), .ext (.t 34) 1, none⟩, ⟨(some 9), .new 30 3 [(.bool false), .nils, (.int .i64 0)], none⟩, ⟨none, .store 3 (.t 9) (.t 37), none⟩, ⟨(some 10), .mv (.t 38), none⟩] [])
  (.seq (.reg false [⟨(some 40), .mv (.t 0), none⟩, ⟨(some 41), .call 41 [(.t 40)], none⟩, ⟨(some 39), .mv (.t 41), none⟩, ⟨(some 42), .ext (.t 39) 0, none⟩, ⟨(some 43), .ext (.t 39) 1, none⟩, ⟨(some 11), .new 50 3 [(.bool false), .nils, (.int .i64 0)], none⟩, ⟨none, .store 3 (.t 11) (.t 42), none⟩, ⟨(some 12), .mv (.t 43), none⟩] [])
  (.seq (.seq (.reg false [⟨(some 44), .mv (.t 10), none⟩, ⟨(some 45), .mv (.t 12), none⟩, ⟨(some 46), .bin .neq (.t 44) (.t 45), none⟩, ⟨(some 47), .mv (.t 46), none⟩, ⟨(some 48), .mv (.t 10), (some ((some 47), false))⟩, ⟨(some 49), .bin .eql (.t 48) (.c (.int .i64 0)), (some ((some 47), false))⟩, ⟨(some 50), .mv (.t 49), (some ((some 47), false))⟩, ⟨(some 51), .load true 3 (.t 9), (some ((some 50), true))⟩, ⟨(some 52), .load true 3 (.t 11), (some ((some 50), true))⟩, ⟨(some 53), .call 42 [(.t 51), (.t 52)], (some ((some 50), true))⟩, ⟨(some 54), .not (.t 53), (some ((some 50), true))⟩, ⟨(some 55), .pick (.t 50) (.t 54) (.c (.bool false)), (some ((some 47), false))⟩, ⟨(some 56), .pick (.t 47) (.c (.bool true)) (.t 55), none⟩] [])
  (.cond (.t 56)
    (.seq (.reg false [⟨(some 8), .mv (.c (.bool false)), none⟩] [])
    .ret)
    .skip))
  (.seq (.reg false [⟨(some 57), .load true 3 (.t 5), none⟩, ⟨(some 58), .call 43 [(.t 57)], none⟩, ⟨(some 13), .new 50 3 [(.bool false), .nils, (.int .i64 0)], none⟩, ⟨none, .store 3 (.t 13) (.t 58), none⟩] [])
  (.seq (.reg false [⟨(some 60), .load true 3 (.t 6), none⟩, ⟨(some 61), .mv (.t 3), none⟩, ⟨(some 62), .call 36 [(.t 60), (.t 61)], none⟩, ⟨(some 59), .mv (.t 62), none⟩, ⟨(some 63), .ext (.t 59) 0, none⟩, ⟨(some 64), .ext (.t 59) 1, none⟩, ⟨(some 14), .new 30 3 [(.bool false), .nils, (.int .i64 0)], none⟩, ⟨none, .store 3 (.t 14) (.t 63), none⟩, ⟨(some 15), .mv (.t 64), none⟩] [])
  (.seq (.reg false [⟨(some 66), .load true 3 (.t 6), none⟩, ⟨(some 67), .call 45 [(.t 66)], none⟩, ⟨(some 68), .mv (.t 3), none⟩, ⟨(some 69), .call 44 [(.t 67), (.t 68)], none⟩, ⟨(some 65), .mv (.t 69), none⟩, ⟨(some 70), .ext (.t 65) 0, none⟩, ⟨(some 71), .ext (.t 65) 1, none⟩, ⟨(some 16), .new 50 3 [(.bool false), .nils, (.int .i64 0)], none⟩, ⟨none, .store 3 (.t 16) (.t 70), none⟩, ⟨(some 17), .mv (.t 71), none⟩] [])
  (.seq (.reg true [⟨(some 72), .mv (.t 15), none⟩, ⟨(some 73), .mv (.t 17), none⟩, ⟨(some 74), .beq false (.t 72) (.t 73), none⟩, ⟨(some 75), .mv (.t 74), none⟩, ⟨(some 76), .mv (.t 15), (some ((some 75), true))⟩, ⟨(some 77), .not (.t 76), (some ((some 75), true))⟩, ⟨(some 78), .mv (.t 77), (some ((some 75), true))⟩, ⟨(some 79), .load true 3 (.t 14), (some ((some 78), false))⟩, ⟨(some 80), .load true 3 (.t 16), (some ((some 78), false))⟩, ⟨(some 81), .call 42 [(.t 79), (.t 80)], (some ((some 78), false))⟩, ⟨(some 82), .pick (.t 78) (.c (.bool true)) (.t 81), (some ((some 75), true))⟩, ⟨(some 83), .pick (.t 75) (.t 82) (.c (.bool false)), none⟩, ⟨(some 84), .mv (.t 83), none⟩, ⟨(some 85), .load true 3 (.t 5), (some ((some 84), true))⟩, ⟨(some 86), .call 32 [(.t 85)], (some ((some 84), true))⟩, ⟨(some 87), .load true 3 (.t 13), (some ((some 84), true))⟩, ⟨(some 88), .call 46 [(.t 87)], (some ((some 84), true))⟩, ⟨(some 89), .bin .eql (.t 86) (.t 88), (some ((some 84), true))⟩, ⟨(some 90), .pick (.t 84) (.t 89) (.c (.bool false)), none⟩, ⟨(some 91), .mv (.t 90), none⟩, ⟨(some 92), .load true 3 (.t 5), (some ((some 91), true))⟩, ⟨(some 93), .call 34 [(.t 92)], (some ((some 91), true))⟩, ⟨(some 94), .load true 3 (.t 13), (some ((some 91), true))⟩, ⟨(some 95), .call 48 [(.t 94)], (some ((some 91), true))⟩, ⟨(some 96), .call 47 [(.t 93), (.t 95)], (some ((some 91), true))⟩, ⟨(some 97), .pick (.t 91) (.t 96) (.c (.bool false)), none⟩, ⟨(some 98), .mv (.t 97), none⟩, ⟨(some 99), .load true 3 (.t 5), (some ((some 98), true))⟩, ⟨(some 100), .call 50 [(.t 99)], (some ((some 98), true))⟩, ⟨(some 101), .load true 3 (.t 13), (some ((some 98), true))⟩, ⟨(some 102), .call 51 [(.t 101)], (some ((some 98), true))⟩, ⟨(some 103), .call 49 [(.t 100), (.t 102)], (some ((some 98), true))⟩, ⟨(some 104), .pick (.t 98) (.t 103) (.c (.bool false)), none⟩, ⟨(some 105), .mv (.t 104), none⟩, ⟨(some 106), .load true 3 (.t 5), (some ((some 105), true))⟩, ⟨(some 107), .call 30 [(.t 106)], (some ((some 105), true))⟩, ⟨(some 108), .load true 3 (.t 13), (some ((some 105), true))⟩, ⟨(some 109), .call 52 [(.t 108)], (some ((some 105), true))⟩, ⟨(some 110), .bin .eql (.t 107) (.t 109), (some ((some 105), true))⟩, ⟨(some 111), .pick (.t 105) (.t 110) (.c (.bool false)), none⟩, ⟨(some 112), .mv (.t 111), none⟩, ⟨(some 113), .load true 3 (.t 5), (some ((some 112), true))⟩, ⟨(some 114), .call 39 [(.t 113)], (some ((some 112), true))⟩, ⟨(some 115), .load true 3 (.t 13), (some ((some 112), true))⟩, ⟨(some 116), .call 53 [(.t 115)], (some ((some 112), true))⟩, ⟨(some 117), .call 42 [(.t 114), (.t 116)], (some ((some 112), true))⟩, ⟨(some 118), .pick (.t 112) (.t 117) (.c (.bool false)), none⟩, ⟨(some 8), .mv (.t 118), none⟩] [0, 0, 3, 7, 15, 31, 63, 127, 127, 511, 1023, 2047, 4095, 8191, 16383, 8191, 65535, 131071, 262143, 524287, 1048575, 2097151, 1048575, 8388607, 16777215, 33554431, 67108863, 134217727, 268435455, 134217727, 1073741823, 2147483647, 4294967295, 8589934591, 17179869183, 34359738367, 17179869183, 137438953471, 274877906943, 549755813887, 1099511627775, 2199023255551, 4398046511103, 2199023255551, 17592186044415, 35184372088831, 70368744177663, 140737488355327])
  .ret))))))))))
theorem ok6 : (Go.Proofs.Tryz.f6.body).bind (comp Go.Proofs.Tryz.prog) = some c6 := by kernel_rfl
end Go.Proofs.YtapikjmijmebpaaGreatDoorK.NatIr
