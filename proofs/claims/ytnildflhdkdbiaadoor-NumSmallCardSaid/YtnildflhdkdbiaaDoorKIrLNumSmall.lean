/-
  The compiled bodies, printed: IrLNumSmall.
-/
import Derived.Test.YtnildflhdkdbiaaDoorKAb
import Derived.Test.YtnildflhdkdbiaaDoorProg
set_option linter.all false
set_option linter.unusedVariables false
set_option linter.unusedSimpArgs false
set_option maxHeartbeats 4000000
namespace Go.Proofs.YtnildflhdkdbiaaDoorK.NatIr
open Go.Proofs.YtnildflhdkdbiaaDoorK.AI
/-- cubit/cubitlaw2.NumSmall -/
def c6 : IR :=
  (.seq (.reg false [⟨(some 4), .mv (.c (.bool false)), none⟩] [])
  (.seq (.seq (.reg false [⟨(some 12), .call 24 [], none⟩, ⟨(some 13), .not (.t 12), none⟩] [])
  (.cond (.t 13)
    (.seq (.reg false [⟨(some 4), .mv (.c (.bool false)), none⟩] [])
    .ret)
    .skip))
  (.seq (.reg false [⟨(some 14), .mv (.t 0), none⟩, ⟨(some 15), .conv .i64 (.t 14), none⟩, ⟨(some 16), .call 32 [(.t 15)], none⟩, ⟨(some 17), .mv (.t 1), none⟩, ⟨(some 18), .conv .i64 (.t 17), none⟩, ⟨(some 19), .call 32 [(.t 18)], none⟩, ⟨(some 5), .new 52 2 [(.bool false), .nils], none⟩, ⟨(some 6), .new 52 2 [(.bool false), .nils], none⟩, ⟨none, .store 2 (.t 5) (.t 16), none⟩, ⟨none, .store 2 (.t 6) (.t 19), none⟩] [])
  (.seq (.reg false [⟨(some 21), .load true 2 (.t 5), none⟩, ⟨(some 22), .load true 2 (.t 6), none⟩, ⟨(some 23), .call 26 [(.t 21), (.t 22)], none⟩, ⟨(some 20), .mv (.t 23), none⟩, ⟨(some 24), .ext (.t 20) 0, none⟩, ⟨(some 25), .ext (.t 20) 1, none⟩, ⟨(some 26), .ext (.t 20) 2, none⟩, ⟨(some 7), .new 52 2 [(.bool false), .nils], none⟩, ⟨(some 8), .new 52 2 [(.bool false), .nils], none⟩, ⟨none, .store 2 (.t 7) (.t 24), none⟩, ⟨none, .store 2 (.t 8) (.t 25), none⟩, ⟨(some 9), .mv (.t 26), none⟩] [])
  (.seq (.seq (.reg false [⟨(some 27), .mv (.t 9), none⟩, ⟨(some 28), .not (.t 27), none⟩] [])
  (.cond (.t 28)
    (.seq (.reg false [⟨(some 29), .mv (.t 1), none⟩, ⟨(some 30), .bin .eql (.t 29) (.c (.int .i32 0)), none⟩, ⟨(some 4), .mv (.t 30), none⟩] [])
    .ret)
    .skip))
  (.seq (.reg false [⟨(some 31), .mv (.t 0), none⟩, ⟨(some 32), .conv .i64 (.t 31), none⟩, ⟨(some 33), .mv (.t 1), none⟩, ⟨(some 34), .conv .i64 (.t 33), none⟩, ⟨(some 35), .bin .quo (.t 32) (.t 34), none⟩, ⟨(some 10), .mv (.t 35), none⟩] [])
  (.seq (.reg false [⟨(some 36), .mv (.t 0), none⟩, ⟨(some 37), .conv .i64 (.t 36), none⟩, ⟨(some 38), .mv (.t 1), none⟩, ⟨(some 39), .conv .i64 (.t 38), none⟩, ⟨(some 40), .bin .rem (.t 37) (.t 39), none⟩, ⟨(some 11), .mv (.t 40), none⟩] [])
  (.seq (.seq (.reg false [⟨(some 41), .mv (.t 11), none⟩, ⟨(some 42), .bin .lss (.t 41) (.c (.int .i64 0)), none⟩, ⟨(some 43), .mv (.t 42), none⟩, ⟨(some 44), .mv (.t 1), (some ((some 43), true))⟩, ⟨(some 45), .bin .gtr (.t 44) (.c (.int .i32 0)), (some ((some 43), true))⟩, ⟨(some 46), .pick (.t 43) (.t 45) (.c (.bool false)), none⟩] [])
  (.cond (.t 46)
    (.reg false [⟨(some 47), .mv (.t 10), none⟩, ⟨(some 48), .bin .sub (.t 47) (.c (.int .i64 1)), none⟩, ⟨(some 49), .mv (.t 11), none⟩, ⟨(some 50), .mv (.t 1), none⟩, ⟨(some 51), .conv .i64 (.t 50), none⟩, ⟨(some 52), .bin .add (.t 49) (.t 51), none⟩, ⟨(some 10), .mv (.t 48), none⟩, ⟨(some 11), .mv (.t 52), none⟩] [])
    .skip))
  (.seq (.seq (.reg false [⟨(some 53), .mv (.t 11), none⟩, ⟨(some 54), .bin .lss (.t 53) (.c (.int .i64 0)), none⟩, ⟨(some 55), .mv (.t 54), none⟩, ⟨(some 56), .mv (.t 1), (some ((some 55), true))⟩, ⟨(some 57), .bin .lss (.t 56) (.c (.int .i32 0)), (some ((some 55), true))⟩, ⟨(some 58), .pick (.t 55) (.t 57) (.c (.bool false)), none⟩] [])
  (.cond (.t 58)
    (.reg false [⟨(some 59), .mv (.t 10), none⟩, ⟨(some 60), .bin .add (.t 59) (.c (.int .i64 1)), none⟩, ⟨(some 61), .mv (.t 11), none⟩, ⟨(some 62), .mv (.t 1), none⟩, ⟨(some 63), .conv .i64 (.t 62), none⟩, ⟨(some 64), .bin .sub (.t 61) (.t 63), none⟩, ⟨(some 10), .mv (.t 60), none⟩, ⟨(some 11), .mv (.t 64), none⟩] [])
    .skip))
  (.seq (.reg true [⟨(some 65), .load true 2 (.t 7), none⟩, ⟨(some 66), .mv (.t 10), none⟩, ⟨(some 67), .call 32 [(.t 66)], none⟩, ⟨(some 68), .call 29 [(.t 65), (.t 67)], none⟩, ⟨(some 69), .bin .eql (.t 68) (.c (.int .i64 0)), none⟩, ⟨(some 70), .mv (.t 69), none⟩, ⟨(some 71), .load true 2 (.t 8), (some ((some 70), true))⟩, ⟨(some 72), .mv (.t 11), (some ((some 70), true))⟩, ⟨(some 73), .call 32 [(.t 72)], (some ((some 70), true))⟩, ⟨(some 74), .call 29 [(.t 71), (.t 73)], (some ((some 70), true))⟩, ⟨(some 75), .bin .eql (.t 74) (.c (.int .i64 0)), (some ((some 70), true))⟩, ⟨(some 76), .pick (.t 70) (.t 75) (.c (.bool false)), none⟩, ⟨(some 77), .mv (.t 76), none⟩, ⟨(some 78), .load true 2 (.t 5), (some ((some 77), true))⟩, ⟨(some 79), .load true 2 (.t 6), (some ((some 77), true))⟩, ⟨(some 80), .call 30 [(.t 78), (.t 79)], (some ((some 77), true))⟩, ⟨(some 81), .mv (.t 0), (some ((some 77), true))⟩, ⟨(some 82), .conv .i64 (.t 81), (some ((some 77), true))⟩, ⟨(some 83), .mv (.t 1), (some ((some 77), true))⟩, ⟨(some 84), .conv .i64 (.t 83), (some ((some 77), true))⟩, ⟨(some 85), .bin .add (.t 82) (.t 84), (some ((some 77), true))⟩, ⟨(some 86), .call 32 [(.t 85)], (some ((some 77), true))⟩, ⟨(some 87), .call 29 [(.t 80), (.t 86)], (some ((some 77), true))⟩, ⟨(some 88), .bin .eql (.t 87) (.c (.int .i64 0)), (some ((some 77), true))⟩, ⟨(some 89), .pick (.t 77) (.t 88) (.c (.bool false)), none⟩, ⟨(some 90), .mv (.t 89), none⟩, ⟨(some 91), .load true 2 (.t 5), (some ((some 90), true))⟩, ⟨(some 92), .load true 2 (.t 6), (some ((some 90), true))⟩, ⟨(some 93), .call 31 [(.t 91), (.t 92)], (some ((some 90), true))⟩, ⟨(some 94), .mv (.t 0), (some ((some 90), true))⟩, ⟨(some 95), .conv .i64 (.t 94), (some ((some 90), true))⟩, ⟨(some 96), .mv (.t 1), (some ((some 90), true))⟩, ⟨(some 97), .conv .i64 (.t 96), (some ((some 90), true))⟩, ⟨(some 98), .bin .mul (.t 95) (.t 97), (some ((some 90), true))⟩, ⟨(some 99), .call 32 [(.t 98)], (some ((some 90), true))⟩, ⟨(some 100), .call 29 [(.t 93), (.t 99)], (some ((some 90), true))⟩, ⟨(some 101), .bin .eql (.t 100) (.c (.int .i64 0)), (some ((some 90), true))⟩, ⟨(some 102), .pick (.t 90) (.t 101) (.c (.bool false)), none⟩, ⟨(some 103), .mv (.t 102), none⟩, ⟨(some 104), .load true 2 (.t 5), (some ((some 103), true))⟩, ⟨(some 105), .load true 2 (.t 6), (some ((some 103), true))⟩, ⟨(some 106), .call 29 [(.t 104), (.t 105)], (some ((some 103), true))⟩, ⟨(some 107), .mv (.t 0), (some ((some 103), true))⟩, ⟨(some 108), .mv (.t 1), (some ((some 103), true))⟩, ⟨(some 109), .call 33 [(.t 107), (.t 108)], (some ((some 103), true))⟩, ⟨(some 110), .bin .eql (.t 106) (.t 109), (some ((some 103), true))⟩, ⟨(some 111), .pick (.t 103) (.t 110) (.c (.bool false)), none⟩, ⟨(some 4), .mv (.t 111), none⟩] [0, 0, 2, 7, 15, 31, 63, 63, 191, 511, 1023, 2047, 4095, 8191, 8191, 32767, 8191, 73727, 8191, 270335, 991231, 2097151, 4194303, 8388607, 16777215, 33554431, 67108863, 67108863, 268435455, 67108863, 603979775, 67108863, 2214592511, 8120172543, 17179869183, 34359738367, 68719476735, 137438953471, 274877906943, 549755813887, 549755813887, 2199023255551, 549755813887, 549755813887, 17592186044415, 35184372088831, 70368744177663, 140737488355327])
  .ret))))))))))
theorem ok6 : (Go.Proofs.Tryd.f6.body).bind (comp Go.Proofs.Tryd.prog) = some c6 := by kernel_rfl
end Go.Proofs.YtnildflhdkdbiaaDoorK.NatIr
