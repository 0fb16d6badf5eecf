/-
  The compiled bodies, printed: IrLNatSays.
-/
import Derived.Test.YtnildflhdkdbiaaGreatDoorVAb
import Derived.Test.YtnildflhdkdbiaaGreatDoorProg
set_option linter.all false
set_option linter.unusedVariables false
set_option linter.unusedSimpArgs false
set_option maxHeartbeats 4000000
namespace Go.Proofs.YtnildflhdkdbiaaGreatDoorV.NatIr
open Go.Proofs.YtnildflhdkdbiaaGreatDoorV.AI
/-- cubit/cubitlaw1.NatSays -/
def c3 : IR :=
  (.seq (.reg false [⟨(some 4), .mv (.c (.bool false)), none⟩] [])
  (.seq (.seq (.reg false [⟨(some 17), .call 13 [], none⟩, ⟨(some 18), .not (.t 17), none⟩] [])
  (.cond (.t 18)
    (.seq (.reg false [⟨(some 4), .mv (.c (.bool false)), none⟩] [])
    .ret)
    .skip))
  (.seq (.seq (.reg false [⟨(some 19), .mv (.t 0), none⟩, ⟨(some 20), .lenL (.t 19), none⟩, ⟨(some 21), .bin .gtr (.t 20) (.c (.int .i64 24)), none⟩, ⟨(some 22), .mv (.t 21), none⟩, ⟨(some 23), .mv (.t 1), (some ((some 22), false))⟩, ⟨(some 24), .lenL (.t 23), (some ((some 22), false))⟩, ⟨(some 25), .bin .gtr (.t 24) (.c (.int .i64 24)), (some ((some 22), false))⟩, ⟨(some 26), .pick (.t 22) (.c (.bool true)) (.t 25), none⟩] [])
  (.cond (.t 26)
    (.seq (.reg false [⟨(some 4), .mv (.c (.bool true)), none⟩] [])
    .ret)
    .skip))
  (.seq (.reg false [⟨(some 27), .mv (.t 0), none⟩, ⟨(some 28), .build [.nils] [(0, 1, (.t 27))], none⟩, ⟨(some 29), .mv (.t 1), none⟩, ⟨(some 30), .build [.nils] [(0, 1, (.t 29))], none⟩, ⟨(some 5), .new 25 1 [.nils], none⟩, ⟨(some 6), .new 25 1 [.nils], none⟩, ⟨none, .store 1 (.t 5) (.t 28), none⟩, ⟨none, .store 1 (.t 6) (.t 30), none⟩] [])
  (.seq (.reg false [⟨(some 31), .mv (.t 0), none⟩, ⟨(some 32), .call 14 [(.t 31)], none⟩, ⟨(some 33), .mv (.t 1), none⟩, ⟨(some 34), .call 14 [(.t 33)], none⟩, ⟨(some 7), .mv (.t 32), none⟩, ⟨(some 8), .mv (.t 34), none⟩] [])
  (.seq (.reg false [⟨(some 36), .load true 1 (.t 5), none⟩, ⟨(some 37), .load true 1 (.t 6), none⟩, ⟨(some 38), .call 15 [(.t 36), (.t 37)], none⟩, ⟨(some 35), .mv (.t 38), none⟩, ⟨(some 39), .ext (.t 35) 0, none⟩, ⟨(some 40), .ext (.t 35) 1, none⟩, ⟨(some 9), .new 25 1 [.nils], none⟩, ⟨none, .store 1 (.t 9) (.t 39), none⟩, ⟨(some 10), .mv (.t 40), none⟩] [])
  (.seq (.reg false [⟨(some 41), .mv (.t 7), none⟩, ⟨(some 42), .mv (.t 8), none⟩, ⟨(some 43), .call 16 [(.t 41), (.t 42)], none⟩, ⟨(some 44), .bin .geq (.t 43) (.c (.int .i64 0)), none⟩, ⟨(some 11), .mv (.t 44), none⟩] [])
  (.seq (.seq (.reg true [⟨(some 45), .mv (.t 10), none⟩, ⟨(some 46), .mv (.t 11), none⟩, ⟨(some 47), .beq true (.t 45) (.t 46), none⟩, ⟨(some 48), .mv (.t 47), none⟩, ⟨(some 49), .mv (.t 11), (some ((some 48), false))⟩, ⟨(some 50), .mv (.t 49), (some ((some 48), false))⟩, ⟨(some 51), .load true 1 (.t 9), (some ((some 50), true))⟩, ⟨(some 52), .mv (.t 7), (some ((some 50), true))⟩, ⟨(some 53), .mv (.t 8), (some ((some 50), true))⟩, ⟨(some 54), .call 18 [(.t 52), (.t 53)], (some ((some 50), true))⟩, ⟨(some 55), .call 17 [(.t 51), (.t 54)], (some ((some 50), true))⟩, ⟨(some 56), .not (.t 55), (some ((some 50), true))⟩, ⟨(some 57), .pick (.t 50) (.t 56) (.c (.bool false)), (some ((some 48), false))⟩, ⟨(some 58), .pick (.t 48) (.c (.bool true)) (.t 57), none⟩, ⟨(some 59), .mv (.t 58), none⟩, ⟨(some 60), .mv (.t 11), (some ((some 59), false))⟩, ⟨(some 61), .not (.t 60), (some ((some 59), false))⟩, ⟨(some 62), .mv (.t 61), (some ((some 59), false))⟩, ⟨(some 63), .faddr 0 (.t 9), (some ((some 62), true))⟩, ⟨(some 64), .load false 1 (.t 63), (some ((some 62), true))⟩, ⟨(some 65), .lenL (.t 64), (some ((some 62), true))⟩, ⟨(some 66), .bin .neq (.t 65) (.c (.int .i64 0)), (some ((some 62), true))⟩, ⟨(some 67), .pick (.t 62) (.t 66) (.c (.bool false)), (some ((some 59), false))⟩, ⟨(some 68), .pick (.t 59) (.c (.bool true)) (.t 67), none⟩] [0, 0, 3, 7, 15, 31, 63, 63, 63, 447, 1023, 2047, 4095, 8191, 16383, 32767, 65535, 131071, 262143, 524287, 1048575, 2097151, 4194303, 8388607])
  (.cond (.t 68)
    (.seq (.reg false [⟨(some 4), .mv (.c (.bool false)), none⟩] [])
    .ret)
    .skip))
  (.seq (.reg false [⟨(some 70), .load true 1 (.t 5), none⟩, ⟨(some 71), .load true 1 (.t 6), none⟩, ⟨(some 72), .call 19 [(.t 70), (.t 71)], none⟩, ⟨(some 69), .mv (.t 72), none⟩, ⟨(some 73), .ext (.t 69) 0, none⟩, ⟨(some 74), .ext (.t 69) 1, none⟩, ⟨(some 75), .ext (.t 69) 2, none⟩, ⟨(some 12), .new 25 1 [.nils], none⟩, ⟨(some 13), .new 25 1 [.nils], none⟩, ⟨none, .store 1 (.t 12) (.t 73), none⟩, ⟨none, .store 1 (.t 13) (.t 74), none⟩, ⟨(some 14), .mv (.t 75), none⟩] [])
  (.seq (.seq (.reg false [⟨(some 76), .mv (.t 14), none⟩, ⟨(some 77), .mv (.t 8), none⟩, ⟨(some 78), .lenL (.t 77), none⟩, ⟨(some 79), .bin .gtr (.t 78) (.c (.int .i64 0)), none⟩, ⟨(some 80), .beq true (.t 76) (.t 79), none⟩, ⟨(some 81), .mv (.t 80), none⟩, ⟨(some 82), .mv (.t 14), (some ((some 81), false))⟩, ⟨(some 83), .not (.t 82), (some ((some 81), false))⟩, ⟨(some 84), .mv (.t 83), (some ((some 81), false))⟩, ⟨(some 85), .faddr 0 (.t 12), (some ((some 84), true))⟩, ⟨(some 86), .load false 1 (.t 85), (some ((some 84), true))⟩, ⟨(some 87), .lenL (.t 86), (some ((some 84), true))⟩, ⟨(some 88), .faddr 0 (.t 13), (some ((some 84), true))⟩, ⟨(some 89), .load false 1 (.t 88), (some ((some 84), true))⟩, ⟨(some 90), .lenL (.t 89), (some ((some 84), true))⟩, ⟨(some 91), .bin .add (.t 87) (.t 90), (some ((some 84), true))⟩, ⟨(some 92), .bin .neq (.t 91) (.c (.int .i64 0)), (some ((some 84), true))⟩, ⟨(some 93), .pick (.t 84) (.t 92) (.c (.bool false)), (some ((some 81), false))⟩, ⟨(some 94), .pick (.t 81) (.c (.bool true)) (.t 93), none⟩] [])
  (.cond (.t 94)
    (.seq (.reg false [⟨(some 4), .mv (.c (.bool false)), none⟩] [])
    .ret)
    .skip))
  (.seq (.seq (.reg false [⟨(some 95), .mv (.t 14), none⟩] [])
  (.cond (.t 95)
    (.seq (.reg false [⟨(some 97), .mv (.t 7), none⟩, ⟨(some 98), .mv (.t 8), none⟩, ⟨(some 99), .call 20 [(.t 97), (.t 98)], none⟩, ⟨(some 96), .mv (.t 99), none⟩, ⟨(some 100), .ext (.t 96) 0, none⟩, ⟨(some 101), .ext (.t 96) 1, none⟩, ⟨(some 15), .mv (.t 100), none⟩, ⟨(some 16), .mv (.t 101), none⟩] [])
    (.seq (.reg false [⟨(some 102), .load true 1 (.t 12), none⟩, ⟨(some 103), .mv (.t 15), none⟩, ⟨(some 104), .call 17 [(.t 102), (.t 103)], none⟩, ⟨(some 105), .not (.t 104), none⟩, ⟨(some 106), .mv (.t 105), none⟩, ⟨(some 107), .load true 1 (.t 13), (some ((some 106), false))⟩, ⟨(some 108), .mv (.t 16), (some ((some 106), false))⟩, ⟨(some 109), .call 17 [(.t 107), (.t 108)], (some ((some 106), false))⟩, ⟨(some 110), .not (.t 109), (some ((some 106), false))⟩, ⟨(some 111), .pick (.t 106) (.c (.bool true)) (.t 110), none⟩] [])
    (.cond (.t 111)
      (.seq (.reg false [⟨(some 4), .mv (.c (.bool false)), none⟩] [])
      .ret)
      .skip)))
    .skip))
  (.seq (.reg false [⟨(some 112), .load true 1 (.t 5), none⟩, ⟨(some 113), .load true 1 (.t 6), none⟩, ⟨(some 114), .call 21 [(.t 112), (.t 113)], none⟩, ⟨(some 115), .mv (.t 7), none⟩, ⟨(some 116), .mv (.t 8), none⟩, ⟨(some 117), .call 16 [(.t 115), (.t 116)], none⟩, ⟨(some 118), .bin .eql (.t 114) (.t 117), none⟩, ⟨(some 119), .mv (.t 118), none⟩, ⟨(some 120), .load true 1 (.t 5), (some ((some 119), true))⟩, ⟨(some 121), .load true 1 (.t 6), (some ((some 119), true))⟩, ⟨(some 122), .call 22 [(.t 120), (.t 121)], (some ((some 119), true))⟩, ⟨(some 123), .mv (.t 7), (some ((some 119), true))⟩, ⟨(some 124), .mv (.t 8), (some ((some 119), true))⟩, ⟨(some 125), .call 23 [(.t 123), (.t 124)], (some ((some 119), true))⟩, ⟨(some 126), .call 17 [(.t 122), (.t 125)], (some ((some 119), true))⟩, ⟨(some 127), .pick (.t 119) (.t 126) (.c (.bool false)), none⟩, ⟨(some 128), .mv (.t 127), none⟩, ⟨(some 129), .load true 1 (.t 5), (some ((some 128), true))⟩, ⟨(some 130), .load true 1 (.t 6), (some ((some 128), true))⟩, ⟨(some 131), .call 24 [(.t 129), (.t 130)], (some ((some 128), true))⟩, ⟨(some 132), .mv (.t 7), (some ((some 128), true))⟩, ⟨(some 133), .mv (.t 8), (some ((some 128), true))⟩, ⟨(some 134), .call 25 [(.t 132), (.t 133)], (some ((some 128), true))⟩, ⟨(some 135), .call 17 [(.t 131), (.t 134)], (some ((some 128), true))⟩, ⟨(some 136), .pick (.t 128) (.t 135) (.c (.bool false)), none⟩, ⟨(some 137), .mv (.t 136), none⟩, ⟨(some 138), .load true 1 (.t 5), (some ((some 137), true))⟩, ⟨(some 139), .call 26 [(.t 138)], (some ((some 137), true))⟩, ⟨(some 140), .mv (.t 7), (some ((some 137), true))⟩, ⟨(some 141), .call 27 [(.t 140)], (some ((some 137), true))⟩, ⟨(some 142), .bin .eql (.t 139) (.t 141), (some ((some 137), true))⟩, ⟨(some 143), .pick (.t 137) (.t 142) (.c (.bool false)), none⟩, ⟨(some 144), .mv (.t 143), none⟩, ⟨(some 145), .load true 1 (.t 5), (some ((some 144), true))⟩, ⟨(some 146), .load true 1 (.t 6), (some ((some 144), true))⟩, ⟨(some 147), .call 28 [(.t 145), (.t 146)], (some ((some 144), true))⟩, ⟨(some 148), .mv (.t 7), (some ((some 144), true))⟩, ⟨(some 149), .mv (.t 8), (some ((some 144), true))⟩, ⟨(some 150), .call 29 [(.t 148), (.t 149)], (some ((some 144), true))⟩, ⟨(some 151), .call 17 [(.t 147), (.t 150)], (some ((some 144), true))⟩, ⟨(some 152), .pick (.t 144) (.t 151) (.c (.bool false)), none⟩, ⟨(some 4), .mv (.t 152), none⟩] [])
  .ret))))))))))))
theorem ok3 : (Go.Proofs.Tryz.f3.body).bind (comp Go.Proofs.Tryz.prog) = some c3 := by kernel_rfl
end Go.Proofs.YtnildflhdkdbiaaGreatDoorV.NatIr
