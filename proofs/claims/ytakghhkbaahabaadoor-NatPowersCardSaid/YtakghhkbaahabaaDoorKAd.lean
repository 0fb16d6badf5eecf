/-
  The compiled bodies, printed.
-/
import Derived.Test.YtakghhkbaahabaaDoorKAb
import Derived.Test.YtakghhkbaahabaaDoorProg
set_option linter.all false
set_option linter.unusedVariables false
set_option linter.unusedSimpArgs false
set_option maxHeartbeats 4000000
namespace Go.Proofs.YtakghhkbaahabaaDoorK.NatIr
open Go.Proofs.YtakghhkbaahabaaDoorK.AI
/-- cubit/cubitlaw1.NatTexts -/
def c3 : IR :=
  (.seq (.reg false [⟨(some 6), .mv (.c (.bool false)), none⟩] [])
  (.seq (.seq (.reg false [⟨(some 14), .call 11 [], none⟩, ⟨(some 15), .not (.t 14), none⟩] [])
  (.cond (.t 15)
    (.seq (.reg false [⟨(some 6), .mv (.c (.bool false)), none⟩] [])
    .ret)
    .skip))
  (.seq (.seq (.reg false [⟨(some 16), .mv (.t 0), none⟩, ⟨(some 17), .lenS (.t 16), none⟩, ⟨(some 18), .bin .gtr (.t 17) (.c (.int .i64 200)), none⟩, ⟨(some 19), .mv (.t 18), none⟩, ⟨(some 20), .mv (.t 1), (some ((some 19), false))⟩, ⟨(some 21), .lenL (.t 20), (some ((some 19), false))⟩, ⟨(some 22), .bin .gtr (.t 21) (.c (.int .i64 8)), (some ((some 19), false))⟩, ⟨(some 23), .pick (.t 19) (.c (.bool true)) (.t 22), none⟩, ⟨(some 24), .mv (.t 23), none⟩, ⟨(some 25), .mv (.t 2), (some ((some 24), false))⟩, ⟨(some 26), .bin .gtr (.t 25) (.c (.int .i64 30)), (some ((some 24), false))⟩, ⟨(some 27), .pick (.t 24) (.c (.bool true)) (.t 26), none⟩] [])
  (.cond (.t 27)
    (.seq (.reg false [⟨(some 6), .mv (.c (.bool true)), none⟩] [])
    .ret)
    .skip))
  (.seq (.reg false [⟨(some 29), .mv (.t 0), none⟩, ⟨(some 30), .call 12 [(.t 29)], none⟩, ⟨(some 28), .mv (.t 30), none⟩, ⟨(some 31), .ext (.t 28) 0, none⟩, ⟨(some 32), .ext (.t 28) 1, none⟩, ⟨(some 7), .new 25 1 [.nils], none⟩, ⟨none, .store 1 (.t 7) (.t 31), none⟩, ⟨(some 8), .mv (.t 32), none⟩] [])
  (.seq (.reg false [⟨(some 34), .mv (.t 0), none⟩, ⟨(some 35), .call 13 [(.t 34)], none⟩, ⟨(some 33), .mv (.t 35), none⟩, ⟨(some 36), .ext (.t 33) 0, none⟩, ⟨(some 37), .ext (.t 33) 1, none⟩, ⟨(some 9), .mv (.t 36), none⟩, ⟨(some 10), .mv (.t 37), none⟩] [])
  (.seq (.seq (.reg false [⟨(some 38), .mv (.t 8), none⟩, ⟨(some 39), .mv (.t 10), none⟩, ⟨(some 40), .beq true (.t 38) (.t 39), none⟩, ⟨(some 41), .mv (.t 40), none⟩, ⟨(some 42), .mv (.t 8), (some ((some 41), false))⟩, ⟨(some 43), .mv (.t 42), (some ((some 41), false))⟩, ⟨(some 44), .load true 1 (.t 7), (some ((some 43), true))⟩, ⟨(some 45), .mv (.t 9), (some ((some 43), true))⟩, ⟨(some 46), .call 14 [(.t 44), (.t 45)], (some ((some 43), true))⟩, ⟨(some 47), .not (.t 46), (some ((some 43), true))⟩, ⟨(some 48), .pick (.t 43) (.t 47) (.c (.bool false)), (some ((some 41), false))⟩, ⟨(some 49), .pick (.t 41) (.c (.bool true)) (.t 48), none⟩, ⟨(some 50), .mv (.t 49), none⟩, ⟨(some 51), .mv (.t 8), (some ((some 50), false))⟩, ⟨(some 52), .not (.t 51), (some ((some 50), false))⟩, ⟨(some 53), .mv (.t 52), (some ((some 50), false))⟩, ⟨(some 54), .faddr 0 (.t 7), (some ((some 53), true))⟩, ⟨(some 55), .load false 1 (.t 54), (some ((some 53), true))⟩, ⟨(some 56), .lenL (.t 55), (some ((some 53), true))⟩, ⟨(some 57), .bin .neq (.t 56) (.c (.int .i64 0)), (some ((some 53), true))⟩, ⟨(some 58), .pick (.t 53) (.t 57) (.c (.bool false)), (some ((some 50), false))⟩, ⟨(some 59), .pick (.t 50) (.c (.bool true)) (.t 58), none⟩] [])
  (.cond (.t 59)
    (.seq (.reg false [⟨(some 6), .mv (.c (.bool false)), none⟩] [])
    .ret)
    .skip))
  (.seq (.reg false [⟨(some 60), .mv (.t 1), none⟩, ⟨(some 61), .build [.nils] [(0, 1, (.t 60))], none⟩, ⟨(some 11), .new 25 1 [.nils], none⟩, ⟨none, .store 1 (.t 11) (.t 61), none⟩] [])
  (.seq (.reg false [⟨(some 63), .load true 1 (.t 11), none⟩, ⟨(some 64), .call 15 [(.t 63)], none⟩, ⟨(some 65), .call 12 [(.t 64)], none⟩, ⟨(some 62), .mv (.t 65), none⟩, ⟨(some 66), .ext (.t 62) 0, none⟩, ⟨(some 67), .ext (.t 62) 1, none⟩, ⟨(some 12), .new 25 1 [.nils], none⟩, ⟨none, .store 1 (.t 12) (.t 66), none⟩, ⟨(some 13), .mv (.t 67), none⟩] [])
  (.seq (.reg true [⟨(some 68), .mv (.t 13), none⟩, ⟨(some 69), .mv (.t 68), none⟩, ⟨(some 70), .load true 1 (.t 12), (some ((some 69), true))⟩, ⟨(some 71), .mv (.t 1), (some ((some 69), true))⟩, ⟨(some 72), .call 16 [(.t 71)], (some ((some 69), true))⟩, ⟨(some 73), .call 14 [(.t 70), (.t 72)], (some ((some 69), true))⟩, ⟨(some 74), .pick (.t 69) (.t 73) (.c (.bool false)), none⟩, ⟨(some 75), .mv (.t 74), none⟩, ⟨(some 76), .load true 1 (.t 11), (some ((some 75), true))⟩, ⟨(some 77), .mv (.t 2), (some ((some 75), true))⟩, ⟨(some 78), .call 17 [(.t 76), (.t 77)], (some ((some 75), true))⟩, ⟨(some 79), .mv (.t 1), (some ((some 75), true))⟩, ⟨(some 80), .call 16 [(.t 79)], (some ((some 75), true))⟩, ⟨(some 81), .mv (.t 2), (some ((some 75), true))⟩, ⟨(some 82), .call 18 [(.t 80), (.t 81)], (some ((some 75), true))⟩, ⟨(some 83), .call 14 [(.t 78), (.t 82)], (some ((some 75), true))⟩, ⟨(some 84), .pick (.t 75) (.t 83) (.c (.bool false)), none⟩, ⟨(some 6), .mv (.t 84), none⟩] [0, 1, 3, 3, 11, 31, 63, 127, 255, 255, 1023, 255, 4095, 255, 16383, 32767, 65535, 131071])
  .ret)))))))))
/-- cubit/cubitlaw1.NatPowers -/
def c4 : IR :=
  (.seq (.reg false [⟨(some 6), .mv (.c (.bool false)), none⟩] [])
  (.seq (.seq (.reg false [⟨(some 8), .call 11 [], none⟩, ⟨(some 9), .not (.t 8), none⟩] [])
  (.cond (.t 9)
    (.seq (.reg false [⟨(some 6), .mv (.c (.bool false)), none⟩] [])
    .ret)
    .skip))
  (.seq (.seq (.reg false [⟨(some 10), .mv (.t 0), none⟩, ⟨(some 11), .lenL (.t 10), none⟩, ⟨(some 12), .bin .gtr (.t 11) (.c (.int .i64 4)), none⟩, ⟨(some 13), .mv (.t 12), none⟩, ⟨(some 14), .mv (.t 1), (some ((some 13), false))⟩, ⟨(some 15), .bin .lss (.t 14) (.c (.int .i64 0)), (some ((some 13), false))⟩, ⟨(some 16), .pick (.t 13) (.c (.bool true)) (.t 15), none⟩, ⟨(some 17), .mv (.t 16), none⟩, ⟨(some 18), .mv (.t 1), (some ((some 17), false))⟩, ⟨(some 19), .bin .gtr (.t 18) (.c (.int .i64 12)), (some ((some 17), false))⟩, ⟨(some 20), .pick (.t 17) (.c (.bool true)) (.t 19), none⟩, ⟨(some 21), .mv (.t 20), none⟩, ⟨(some 22), .mv (.t 2), (some ((some 21), false))⟩, ⟨(some 23), .bin .lss (.t 22) (.c (.int .i64 0)), (some ((some 21), false))⟩, ⟨(some 24), .pick (.t 21) (.c (.bool true)) (.t 23), none⟩, ⟨(some 25), .mv (.t 24), none⟩, ⟨(some 26), .mv (.t 2), (some ((some 25), false))⟩, ⟨(some 27), .bin .gtr (.t 26) (.c (.int .i64 12)), (some ((some 25), false))⟩, ⟨(some 28), .pick (.t 25) (.c (.bool true)) (.t 27), none⟩] [])
  (.cond (.t 28)
    (.seq (.reg false [⟨(some 6), .mv (.c (.bool true)), none⟩] [])
    .ret)
    .skip))
  (.seq (.reg false [⟨(some 29), .mv (.t 0), none⟩, ⟨(some 30), .build [.nils] [(0, 1, (.t 29))], none⟩, ⟨(some 7), .new 25 1 [.nils], none⟩, ⟨none, .store 1 (.t 7) (.t 30), none⟩] [])
  (.seq (.reg true [⟨(some 31), .load true 1 (.t 7), none⟩, ⟨(some 32), .mv (.t 1), none⟩, ⟨(some 33), .call 17 [(.t 31), (.t 32)], none⟩, ⟨(some 34), .load true 1 (.t 7), none⟩, ⟨(some 35), .mv (.t 2), none⟩, ⟨(some 36), .call 17 [(.t 34), (.t 35)], none⟩, ⟨(some 37), .call 20 [(.t 33), (.t 36)], none⟩, ⟨(some 38), .load true 1 (.t 7), none⟩, ⟨(some 39), .mv (.t 1), none⟩, ⟨(some 40), .mv (.t 2), none⟩, ⟨(some 41), .bin .add (.t 39) (.t 40), none⟩, ⟨(some 42), .call 17 [(.t 38), (.t 41)], none⟩, ⟨(some 43), .call 19 [(.t 37), (.t 42)], none⟩, ⟨(some 44), .bin .eql (.t 43) (.c (.int .i64 0)), none⟩, ⟨(some 45), .mv (.t 44), none⟩, ⟨(some 46), .load true 1 (.t 7), (some ((some 45), true))⟩, ⟨(some 47), .call 17 [(.t 46), (.c (.int .i64 1))], (some ((some 45), true))⟩, ⟨(some 48), .load true 1 (.t 7), (some ((some 45), true))⟩, ⟨(some 49), .call 19 [(.t 47), (.t 48)], (some ((some 45), true))⟩, ⟨(some 50), .bin .eql (.t 49) (.c (.int .i64 0)), (some ((some 45), true))⟩, ⟨(some 51), .pick (.t 45) (.t 50) (.c (.bool false)), none⟩, ⟨(some 6), .mv (.t 51), none⟩] [0, 0, 3, 0, 0, 31, 63, 0, 0, 0, 768, 2047, 4095, 8191, 16383, 32767, 65535, 32767, 262143, 524287, 1048575, 2097151])
  .ret)))))
/-- cubit/cubitlaw1.NatLaws -/
def c5 : IR :=
  (.seq (.reg false [⟨(some 6), .mv (.c (.bool false)), none⟩] [])
  (.seq (.seq (.reg false [⟨(some 12), .call 11 [], none⟩, ⟨(some 13), .not (.t 12), none⟩] [])
  (.cond (.t 13)
    (.seq (.reg false [⟨(some 6), .mv (.c (.bool false)), none⟩] [])
    .ret)
    .skip))
  (.seq (.seq (.reg false [⟨(some 14), .mv (.t 0), none⟩, ⟨(some 15), .lenL (.t 14), none⟩, ⟨(some 16), .bin .gtr (.t 15) (.c (.int .i64 24)), none⟩, ⟨(some 17), .mv (.t 16), none⟩, ⟨(some 18), .mv (.t 1), (some ((some 17), false))⟩, ⟨(some 19), .lenL (.t 18), (some ((some 17), false))⟩, ⟨(some 20), .bin .gtr (.t 19) (.c (.int .i64 24)), (some ((some 17), false))⟩, ⟨(some 21), .pick (.t 17) (.c (.bool true)) (.t 20), none⟩, ⟨(some 22), .mv (.t 21), none⟩, ⟨(some 23), .mv (.t 2), (some ((some 22), false))⟩, ⟨(some 24), .lenL (.t 23), (some ((some 22), false))⟩, ⟨(some 25), .bin .gtr (.t 24) (.c (.int .i64 24)), (some ((some 22), false))⟩, ⟨(some 26), .pick (.t 22) (.c (.bool true)) (.t 25), none⟩] [])
  (.cond (.t 26)
    (.seq (.reg false [⟨(some 6), .mv (.c (.bool true)), none⟩] [])
    .ret)
    .skip))
  (.seq (.reg false [⟨(some 27), .mv (.t 0), none⟩, ⟨(some 28), .build [.nils] [(0, 1, (.t 27))], none⟩, ⟨(some 29), .mv (.t 1), none⟩, ⟨(some 30), .build [.nils] [(0, 1, (.t 29))], none⟩, ⟨(some 31), .mv (.t 2), none⟩, ⟨(some 32), .build [.nils] [(0, 1, (.t 31))], none⟩, ⟨(some 7), .new 25 1 [.nils], none⟩, ⟨(some 8), .new 25 1 [.nils], none⟩, ⟨(some 9), .new 25 1 [.nils], none⟩, ⟨none, .store 1 (.t 7) (.t 28), none⟩, ⟨none, .store 1 (.t 8) (.t 30), none⟩, ⟨none, .store 1 (.t 9) (.t 32), none⟩] [])
  (.seq (.reg true [⟨(some 34), .load true 1 (.t 7), none⟩, ⟨(some 35), .load true 1 (.t 8), none⟩, ⟨(some 36), .call 22 [(.t 34), (.t 35)], none⟩, ⟨(some 37), .load true 1 (.t 8), none⟩, ⟨(some 38), .call 21 [(.t 36), (.t 37)], none⟩, ⟨(some 33), .mv (.t 38), none⟩, ⟨(some 39), .ext (.t 33) 0, none⟩, ⟨(some 40), .ext (.t 33) 1, none⟩, ⟨(some 10), .new 25 1 [.nils], none⟩, ⟨none, .store 1 (.t 10) (.t 39), none⟩, ⟨(some 11), .mv (.t 40), none⟩] [0, 0, 3, 0, 15, 31, 63, 63, 0, 383, 1023])
  (.seq (.reg true [⟨(some 41), .load true 1 (.t 7), none⟩, ⟨(some 42), .load true 1 (.t 8), none⟩, ⟨(some 43), .call 22 [(.t 41), (.t 42)], none⟩, ⟨(some 44), .load true 1 (.t 8), none⟩, ⟨(some 45), .load true 1 (.t 7), none⟩, ⟨(some 46), .call 22 [(.t 44), (.t 45)], none⟩, ⟨(some 47), .call 19 [(.t 43), (.t 46)], none⟩, ⟨(some 48), .bin .eql (.t 47) (.c (.int .i64 0)), none⟩, ⟨(some 49), .mv (.t 48), none⟩, ⟨(some 50), .load true 1 (.t 7), (some ((some 49), true))⟩, ⟨(some 51), .load true 1 (.t 8), (some ((some 49), true))⟩, ⟨(some 52), .call 20 [(.t 50), (.t 51)], (some ((some 49), true))⟩, ⟨(some 53), .load true 1 (.t 8), (some ((some 49), true))⟩, ⟨(some 54), .load true 1 (.t 7), (some ((some 49), true))⟩, ⟨(some 55), .call 20 [(.t 53), (.t 54)], (some ((some 49), true))⟩, ⟨(some 56), .call 19 [(.t 52), (.t 55)], (some ((some 49), true))⟩, ⟨(some 57), .bin .eql (.t 56) (.c (.int .i64 0)), (some ((some 49), true))⟩, ⟨(some 58), .pick (.t 49) (.t 57) (.c (.bool false)), none⟩, ⟨(some 59), .mv (.t 58), none⟩, ⟨(some 60), .load true 1 (.t 7), (some ((some 59), true))⟩, ⟨(some 61), .load true 1 (.t 8), (some ((some 59), true))⟩, ⟨(some 62), .call 22 [(.t 60), (.t 61)], (some ((some 59), true))⟩, ⟨(some 63), .load true 1 (.t 9), (some ((some 59), true))⟩, ⟨(some 64), .call 22 [(.t 62), (.t 63)], (some ((some 59), true))⟩, ⟨(some 65), .load true 1 (.t 7), (some ((some 59), true))⟩, ⟨(some 66), .load true 1 (.t 8), (some ((some 59), true))⟩, ⟨(some 67), .load true 1 (.t 9), (some ((some 59), true))⟩, ⟨(some 68), .call 22 [(.t 66), (.t 67)], (some ((some 59), true))⟩, ⟨(some 69), .call 22 [(.t 65), (.t 68)], (some ((some 59), true))⟩, ⟨(some 70), .call 19 [(.t 64), (.t 69)], (some ((some 59), true))⟩, ⟨(some 71), .bin .eql (.t 70) (.c (.int .i64 0)), (some ((some 59), true))⟩, ⟨(some 72), .pick (.t 59) (.t 71) (.c (.bool false)), none⟩, ⟨(some 73), .mv (.t 72), none⟩, ⟨(some 74), .load true 1 (.t 7), (some ((some 73), true))⟩, ⟨(some 75), .load true 1 (.t 8), (some ((some 73), true))⟩, ⟨(some 76), .call 20 [(.t 74), (.t 75)], (some ((some 73), true))⟩, ⟨(some 77), .load true 1 (.t 9), (some ((some 73), true))⟩, ⟨(some 78), .call 20 [(.t 76), (.t 77)], (some ((some 73), true))⟩, ⟨(some 79), .load true 1 (.t 7), (some ((some 73), true))⟩, ⟨(some 80), .load true 1 (.t 8), (some ((some 73), true))⟩, ⟨(some 81), .load true 1 (.t 9), (some ((some 73), true))⟩, ⟨(some 82), .call 20 [(.t 80), (.t 81)], (some ((some 73), true))⟩, ⟨(some 83), .call 20 [(.t 79), (.t 82)], (some ((some 73), true))⟩, ⟨(some 84), .call 19 [(.t 78), (.t 83)], (some ((some 73), true))⟩, ⟨(some 85), .bin .eql (.t 84) (.c (.int .i64 0)), (some ((some 73), true))⟩, ⟨(some 86), .pick (.t 73) (.t 85) (.c (.bool false)), none⟩, ⟨(some 87), .mv (.t 86), none⟩, ⟨(some 88), .load true 1 (.t 7), (some ((some 87), true))⟩, ⟨(some 89), .load true 1 (.t 8), (some ((some 87), true))⟩, ⟨(some 90), .load true 1 (.t 9), (some ((some 87), true))⟩, ⟨(some 91), .call 22 [(.t 89), (.t 90)], (some ((some 87), true))⟩, ⟨(some 92), .call 20 [(.t 88), (.t 91)], (some ((some 87), true))⟩, ⟨(some 93), .load true 1 (.t 7), (some ((some 87), true))⟩, ⟨(some 94), .load true 1 (.t 8), (some ((some 87), true))⟩, ⟨(some 95), .call 20 [(.t 93), (.t 94)], (some ((some 87), true))⟩, ⟨(some 96), .load true 1 (.t 7), (some ((some 87), true))⟩, ⟨(some 97), .load true 1 (.t 9), (some ((some 87), true))⟩, ⟨(some 98), .call 20 [(.t 96), (.t 97)], (some ((some 87), true))⟩, ⟨(some 99), .call 22 [(.t 95), (.t 98)], (some ((some 87), true))⟩, ⟨(some 100), .call 19 [(.t 92), (.t 99)], (some ((some 87), true))⟩, ⟨(some 101), .bin .eql (.t 100) (.c (.int .i64 0)), (some ((some 87), true))⟩, ⟨(some 102), .pick (.t 87) (.t 101) (.c (.bool false)), none⟩, ⟨(some 103), .mv (.t 102), none⟩, ⟨(some 104), .mv (.t 11), (some ((some 103), true))⟩, ⟨(some 105), .pick (.t 103) (.t 104) (.c (.bool false)), none⟩, ⟨(some 106), .mv (.t 105), none⟩, ⟨(some 107), .load true 1 (.t 10), (some ((some 106), true))⟩, ⟨(some 108), .load true 1 (.t 7), (some ((some 106), true))⟩, ⟨(some 109), .call 19 [(.t 107), (.t 108)], (some ((some 106), true))⟩, ⟨(some 110), .bin .eql (.t 109) (.c (.int .i64 0)), (some ((some 106), true))⟩, ⟨(some 111), .pick (.t 106) (.t 110) (.c (.bool false)), none⟩, ⟨(some 6), .mv (.t 111), none⟩] [0, 0, 3, 0, 0, 31, 63, 127, 255, 511, 511, 2047, 511, 511, 16383, 32767, 65535, 131071, 262143, 524287, 524287, 2097151, 524287, 8388607, 524287, 524287, 524287, 117440511, 268435455, 536870911, 1073741823, 2147483647, 4294967295, 8589934591, 8589934591, 34359738367, 8589934591, 137438953471, 8589934591, 8589934591, 8589934591, 1924145348607, 4398046511103, 8796093022207, 17592186044415, 35184372088831, 70368744177663, 140737488355327, 140737488355327, 140737488355327, 985162418487295, 2251799813685247, 140737488355327, 140737488355327, 18014398509481983, 140737488355327, 140737488355327, 144115188075855871, 288230376151711743, 576460752303423487, 1152921504606846975, 2305843009213693951, 4611686018427387903, 9223372036854775807, 18446744073709551615, 36893488147419103231, 73786976294838206463, 73786976294838206463, 295147905179352825855, 590295810358705651711, 1180591620717411303423, 2361183241434822606847])
  .ret))))))
/-- cubit/cubitlaw1.NatOrder -/
def c6 : IR :=
  (.seq (.reg false [⟨(some 6), .mv (.c (.bool false)), none⟩] [])
  (.seq (.seq (.reg false [⟨(some 14), .call 11 [], none⟩, ⟨(some 15), .not (.t 14), none⟩] [])
  (.cond (.t 15)
    (.seq (.reg false [⟨(some 6), .mv (.c (.bool false)), none⟩] [])
    .ret)
    .skip))
  (.seq (.seq (.reg false [⟨(some 16), .mv (.t 0), none⟩, ⟨(some 17), .lenL (.t 16), none⟩, ⟨(some 18), .bin .gtr (.t 17) (.c (.int .i64 24)), none⟩, ⟨(some 19), .mv (.t 18), none⟩, ⟨(some 20), .mv (.t 1), (some ((some 19), false))⟩, ⟨(some 21), .lenL (.t 20), (some ((some 19), false))⟩, ⟨(some 22), .bin .gtr (.t 21) (.c (.int .i64 24)), (some ((some 19), false))⟩, ⟨(some 23), .pick (.t 19) (.c (.bool true)) (.t 22), none⟩, ⟨(some 24), .mv (.t 23), none⟩, ⟨(some 25), .mv (.t 2), (some ((some 24), false))⟩, ⟨(some 26), .lenL (.t 25), (some ((some 24), false))⟩, ⟨(some 27), .bin .gtr (.t 26) (.c (.int .i64 24)), (some ((some 24), false))⟩, ⟨(some 28), .pick (.t 24) (.c (.bool true)) (.t 27), none⟩] [])
  (.cond (.t 28)
    (.seq (.reg false [⟨(some 6), .mv (.c (.bool true)), none⟩] [])
    .ret)
    .skip))
  (.seq (.reg false [⟨(some 29), .mv (.t 0), none⟩, ⟨(some 30), .build [.nils] [(0, 1, (.t 29))], none⟩, ⟨(some 31), .mv (.t 1), none⟩, ⟨(some 32), .build [.nils] [(0, 1, (.t 31))], none⟩, ⟨(some 33), .mv (.t 2), none⟩, ⟨(some 34), .build [.nils] [(0, 1, (.t 33))], none⟩, ⟨(some 7), .new 25 1 [.nils], none⟩, ⟨(some 8), .new 25 1 [.nils], none⟩, ⟨(some 9), .new 25 1 [.nils], none⟩, ⟨none, .store 1 (.t 7) (.t 30), none⟩, ⟨none, .store 1 (.t 8) (.t 32), none⟩, ⟨none, .store 1 (.t 9) (.t 34), none⟩] [])
  (.seq (.reg true [⟨(some 35), .load true 1 (.t 7), none⟩, ⟨(some 36), .load true 1 (.t 8), none⟩, ⟨(some 37), .call 19 [(.t 35), (.t 36)], none⟩, ⟨(some 38), .load true 1 (.t 8), none⟩, ⟨(some 39), .load true 1 (.t 9), none⟩, ⟨(some 40), .call 19 [(.t 38), (.t 39)], none⟩, ⟨(some 10), .mv (.t 37), none⟩, ⟨(some 11), .mv (.t 40), none⟩] [0, 0, 3, 0, 0, 31, 63, 127])
  (.seq (.seq (.reg false [⟨(some 41), .mv (.t 10), none⟩, ⟨(some 42), .bin .leq (.t 41) (.c (.int .i64 0)), none⟩, ⟨(some 43), .mv (.t 42), none⟩, ⟨(some 44), .mv (.t 11), (some ((some 43), true))⟩, ⟨(some 45), .bin .leq (.t 44) (.c (.int .i64 0)), (some ((some 43), true))⟩, ⟨(some 46), .pick (.t 43) (.t 45) (.c (.bool false)), none⟩, ⟨(some 47), .mv (.t 46), none⟩, ⟨(some 48), .load true 1 (.t 7), (some ((some 47), true))⟩, ⟨(some 49), .load true 1 (.t 9), (some ((some 47), true))⟩, ⟨(some 50), .call 19 [(.t 48), (.t 49)], (some ((some 47), true))⟩, ⟨(some 51), .bin .gtr (.t 50) (.c (.int .i64 0)), (some ((some 47), true))⟩, ⟨(some 52), .pick (.t 47) (.t 51) (.c (.bool false)), none⟩, ⟨(some 53), .mv (.t 52), none⟩, ⟨(some 54), .mv (.t 10), (some ((some 53), false))⟩, ⟨(some 55), .load true 1 (.t 8), (some ((some 53), false))⟩, ⟨(some 56), .load true 1 (.t 7), (some ((some 53), false))⟩, ⟨(some 57), .call 19 [(.t 55), (.t 56)], (some ((some 53), false))⟩, ⟨(some 58), .neg (.t 57), (some ((some 53), false))⟩, ⟨(some 59), .bin .neq (.t 54) (.t 58), (some ((some 53), false))⟩, ⟨(some 60), .pick (.t 53) (.c (.bool true)) (.t 59), none⟩, ⟨(some 61), .mv (.t 60), none⟩, ⟨(some 62), .load true 1 (.t 7), (some ((some 61), false))⟩, ⟨(some 63), .load true 1 (.t 7), (some ((some 61), false))⟩, ⟨(some 64), .call 19 [(.t 62), (.t 63)], (some ((some 61), false))⟩, ⟨(some 65), .bin .neq (.t 64) (.c (.int .i64 0)), (some ((some 61), false))⟩, ⟨(some 66), .pick (.t 61) (.c (.bool true)) (.t 65), none⟩] [])
  (.cond (.t 66)
    (.seq (.reg false [⟨(some 6), .mv (.c (.bool false)), none⟩] [])
    .ret)
    .skip))
  (.seq (.reg false [⟨(some 68), .load true 1 (.t 8), none⟩, ⟨(some 69), .load true 1 (.t 7), none⟩, ⟨(some 70), .call 21 [(.t 68), (.t 69)], none⟩, ⟨(some 67), .mv (.t 70), none⟩, ⟨(some 71), .ext (.t 67) 0, none⟩, ⟨(some 72), .ext (.t 67) 1, none⟩, ⟨(some 12), .new 25 1 [.nils], none⟩, ⟨none, .store 1 (.t 12) (.t 71), none⟩, ⟨(some 13), .mv (.t 72), none⟩] [])
  (.seq (.reg true [⟨(some 73), .mv (.t 13), none⟩, ⟨(some 74), .mv (.t 10), none⟩, ⟨(some 75), .bin .leq (.t 74) (.c (.int .i64 0)), none⟩, ⟨(some 76), .beq false (.t 73) (.t 75), none⟩, ⟨(some 77), .mv (.t 76), none⟩, ⟨(some 78), .load true 1 (.t 7), (some ((some 77), true))⟩, ⟨(some 79), .load true 1 (.t 7), (some ((some 77), true))⟩, ⟨(some 80), .load true 1 (.t 8), (some ((some 77), true))⟩, ⟨(some 81), .call 22 [(.t 79), (.t 80)], (some ((some 77), true))⟩, ⟨(some 82), .call 19 [(.t 78), (.t 81)], (some ((some 77), true))⟩, ⟨(some 83), .bin .leq (.t 82) (.c (.int .i64 0)), (some ((some 77), true))⟩, ⟨(some 84), .pick (.t 77) (.t 83) (.c (.bool false)), none⟩, ⟨(some 6), .mv (.t 84), none⟩] [0, 0, 2, 7, 15, 31, 31, 31, 223, 511, 1023, 2047, 4095])
  .ret))))))))
/-- cubit/cubitlaw1.NatGcds -/
def c7 : IR :=
  (.seq (.reg false [⟨(some 4), .mv (.c (.bool false)), none⟩] [])
  (.seq (.seq (.reg false [⟨(some 14), .call 11 [], none⟩, ⟨(some 15), .not (.t 14), none⟩] [])
  (.cond (.t 15)
    (.seq (.reg false [⟨(some 4), .mv (.c (.bool false)), none⟩] [])
    .ret)
    .skip))
  (.seq (.seq (.reg false [⟨(some 16), .mv (.t 0), none⟩, ⟨(some 17), .lenL (.t 16), none⟩, ⟨(some 18), .bin .gtr (.t 17) (.c (.int .i64 16)), none⟩, ⟨(some 19), .mv (.t 18), none⟩, ⟨(some 20), .mv (.t 1), (some ((some 19), false))⟩, ⟨(some 21), .lenL (.t 20), (some ((some 19), false))⟩, ⟨(some 22), .bin .gtr (.t 21) (.c (.int .i64 16)), (some ((some 19), false))⟩, ⟨(some 23), .pick (.t 19) (.c (.bool true)) (.t 22), none⟩] [])
  (.cond (.t 23)
    (.seq (.reg false [⟨(some 4), .mv (.c (.bool true)), none⟩] [])
    .ret)
    .skip))
  (.seq (.reg false [⟨(some 24), .mv (.t 0), none⟩, ⟨(some 25), .build [.nils] [(0, 1, (.t 24))], none⟩, ⟨(some 26), .mv (.t 1), none⟩, ⟨(some 27), .build [.nils] [(0, 1, (.t 26))], none⟩, ⟨(some 5), .new 25 1 [.nils], none⟩, ⟨(some 6), .new 25 1 [.nils], none⟩, ⟨none, .store 1 (.t 5) (.t 25), none⟩, ⟨none, .store 1 (.t 6) (.t 27), none⟩] [])
  (.seq (.reg false [⟨(some 28), .load true 1 (.t 5), none⟩, ⟨(some 29), .load true 1 (.t 6), none⟩, ⟨(some 30), .call 23 [(.t 28), (.t 29)], none⟩, ⟨(some 7), .new 25 1 [.nils], none⟩, ⟨none, .store 1 (.t 7) (.t 30), none⟩] [])
  (.seq (.reg false [⟨(some 32), .load true 1 (.t 5), none⟩, ⟨(some 33), .load true 1 (.t 7), none⟩, ⟨(some 34), .call 24 [(.t 32), (.t 33)], none⟩, ⟨(some 31), .mv (.t 34), none⟩, ⟨(some 35), .ext (.t 31) 0, none⟩, ⟨(some 36), .ext (.t 31) 1, none⟩, ⟨(some 37), .ext (.t 31) 2, none⟩, ⟨(some 8), .new 25 1 [.nils], none⟩, ⟨(some 9), .new 25 1 [.nils], none⟩, ⟨none, .store 1 (.t 8) (.t 35), none⟩, ⟨none, .store 1 (.t 9) (.t 36), none⟩, ⟨(some 10), .mv (.t 37), none⟩] [])
  (.seq (.reg false [⟨(some 39), .load true 1 (.t 6), none⟩, ⟨(some 40), .load true 1 (.t 7), none⟩, ⟨(some 41), .call 24 [(.t 39), (.t 40)], none⟩, ⟨(some 38), .mv (.t 41), none⟩, ⟨(some 42), .ext (.t 38) 0, none⟩, ⟨(some 43), .ext (.t 38) 1, none⟩, ⟨(some 44), .ext (.t 38) 2, none⟩, ⟨(some 11), .new 25 1 [.nils], none⟩, ⟨(some 12), .new 25 1 [.nils], none⟩, ⟨none, .store 1 (.t 11) (.t 42), none⟩, ⟨none, .store 1 (.t 12) (.t 43), none⟩, ⟨(some 13), .mv (.t 44), none⟩] [])
  (.seq (.seq (.reg false [⟨(some 45), .mv (.t 10), none⟩, ⟨(some 46), .not (.t 45), none⟩, ⟨(some 47), .mv (.t 46), none⟩, ⟨(some 48), .mv (.t 13), (some ((some 47), false))⟩, ⟨(some 49), .not (.t 48), (some ((some 47), false))⟩, ⟨(some 50), .pick (.t 47) (.c (.bool true)) (.t 49), none⟩] [])
  (.cond (.t 50)
    (.seq (.reg true [⟨(some 51), .load true 1 (.t 5), none⟩, ⟨(some 52), .call 25 [(.c (.int .u64 0))], none⟩, ⟨(some 53), .call 19 [(.t 51), (.t 52)], none⟩, ⟨(some 54), .bin .eql (.t 53) (.c (.int .i64 0)), none⟩, ⟨(some 55), .mv (.t 54), none⟩, ⟨(some 56), .load true 1 (.t 6), (some ((some 55), true))⟩, ⟨(some 57), .call 25 [(.c (.int .u64 0))], (some ((some 55), true))⟩, ⟨(some 58), .call 19 [(.t 56), (.t 57)], (some ((some 55), true))⟩, ⟨(some 59), .bin .eql (.t 58) (.c (.int .i64 0)), (some ((some 55), true))⟩, ⟨(some 60), .pick (.t 55) (.t 59) (.c (.bool false)), none⟩, ⟨(some 61), .mv (.t 60), none⟩, ⟨(some 62), .load true 1 (.t 7), (some ((some 61), true))⟩, ⟨(some 63), .call 25 [(.c (.int .u64 0))], (some ((some 61), true))⟩, ⟨(some 64), .call 19 [(.t 62), (.t 63)], (some ((some 61), true))⟩, ⟨(some 65), .bin .eql (.t 64) (.c (.int .i64 0)), (some ((some 61), true))⟩, ⟨(some 66), .pick (.t 61) (.t 65) (.c (.bool false)), none⟩, ⟨(some 4), .mv (.t 66), none⟩] [0, 0, 3, 7, 15, 31, 31, 127, 255, 511, 1023, 2047, 2047, 8191, 16383, 32767, 65535])
    .ret)
    .skip))
  (.seq (.reg true [⟨(some 67), .load true 1 (.t 9), none⟩, ⟨(some 68), .call 25 [(.c (.int .u64 0))], none⟩, ⟨(some 69), .call 19 [(.t 67), (.t 68)], none⟩, ⟨(some 70), .bin .eql (.t 69) (.c (.int .i64 0)), none⟩, ⟨(some 71), .mv (.t 70), none⟩, ⟨(some 72), .load true 1 (.t 12), (some ((some 71), true))⟩, ⟨(some 73), .call 25 [(.c (.int .u64 0))], (some ((some 71), true))⟩, ⟨(some 74), .call 19 [(.t 72), (.t 73)], (some ((some 71), true))⟩, ⟨(some 75), .bin .eql (.t 74) (.c (.int .i64 0)), (some ((some 71), true))⟩, ⟨(some 76), .pick (.t 71) (.t 75) (.c (.bool false)), none⟩, ⟨(some 77), .mv (.t 76), none⟩, ⟨(some 78), .load true 1 (.t 8), (some ((some 77), true))⟩, ⟨(some 79), .load true 1 (.t 11), (some ((some 77), true))⟩, ⟨(some 80), .call 23 [(.t 78), (.t 79)], (some ((some 77), true))⟩, ⟨(some 81), .call 25 [(.c (.int .u64 1))], (some ((some 77), true))⟩, ⟨(some 82), .call 19 [(.t 80), (.t 81)], (some ((some 77), true))⟩, ⟨(some 83), .bin .eql (.t 82) (.c (.int .i64 0)), (some ((some 77), true))⟩, ⟨(some 84), .pick (.t 77) (.t 83) (.c (.bool false)), none⟩, ⟨(some 85), .mv (.t 84), none⟩, ⟨(some 86), .load true 1 (.t 6), (some ((some 85), true))⟩, ⟨(some 87), .load true 1 (.t 5), (some ((some 85), true))⟩, ⟨(some 88), .call 23 [(.t 86), (.t 87)], (some ((some 85), true))⟩, ⟨(some 89), .load true 1 (.t 7), (some ((some 85), true))⟩, ⟨(some 90), .call 19 [(.t 88), (.t 89)], (some ((some 85), true))⟩, ⟨(some 91), .bin .eql (.t 90) (.c (.int .i64 0)), (some ((some 85), true))⟩, ⟨(some 92), .pick (.t 85) (.t 91) (.c (.bool false)), none⟩, ⟨(some 4), .mv (.t 92), none⟩] [0, 0, 3, 7, 15, 31, 31, 127, 255, 511, 1023, 2047, 2047, 8191, 16383, 32767, 65535, 131071, 262143, 524287, 524287, 2097151, 524287, 8388607, 16777215, 33554431, 67108863])
  .ret)))))))))
/-- cubit/cubitlaw1.NatParts -/
def c8 : IR :=
  (.seq (.reg false [⟨(some 4), .mv (.c (.bool false)), none⟩] [])
  (.seq (.seq (.reg false [⟨(some 10), .call 11 [], none⟩, ⟨(some 11), .not (.t 10), none⟩] [])
  (.cond (.t 11)
    (.seq (.reg false [⟨(some 4), .mv (.c (.bool false)), none⟩] [])
    .ret)
    .skip))
  (.seq (.seq (.reg false [⟨(some 12), .mv (.t 0), none⟩, ⟨(some 13), .lenL (.t 12), none⟩, ⟨(some 14), .bin .gtr (.t 13) (.c (.int .i64 40)), none⟩, ⟨(some 15), .mv (.t 14), none⟩, ⟨(some 16), .mv (.t 1), (some ((some 15), false))⟩, ⟨(some 17), .lenL (.t 16), (some ((some 15), false))⟩, ⟨(some 18), .bin .gtr (.t 17) (.c (.int .i64 40)), (some ((some 15), false))⟩, ⟨(some 19), .pick (.t 15) (.c (.bool true)) (.t 18), none⟩] [])
  (.cond (.t 19)
    (.seq (.reg false [⟨(some 4), .mv (.c (.bool true)), none⟩] [])
    .ret)
    .skip))
  (.seq (.reg false [⟨(some 20), .mv (.t 0), none⟩, ⟨(some 21), .build [.nils] [(0, 1, (.t 20))], none⟩, ⟨(some 22), .mv (.t 1), none⟩, ⟨(some 23), .build [.nils] [(0, 1, (.t 22))], none⟩, ⟨(some 5), .new 25 1 [.nils], none⟩, ⟨(some 6), .new 25 1 [.nils], none⟩, ⟨none, .store 1 (.t 5) (.t 21), none⟩, ⟨none, .store 1 (.t 6) (.t 23), none⟩] [])
  (.seq (.reg false [⟨(some 25), .load true 1 (.t 5), none⟩, ⟨(some 26), .load true 1 (.t 6), none⟩, ⟨(some 27), .call 24 [(.t 25), (.t 26)], none⟩, ⟨(some 24), .mv (.t 27), none⟩, ⟨(some 28), .ext (.t 24) 0, none⟩, ⟨(some 29), .ext (.t 24) 1, none⟩, ⟨(some 30), .ext (.t 24) 2, none⟩, ⟨(some 7), .new 25 1 [.nils], none⟩, ⟨(some 8), .new 25 1 [.nils], none⟩, ⟨none, .store 1 (.t 7) (.t 28), none⟩, ⟨none, .store 1 (.t 8) (.t 29), none⟩, ⟨(some 9), .mv (.t 30), none⟩] [])
  (.seq (.seq (.reg false [⟨(some 31), .mv (.t 9), none⟩, ⟨(some 32), .not (.t 31), none⟩] [])
  (.cond (.t 32)
    (.seq (.reg true [⟨(some 33), .load true 1 (.t 6), none⟩, ⟨(some 34), .call 25 [(.c (.int .u64 0))], none⟩, ⟨(some 35), .call 19 [(.t 33), (.t 34)], none⟩, ⟨(some 36), .bin .eql (.t 35) (.c (.int .i64 0)), none⟩, ⟨(some 4), .mv (.t 36), none⟩] [0, 0, 3, 7, 15])
    .ret)
    .skip))
  (.seq (.reg true [⟨(some 37), .load true 1 (.t 8), none⟩, ⟨(some 38), .load true 1 (.t 6), none⟩, ⟨(some 39), .call 19 [(.t 37), (.t 38)], none⟩, ⟨(some 40), .bin .lss (.t 39) (.c (.int .i64 0)), none⟩, ⟨(some 41), .mv (.t 40), none⟩, ⟨(some 42), .load true 1 (.t 7), (some ((some 41), true))⟩, ⟨(some 43), .load true 1 (.t 6), (some ((some 41), true))⟩, ⟨(some 44), .call 20 [(.t 42), (.t 43)], (some ((some 41), true))⟩, ⟨(some 45), .load true 1 (.t 8), (some ((some 41), true))⟩, ⟨(some 46), .call 22 [(.t 44), (.t 45)], (some ((some 41), true))⟩, ⟨(some 47), .load true 1 (.t 5), (some ((some 41), true))⟩, ⟨(some 48), .call 19 [(.t 46), (.t 47)], (some ((some 41), true))⟩, ⟨(some 49), .bin .eql (.t 48) (.c (.int .i64 0)), (some ((some 41), true))⟩, ⟨(some 50), .pick (.t 41) (.t 49) (.c (.bool false)), none⟩, ⟨(some 51), .mv (.t 50), none⟩, ⟨(some 52), .load true 1 (.t 7), (some ((some 51), true))⟩, ⟨(some 53), .call 26 [(.t 52)], (some ((some 51), true))⟩, ⟨(some 54), .pick (.t 51) (.t 53) (.c (.bool false)), none⟩, ⟨(some 55), .mv (.t 54), none⟩, ⟨(some 56), .load true 1 (.t 8), (some ((some 55), true))⟩, ⟨(some 57), .call 26 [(.t 56)], (some ((some 55), true))⟩, ⟨(some 58), .pick (.t 55) (.t 57) (.c (.bool false)), none⟩, ⟨(some 4), .mv (.t 58), none⟩] [0, 0, 3, 7, 15, 31, 31, 127, 31, 511, 31, 2047, 4095, 8191, 16383, 32767, 65535, 131071, 262143, 524287, 1048575, 2097151, 4194303])
  .ret)))))))
/-- cubit/cubitlaw1.NatSmall -/
def c9 : IR :=
  (.seq (.reg false [⟨(some 4), .mv (.c (.bool false)), none⟩] [])
  (.seq (.seq (.reg false [⟨(some 18), .call 11 [], none⟩, ⟨(some 19), .not (.t 18), none⟩] [])
  (.cond (.t 19)
    (.seq (.reg false [⟨(some 4), .mv (.c (.bool false)), none⟩] [])
    .ret)
    .skip))
  (.seq (.reg false [⟨(some 20), .mv (.t 0), none⟩, ⟨(some 21), .conv .u64 (.t 20), none⟩, ⟨(some 22), .call 25 [(.t 21)], none⟩, ⟨(some 23), .mv (.t 1), none⟩, ⟨(some 24), .conv .u64 (.t 23), none⟩, ⟨(some 25), .call 25 [(.t 24)], none⟩, ⟨(some 5), .new 25 1 [.nils], none⟩, ⟨(some 6), .new 25 1 [.nils], none⟩, ⟨none, .store 1 (.t 5) (.t 22), none⟩, ⟨none, .store 1 (.t 6) (.t 25), none⟩] [])
  (.seq (.reg false [⟨(some 27), .load true 1 (.t 5), none⟩, ⟨(some 28), .load true 1 (.t 6), none⟩, ⟨(some 29), .call 22 [(.t 27), (.t 28)], none⟩, ⟨(some 30), .call 27 [(.t 29)], none⟩, ⟨(some 26), .mv (.t 30), none⟩, ⟨(some 31), .ext (.t 26) 0, none⟩, ⟨(some 32), .ext (.t 26) 1, none⟩, ⟨(some 7), .mv (.t 31), none⟩, ⟨(some 8), .mv (.t 32), none⟩] [])
  (.seq (.reg false [⟨(some 34), .load true 1 (.t 5), none⟩, ⟨(some 35), .load true 1 (.t 6), none⟩, ⟨(some 36), .call 20 [(.t 34), (.t 35)], none⟩, ⟨(some 37), .call 27 [(.t 36)], none⟩, ⟨(some 33), .mv (.t 37), none⟩, ⟨(some 38), .ext (.t 33) 0, none⟩, ⟨(some 39), .ext (.t 33) 1, none⟩, ⟨(some 9), .mv (.t 38), none⟩, ⟨(some 10), .mv (.t 39), none⟩] [])
  (.seq (.seq (.reg false [⟨(some 40), .mv (.t 8), none⟩, ⟨(some 41), .not (.t 40), none⟩, ⟨(some 42), .mv (.t 41), none⟩, ⟨(some 43), .mv (.t 10), (some ((some 42), false))⟩, ⟨(some 44), .not (.t 43), (some ((some 42), false))⟩, ⟨(some 45), .pick (.t 42) (.c (.bool true)) (.t 44), none⟩, ⟨(some 46), .mv (.t 45), none⟩, ⟨(some 47), .mv (.t 7), (some ((some 46), false))⟩, ⟨(some 48), .mv (.t 0), (some ((some 46), false))⟩, ⟨(some 49), .conv .u64 (.t 48), (some ((some 46), false))⟩, ⟨(some 50), .mv (.t 1), (some ((some 46), false))⟩, ⟨(some 51), .conv .u64 (.t 50), (some ((some 46), false))⟩, ⟨(some 52), .bin .add (.t 49) (.t 51), (some ((some 46), false))⟩, ⟨(some 53), .bin .neq (.t 47) (.t 52), (some ((some 46), false))⟩, ⟨(some 54), .pick (.t 46) (.c (.bool true)) (.t 53), none⟩, ⟨(some 55), .mv (.t 54), none⟩, ⟨(some 56), .mv (.t 9), (some ((some 55), false))⟩, ⟨(some 57), .mv (.t 0), (some ((some 55), false))⟩, ⟨(some 58), .conv .u64 (.t 57), (some ((some 55), false))⟩, ⟨(some 59), .mv (.t 1), (some ((some 55), false))⟩, ⟨(some 60), .conv .u64 (.t 59), (some ((some 55), false))⟩, ⟨(some 61), .bin .mul (.t 58) (.t 60), (some ((some 55), false))⟩, ⟨(some 62), .bin .neq (.t 56) (.t 61), (some ((some 55), false))⟩, ⟨(some 63), .pick (.t 55) (.c (.bool true)) (.t 62), none⟩] [])
  (.cond (.t 63)
    (.seq (.reg false [⟨(some 4), .mv (.c (.bool false)), none⟩] [])
    .ret)
    .skip))
  (.seq (.reg false [⟨(some 65), .load true 1 (.t 5), none⟩, ⟨(some 66), .load true 1 (.t 6), none⟩, ⟨(some 67), .call 24 [(.t 65), (.t 66)], none⟩, ⟨(some 64), .mv (.t 67), none⟩, ⟨(some 68), .ext (.t 64) 0, none⟩, ⟨(some 69), .ext (.t 64) 1, none⟩, ⟨(some 70), .ext (.t 64) 2, none⟩, ⟨(some 11), .new 25 1 [.nils], none⟩, ⟨(some 12), .new 25 1 [.nils], none⟩, ⟨none, .store 1 (.t 11) (.t 68), none⟩, ⟨none, .store 1 (.t 12) (.t 69), none⟩, ⟨(some 13), .mv (.t 70), none⟩] [])
  (.seq (.seq (.reg false [⟨(some 71), .mv (.t 1), none⟩, ⟨(some 72), .bin .eql (.t 71) (.c (.int .u32 0)), none⟩] [])
  (.cond (.t 72)
    (.seq (.reg false [⟨(some 73), .mv (.t 13), none⟩, ⟨(some 74), .not (.t 73), none⟩, ⟨(some 4), .mv (.t 74), none⟩] [])
    .ret)
    .skip))
  (.seq (.reg false [⟨(some 76), .load true 1 (.t 11), none⟩, ⟨(some 77), .call 27 [(.t 76)], none⟩, ⟨(some 75), .mv (.t 77), none⟩, ⟨(some 78), .ext (.t 75) 0, none⟩, ⟨(some 79), .ext (.t 75) 1, none⟩, ⟨(some 14), .mv (.t 78), none⟩, ⟨(some 15), .mv (.t 79), none⟩] [])
  (.seq (.reg false [⟨(some 81), .load true 1 (.t 12), none⟩, ⟨(some 82), .call 27 [(.t 81)], none⟩, ⟨(some 80), .mv (.t 82), none⟩, ⟨(some 83), .ext (.t 80) 0, none⟩, ⟨(some 84), .ext (.t 80) 1, none⟩, ⟨(some 16), .mv (.t 83), none⟩, ⟨(some 17), .mv (.t 84), none⟩] [])
  (.seq (.reg false [⟨(some 85), .mv (.t 13), none⟩, ⟨(some 86), .mv (.t 85), none⟩, ⟨(some 87), .mv (.t 14), (some ((some 86), true))⟩, ⟨(some 88), .mv (.t 0), (some ((some 86), true))⟩, ⟨(some 89), .mv (.t 1), (some ((some 86), true))⟩, ⟨(some 90), .bin .quo (.t 88) (.t 89), (some ((some 86), true))⟩, ⟨(some 91), .conv .u64 (.t 90), (some ((some 86), true))⟩, ⟨(some 92), .bin .eql (.t 87) (.t 91), (some ((some 86), true))⟩, ⟨(some 93), .pick (.t 86) (.t 92) (.c (.bool false)), none⟩, ⟨(some 94), .mv (.t 93), none⟩, ⟨(some 95), .mv (.t 16), (some ((some 94), true))⟩, ⟨(some 96), .mv (.t 0), (some ((some 94), true))⟩, ⟨(some 97), .mv (.t 1), (some ((some 94), true))⟩, ⟨(some 98), .bin .rem (.t 96) (.t 97), (some ((some 94), true))⟩, ⟨(some 99), .conv .u64 (.t 98), (some ((some 94), true))⟩, ⟨(some 100), .bin .eql (.t 95) (.t 99), (some ((some 94), true))⟩, ⟨(some 101), .pick (.t 94) (.t 100) (.c (.bool false)), none⟩, ⟨(some 4), .mv (.t 101), none⟩] [])
  .ret)))))))))))
/-- cubit/cubitlaw1.NatKnown -/
def c10 : IR :=
  (.seq (.reg false [⟨(some 0), .mv (.c (.bool false)), none⟩] [])
  (.seq (.seq (.reg false [⟨(some 20), .call 11 [], none⟩, ⟨(some 21), .not (.t 20), none⟩] [])
  (.cond (.t 21)
    (.seq (.reg false [⟨(some 0), .mv (.c (.bool false)), none⟩] [])
    .ret)
    .skip))
  (.seq (.reg false [⟨(some 22), .call 25 [(.c (.int .u64 0))], none⟩, ⟨(some 1), .new 25 1 [.nils], none⟩, ⟨none, .store 1 (.t 1) (.t 22), none⟩] [])
  (.seq (.reg false [⟨(some 24), .lit 49 1 3 [(.int .u32 0), (.int .u32 0), (.int .u32 0)] [(0, 1, (.c (.int .u32 1))), (1, 1, (.c (.int .u32 0))), (2, 1, (.c (.int .u32 1)))], none⟩, ⟨(some 25), .build [.nils] [(0, 1, (.t 24))], none⟩, ⟨(some 26), .call 27 [(.t 25)], none⟩, ⟨(some 23), .mv (.t 26), none⟩, ⟨(some 27), .ext (.t 23) 0, none⟩, ⟨(some 28), .ext (.t 23) 1, none⟩, ⟨(some 2), .mv (.t 27), none⟩, ⟨(some 3), .mv (.t 28), none⟩] [])
  (.seq (.reg false [⟨(some 30), .lit 49 1 3 [(.int .u32 0), (.int .u32 0), (.int .u32 0)] [(0, 1, (.c (.int .u32 7))), (1, 1, (.c (.int .u32 0))), (2, 1, (.c (.int .u32 0)))], none⟩, ⟨(some 31), .build [.nils] [(0, 1, (.t 30))], none⟩, ⟨(some 32), .call 27 [(.t 31)], none⟩, ⟨(some 29), .mv (.t 32), none⟩, ⟨(some 33), .ext (.t 29) 0, none⟩, ⟨(some 34), .ext (.t 29) 1, none⟩, ⟨(some 4), .mv (.t 33), none⟩, ⟨(some 5), .mv (.t 34), none⟩] [])
  (.seq (.reg false [⟨(some 36), .call 25 [(.c (.int .u64 1))], none⟩, ⟨(some 37), .call 25 [(.c (.int .u64 2))], none⟩, ⟨(some 38), .call 21 [(.t 36), (.t 37)], none⟩, ⟨(some 35), .mv (.t 38), none⟩, ⟨(some 39), .ext (.t 35) 0, none⟩, ⟨(some 40), .ext (.t 35) 1, none⟩, ⟨(some 6), .new 25 1 [.nils], none⟩, ⟨none, .store 1 (.t 6) (.t 39), none⟩, ⟨(some 7), .mv (.t 40), none⟩] [])
  (.seq (.reg true [⟨(some 42), .call 25 [(.c (.int .u64 1))], none⟩, ⟨(some 43), .load true 1 (.t 1), none⟩, ⟨(some 44), .call 24 [(.t 42), (.t 43)], none⟩, ⟨(some 41), .mv (.t 44), none⟩, ⟨(some 45), .ext (.t 41) 0, none⟩, ⟨(some 46), .ext (.t 41) 1, none⟩, ⟨(some 47), .ext (.t 41) 2, none⟩, ⟨(some 8), .new 25 1 [.nils], none⟩, ⟨(some 9), .new 25 1 [.nils], none⟩, ⟨none, .store 1 (.t 8) (.t 45), none⟩, ⟨none, .store 1 (.t 9) (.t 46), none⟩, ⟨(some 10), .mv (.t 47), none⟩] [0, 0, 3, 7, 15, 15, 15, 0, 0, 415, 959, 2047])
  (.seq (.reg false [⟨(some 49), .call 25 [(.c (.int .u64 7))], none⟩, ⟨(some 50), .call 25 [(.c (.int .u64 9))], none⟩, ⟨(some 51), .call 24 [(.t 49), (.t 50)], none⟩, ⟨(some 48), .mv (.t 51), none⟩, ⟨(some 52), .ext (.t 48) 0, none⟩, ⟨(some 53), .ext (.t 48) 1, none⟩, ⟨(some 54), .ext (.t 48) 2, none⟩, ⟨(some 11), .new 25 1 [.nils], none⟩, ⟨(some 12), .new 25 1 [.nils], none⟩, ⟨none, .store 1 (.t 11) (.t 52), none⟩, ⟨none, .store 1 (.t 12) (.t 53), none⟩, ⟨(some 13), .mv (.t 54), none⟩] [])
  (.seq (.reg false [⟨(some 56), .call 12 [(.c (.str ⟨#[]⟩))], none⟩, ⟨(some 55), .mv (.t 56), none⟩, ⟨(some 57), .ext (.t 55) 0, none⟩, ⟨(some 58), .ext (.t 55) 1, none⟩, ⟨(some 14), .new 25 1 [.nils], none⟩, ⟨none, .store 1 (.t 14) (.t 57), none⟩, ⟨(some 15), .mv (.t 58), none⟩] [])
  (.seq (.reg false [⟨(some 60), .call 12 [(.c (.str ⟨#[49, 97]⟩))], none⟩, ⟨(some 59), .mv (.t 60), none⟩, ⟨(some 61), .ext (.t 59) 0, none⟩, ⟨(some 62), .ext (.t 59) 1, none⟩, ⟨(some 16), .new 25 1 [.nils], none⟩, ⟨none, .store 1 (.t 16) (.t 61), none⟩, ⟨(some 17), .mv (.t 62), none⟩] [])
  (.seq (.reg false [⟨(some 64), .call 12 [(.c (.str ⟨#[48, 48, 48]⟩))], none⟩, ⟨(some 63), .mv (.t 64), none⟩, ⟨(some 65), .ext (.t 63) 0, none⟩, ⟨(some 66), .ext (.t 63) 1, none⟩, ⟨(some 18), .new 25 1 [.nils], none⟩, ⟨none, .store 1 (.t 18) (.t 65), none⟩, ⟨(some 19), .mv (.t 66), none⟩] [])
  (.seq (.reg true [⟨(some 67), .faddr 0 (.t 1), none⟩, ⟨(some 68), .load false 1 (.t 67), none⟩, ⟨(some 69), .lenL (.t 68), none⟩, ⟨(some 70), .bin .eql (.t 69) (.c (.int .i64 0)), none⟩, ⟨(some 71), .mv (.t 70), none⟩, ⟨(some 72), .load true 1 (.t 1), (some ((some 71), true))⟩, ⟨(some 73), .call 15 [(.t 72)], (some ((some 71), true))⟩, ⟨(some 74), .bin .eql (.t 73) (.c (.str ⟨#[48]⟩)), (some ((some 71), true))⟩, ⟨(some 75), .pick (.t 71) (.t 74) (.c (.bool false)), none⟩, ⟨(some 76), .mv (.t 75), none⟩, ⟨(some 77), .mv (.t 3), (some ((some 76), true))⟩, ⟨(some 78), .not (.t 77), (some ((some 76), true))⟩, ⟨(some 79), .pick (.t 76) (.t 78) (.c (.bool false)), none⟩, ⟨(some 80), .mv (.t 79), none⟩, ⟨(some 81), .mv (.t 2), (some ((some 80), true))⟩, ⟨(some 82), .bin .eql (.t 81) (.c (.int .u64 0)), (some ((some 80), true))⟩, ⟨(some 83), .pick (.t 80) (.t 82) (.c (.bool false)), none⟩, ⟨(some 84), .mv (.t 83), none⟩, ⟨(some 85), .mv (.t 5), (some ((some 84), true))⟩, ⟨(some 86), .pick (.t 84) (.t 85) (.c (.bool false)), none⟩, ⟨(some 87), .mv (.t 86), none⟩, ⟨(some 88), .mv (.t 4), (some ((some 87), true))⟩, ⟨(some 89), .bin .eql (.t 88) (.c (.int .u64 7)), (some ((some 87), true))⟩, ⟨(some 90), .pick (.t 87) (.t 89) (.c (.bool false)), none⟩, ⟨(some 91), .mv (.t 90), none⟩, ⟨(some 92), .mv (.t 7), (some ((some 91), true))⟩, ⟨(some 93), .not (.t 92), (some ((some 91), true))⟩, ⟨(some 94), .pick (.t 91) (.t 93) (.c (.bool false)), none⟩, ⟨(some 95), .mv (.t 94), none⟩, ⟨(some 96), .mv (.t 10), (some ((some 95), true))⟩, ⟨(some 97), .not (.t 96), (some ((some 95), true))⟩, ⟨(some 98), .pick (.t 95) (.t 97) (.c (.bool false)), none⟩, ⟨(some 99), .mv (.t 98), none⟩, ⟨(some 100), .mv (.t 13), (some ((some 99), true))⟩, ⟨(some 101), .pick (.t 99) (.t 100) (.c (.bool false)), none⟩, ⟨(some 102), .mv (.t 101), none⟩, ⟨(some 103), .faddr 0 (.t 11), (some ((some 102), true))⟩, ⟨(some 104), .load false 1 (.t 103), (some ((some 102), true))⟩, ⟨(some 105), .lenL (.t 104), (some ((some 102), true))⟩, ⟨(some 106), .bin .eql (.t 105) (.c (.int .i64 0)), (some ((some 102), true))⟩, ⟨(some 107), .pick (.t 102) (.t 106) (.c (.bool false)), none⟩, ⟨(some 108), .mv (.t 107), none⟩, ⟨(some 109), .load true 1 (.t 12), (some ((some 108), true))⟩, ⟨(some 110), .call 28 [(.c (.int .u64 7))], (some ((some 108), true))⟩, ⟨(some 111), .call 14 [(.t 109), (.t 110)], (some ((some 108), true))⟩, ⟨(some 112), .pick (.t 108) (.t 111) (.c (.bool false)), none⟩, ⟨(some 113), .mv (.t 112), none⟩, ⟨(some 114), .mv (.t 15), (some ((some 113), true))⟩, ⟨(some 115), .not (.t 114), (some ((some 113), true))⟩, ⟨(some 116), .pick (.t 113) (.t 115) (.c (.bool false)), none⟩, ⟨(some 117), .mv (.t 116), none⟩, ⟨(some 118), .mv (.t 17), (some ((some 117), true))⟩, ⟨(some 119), .not (.t 118), (some ((some 117), true))⟩, ⟨(some 120), .pick (.t 117) (.t 119) (.c (.bool false)), none⟩, ⟨(some 121), .mv (.t 120), none⟩, ⟨(some 122), .mv (.t 19), (some ((some 121), true))⟩, ⟨(some 123), .pick (.t 121) (.t 122) (.c (.bool false)), none⟩, ⟨(some 124), .mv (.t 123), none⟩, ⟨(some 125), .faddr 0 (.t 18), (some ((some 124), true))⟩, ⟨(some 126), .load false 1 (.t 125), (some ((some 124), true))⟩, ⟨(some 127), .lenL (.t 126), (some ((some 124), true))⟩, ⟨(some 128), .bin .eql (.t 127) (.c (.int .i64 0)), (some ((some 124), true))⟩, ⟨(some 129), .pick (.t 124) (.t 128) (.c (.bool false)), none⟩, ⟨(some 130), .mv (.t 129), none⟩, ⟨(some 131), .lit 49 1 2 [(.int .u32 0), (.int .u32 0)] [(0, 1, (.c (.int .u32 1))), (1, 1, (.c (.int .u32 0)))], (some ((some 130), true))⟩, ⟨(some 132), .build [.nils] [(0, 1, (.t 131))], (some ((some 130), true))⟩, ⟨(some 133), .call 26 [(.t 132)], (some ((some 130), true))⟩, ⟨(some 134), .not (.t 133), (some ((some 130), true))⟩, ⟨(some 135), .pick (.t 130) (.t 134) (.c (.bool false)), none⟩, ⟨(some 136), .mv (.t 135), none⟩, ⟨(some 137), .build [.nils] [], (some ((some 136), true))⟩, ⟨(some 138), .call 26 [(.t 137)], (some ((some 136), true))⟩, ⟨(some 139), .pick (.t 136) (.t 138) (.c (.bool false)), none⟩, ⟨(some 140), .mv (.t 139), none⟩, ⟨(some 141), .load true 1 (.t 1), (some ((some 140), true))⟩, ⟨(some 142), .load true 1 (.t 1), (some ((some 140), true))⟩, ⟨(some 143), .call 23 [(.t 141), (.t 142)], (some ((some 140), true))⟩, ⟨(some 144), .call 14 [(.t 143), (.c .nils)], (some ((some 140), true))⟩, ⟨(some 145), .pick (.t 140) (.t 144) (.c (.bool false)), none⟩, ⟨(some 146), .mv (.t 145), none⟩, ⟨(some 147), .call 25 [(.c (.int .u64 12))], (some ((some 146), true))⟩, ⟨(some 148), .call 25 [(.c (.int .u64 18))], (some ((some 146), true))⟩, ⟨(some 149), .call 23 [(.t 147), (.t 148)], (some ((some 146), true))⟩, ⟨(some 150), .call 28 [(.c (.int .u64 6))], (some ((some 146), true))⟩, ⟨(some 151), .call 14 [(.t 149), (.t 150)], (some ((some 146), true))⟩, ⟨(some 152), .pick (.t 146) (.t 151) (.c (.bool false)), none⟩, ⟨(some 153), .mv (.t 152), none⟩, ⟨(some 154), .call 25 [(.c (.int .u64 10))], (some ((some 153), true))⟩, ⟨(some 155), .call 17 [(.t 154), (.c (.int .i64 20))], (some ((some 153), true))⟩, ⟨(some 156), .call 29 [(.c (.int .i64 20))], (some ((some 153), true))⟩, ⟨(some 157), .call 14 [(.t 155), (.t 156)], (some ((some 153), true))⟩, ⟨(some 158), .pick (.t 153) (.t 157) (.c (.bool false)), none⟩, ⟨(some 159), .mv (.t 158), none⟩, ⟨(some 160), .call 25 [(.c (.int .u64 7))], (some ((some 159), true))⟩, ⟨(some 161), .call 17 [(.t 160), (.c (.int .i64 (-3)))], (some ((some 159), true))⟩, ⟨(some 162), .call 28 [(.c (.int .u64 1))], (some ((some 159), true))⟩, ⟨(some 163), .call 14 [(.t 161), (.t 162)], (some ((some 159), true))⟩, ⟨(some 164), .pick (.t 159) (.t 163) (.c (.bool false)), none⟩, ⟨(some 165), .mv (.t 164), none⟩, ⟨(some 166), .lit 49 1 2 [(.int .u32 0), (.int .u32 0)] [(0, 1, (.c (.int .u32 3))), (1, 1, (.c (.int .u32 0)))], (some ((some 165), true))⟩, ⟨(some 167), .build [.nils] [(0, 1, (.t 166))], (some ((some 165), true))⟩, ⟨(some 168), .call 25 [(.c (.int .u64 3))], (some ((some 165), true))⟩, ⟨(some 169), .call 19 [(.t 167), (.t 168)], (some ((some 165), true))⟩, ⟨(some 170), .bin .eql (.t 169) (.c (.int .i64 0)), (some ((some 165), true))⟩, ⟨(some 171), .pick (.t 165) (.t 170) (.c (.bool false)), none⟩, ⟨(some 0), .mv (.t 171), none⟩] [0, 1, 3, 7, 15, 31, 63, 127, 255, 511, 1023, 2047, 4095, 8191, 16383, 32767, 65535, 131071, 262143, 524287, 1048575, 2097151, 4194303, 8388607, 16777215, 33554431, 67108863, 134217727, 268435455, 536870911, 1073741823, 2147483647, 4294967295, 8589934591, 17179869183, 34359738367, 68719476735, 137438953471, 274877906943, 549755813887, 1099511627775, 2199023255551, 4398046511103, 4398046511103, 17592186044415, 35184372088831, 70368744177663, 140737488355327, 281474976710655, 562949953421311, 1125899906842623, 2251799813685247, 4503599627370495, 9007199254740991, 18014398509481983, 36028797018963967, 72057594037927935, 144115188075855871, 288230376151711743, 576460752303423487, 1152921504606846975, 2305843009213693951, 4611686018427387903, 9223372036854775807, 18446744073709551615, 36893488147419103231, 73786976294838206463, 147573952589676412927, 295147905179352825855, 590295810358705651711, 1180591620717411303423, 2361183241434822606847, 4722366482869645213695, 9444732965739290427391, 18889465931478580854783, 18889465931478580854783, 75557863725914323419135, 151115727451828646838271, 302231454903657293676543, 604462909807314587353087, 1208925819614629174706175, 2417851639229258349412351, 4835703278458516698824703, 9671406556917033397649407, 19342813113834066795298815, 38685626227668133590597631, 77371252455336267181195263, 154742504910672534362390527, 309485009821345068724781055, 618970019642690137449562111, 1237940039285380274899124223, 2475880078570760549798248447, 4951760157141521099596496895, 9903520314283042199192993791, 19807040628566084398385987583, 39614081257132168796771975167, 79228162514264337593543950335, 158456325028528675187087900671, 316912650057057350374175801343, 633825300114114700748351602687, 1267650600228229401496703205375, 633825300114114700748351602687, 5070602400912917605986812821503, 10141204801825835211973625643007, 20282409603651670423947251286015, 40564819207303340847894502572031])
  .ret))))))))))))
/-- cubit/cubitlaw1.awake -/
def c11 : IR :=
  (.seq (.reg false [⟨(some 0), .mv (.c (.bool false)), none⟩] [])
  (.seq (.reg false [⟨(some 4), .call 12 [(.c (.str ⟨#[52, 50, 57, 52, 57, 54, 55, 50, 57, 54]⟩))], none⟩, ⟨(some 3), .mv (.t 4), none⟩, ⟨(some 5), .ext (.t 3) 0, none⟩, ⟨(some 6), .ext (.t 3) 1, none⟩, ⟨(some 1), .new 25 1 [.nils], none⟩, ⟨none, .store 1 (.t 1) (.t 5), none⟩, ⟨(some 2), .mv (.t 6), none⟩] [])
  (.seq (.reg false [⟨(some 7), .mv (.t 2), none⟩, ⟨(some 8), .mv (.t 7), none⟩, ⟨(some 9), .faddr 0 (.t 1), (some ((some 8), true))⟩, ⟨(some 10), .load false 1 (.t 9), (some ((some 8), true))⟩, ⟨(some 11), .lenL (.t 10), (some ((some 8), true))⟩, ⟨(some 12), .bin .eql (.t 11) (.c (.int .i64 2)), (some ((some 8), true))⟩, ⟨(some 13), .pick (.t 8) (.t 12) (.c (.bool false)), none⟩, ⟨(some 14), .mv (.t 13), none⟩, ⟨(some 15), .faddr 0 (.t 1), (some ((some 14), true))⟩, ⟨(some 16), .load false 1 (.t 15), (some ((some 14), true))⟩, ⟨(some 17), .iaddrS 1 (.t 16) (.c (.int .i64 0)), (some ((some 14), true))⟩, ⟨(some 18), .load false 1 (.t 17), (some ((some 14), true))⟩, ⟨(some 19), .bin .eql (.t 18) (.c (.int .u32 0)), (some ((some 14), true))⟩, ⟨(some 20), .pick (.t 14) (.t 19) (.c (.bool false)), none⟩, ⟨(some 21), .mv (.t 20), none⟩, ⟨(some 22), .faddr 0 (.t 1), (some ((some 21), true))⟩, ⟨(some 23), .load false 1 (.t 22), (some ((some 21), true))⟩, ⟨(some 24), .iaddrS 1 (.t 23) (.c (.int .i64 1)), (some ((some 21), true))⟩, ⟨(some 25), .load false 1 (.t 24), (some ((some 21), true))⟩, ⟨(some 26), .bin .eql (.t 25) (.c (.int .u32 1)), (some ((some 21), true))⟩, ⟨(some 27), .pick (.t 21) (.t 26) (.c (.bool false)), none⟩, ⟨(some 28), .mv (.t 27), none⟩, ⟨(some 29), .load true 1 (.t 1), (some ((some 28), true))⟩, ⟨(some 30), .call 15 [(.t 29)], (some ((some 28), true))⟩, ⟨(some 31), .bin .eql (.t 30) (.c (.str ⟨#[52, 50, 57, 52, 57, 54, 55, 50, 57, 54]⟩)), (some ((some 28), true))⟩, ⟨(some 32), .pick (.t 28) (.t 31) (.c (.bool false)), none⟩, ⟨(some 33), .mv (.t 32), none⟩, ⟨(some 34), .load true 1 (.t 1), (some ((some 33), true))⟩, ⟨(some 35), .call 26 [(.t 34)], (some ((some 33), true))⟩, ⟨(some 36), .pick (.t 33) (.t 35) (.c (.bool false)), none⟩, ⟨(some 37), .mv (.t 36), none⟩, ⟨(some 38), .call 25 [(.c (.int .u64 65536))], (some ((some 37), true))⟩, ⟨(some 39), .call 25 [(.c (.int .u64 65536))], (some ((some 37), true))⟩, ⟨(some 40), .call 20 [(.t 38), (.t 39)], (some ((some 37), true))⟩, ⟨(some 41), .call 28 [(.c (.int .u64 4294967296))], (some ((some 37), true))⟩, ⟨(some 42), .call 14 [(.t 40), (.t 41)], (some ((some 37), true))⟩, ⟨(some 43), .pick (.t 37) (.t 42) (.c (.bool false)), none⟩, ⟨(some 0), .mv (.t 43), none⟩] [])
  .ret)))
/-- cubit/nat.Parse -/
def c12 : IR :=
  (.seq (.reg false [⟨(some 2), .new 25 1 [.nils], none⟩, ⟨(some 3), .mv (.c (.bool false)), none⟩] [])
  (.seq (.seq (.reg false [⟨(some 11), .mv (.t 0), none⟩, ⟨(some 12), .bin .eql (.t 11) (.c (.str ⟨#[]⟩)), none⟩, ⟨(some 13), .mv (.t 12), none⟩, ⟨(some 14), .mv (.t 0), (some ((some 13), false))⟩, ⟨(some 15), .call 30 [(.t 14), (.c (.str ⟨#[48, 49, 50, 51, 52, 53, 54, 55, 56, 57]⟩))], (some ((some 13), false))⟩, ⟨(some 16), .bin .neq (.t 15) (.c (.str ⟨#[]⟩)), (some ((some 13), false))⟩, ⟨(some 17), .pick (.t 13) (.c (.bool true)) (.t 16), none⟩] [])
  (.cond (.t 17)
    (.seq (.reg false [⟨(some 18), .build [.nils] [], none⟩, ⟨none, .store 1 (.t 2) (.t 18), none⟩, ⟨(some 3), .mv (.c (.bool false)), none⟩] [])
    .ret)
    .skip))
  (.seq (.reg false [⟨(some 4), .mv (.c .nils), none⟩] [])
  (.seq (.block 0 (.loop (.seq (.seq (.reg false [⟨(some 19), .mv (.t 0), none⟩, ⟨(some 20), .lenS (.t 19), none⟩, ⟨(some 21), .bin .gtr (.t 20) (.c (.int .i64 0)), none⟩] [])
      (.cond (.t 21)
        .skip
        (.exit 0)))
      (.block 1 (.seq (.reg false [⟨(some 22), .mv (.t 0), none⟩, ⟨(some 23), .lenS (.t 22), none⟩, ⟨(some 24), .bin .sub (.t 23) (.c (.int .i64 1)), none⟩, ⟨(some 25), .bin .rem (.t 24) (.c (.int .i64 9)), none⟩, ⟨(some 26), .bin .add (.t 25) (.c (.int .i64 1)), none⟩, ⟨(some 5), .mv (.t 26), none⟩] [])
        (.seq (.reg false [⟨(some 28), .mv (.t 0), none⟩, ⟨(some 29), .mv (.t 5), none⟩, ⟨(some 30), .slcS (.t 28) none (some (.t 29)), none⟩, ⟨(some 31), .call 31 [(.t 30), (.c (.int .i64 10)), (.c (.int .i64 32))], none⟩, ⟨(some 27), .mv (.t 31), none⟩, ⟨(some 32), .ext (.t 27) 0, none⟩, ⟨(some 33), .ext (.t 27) 1, none⟩, ⟨(some 6), .mv (.t 32), none⟩, ⟨(some 7), .mv (.t 33), none⟩] [])
        (.seq (.reg false [⟨(some 34), .mv (.t 0), none⟩, ⟨(some 35), .mv (.t 5), none⟩, ⟨(some 36), .slcS (.t 34) (some (.t 35)) none, none⟩, ⟨(some 0), .mv (.t 36), none⟩] [])
        (.seq (.reg false [⟨(some 37), .mv (.t 6), none⟩, ⟨(some 8), .mv (.t 37), none⟩] [])
        (.seq (.seq (.reg false [⟨(some 38), .mv (.t 4), none⟩, ⟨(some 39), .lenL (.t 38), none⟩, ⟨(some 40), .mv (.c (.int .i64 0)), none⟩] [])
        (.block 2 (.loop (.seq (.reg false [⟨(some 41), .bin .lss (.t 40) (.t 39), none⟩] [])
            (.seq (.cond (.t 41)
              .skip
              (.exit 2))
            (.seq (.block 3 (.seq (.reg false [⟨(some 42), .mv (.t 40), none⟩, ⟨(some 43), .iaddrS 1 (.t 38) (.t 40), none⟩, ⟨(some 44), .load false 1 (.t 43), none⟩, ⟨(some 9), .mv (.t 42), none⟩, ⟨(some 10), .mv (.t 44), none⟩] [])
              (.seq (.reg false [⟨(some 45), .mv (.t 8), none⟩, ⟨(some 46), .mv (.t 10), none⟩, ⟨(some 47), .conv .u64 (.t 46), none⟩, ⟨(some 48), .bin .mul (.t 47) (.c (.int .u64 1000000000)), none⟩, ⟨(some 49), .bin .add (.t 45) (.t 48), none⟩, ⟨(some 8), .mv (.t 49), none⟩] [])
              (.seq (.reg false [⟨(some 50), .mv (.t 4), none⟩, ⟨(some 51), .mv (.t 9), none⟩, ⟨(some 52), .mv (.t 8), none⟩, ⟨(some 53), .conv .u32 (.t 52), none⟩, ⟨(some 54), .iaddrS 1 (.t 50) (.t 51), none⟩, ⟨none, .store 1 (.t 54) (.t 53), none⟩] [])
              (.reg false [⟨(some 55), .mv (.t 8), none⟩, ⟨(some 56), .bin .shr (.t 55) (.c (.int .u64 32)), none⟩, ⟨(some 8), .mv (.t 56), none⟩] [])))))
            (.reg false [⟨(some 57), .bin .add (.t 40) (.c (.int .i64 1)), none⟩, ⟨(some 40), .mv (.t 57), none⟩] [])))))))
        (.seq (.reg false [⟨(some 58), .mv (.t 8), none⟩, ⟨(some 59), .bin .gtr (.t 58) (.c (.int .u64 0)), none⟩] [])
        (.cond (.t 59)
          (.reg false [⟨(some 60), .mv (.t 4), none⟩, ⟨(some 61), .mv (.t 8), none⟩, ⟨(some 62), .conv .u32 (.t 61), none⟩, ⟨(some 63), .lit 49 1 1 [(.int .u32 0)] [(0, 1, (.t 62))], none⟩, ⟨(some 64), .app 49 1 4 (.t 60) (.t 63), none⟩, ⟨(some 4), .mv (.t 64), none⟩] [])
          .skip)))))))))))
  (.seq (.reg false [⟨(some 65), .mv (.t 4), none⟩, ⟨(some 66), .build [.nils] [(0, 1, (.t 65))], none⟩, ⟨none, .store 1 (.t 2) (.t 66), none⟩, ⟨(some 3), .mv (.c (.bool true)), none⟩] [])
  .ret)))))
/-- cubit/cubitref1.Parse -/
def c13 : IR :=
  (.seq (.reg false [⟨(some 2), .mv (.c .nils), none⟩, ⟨(some 3), .mv (.c (.bool false)), none⟩] [])
  (.seq (.reg false [⟨(some 4), .mv (.c .nils), none⟩] [])
  (.seq (.seq (.reg false [⟨(some 5), .mv (.c (.int .i64 0)), none⟩] [])
  (.block 0 (.loop (.seq (.seq (.reg false [⟨(some 10), .mv (.t 5), none⟩, ⟨(some 11), .mv (.t 0), none⟩, ⟨(some 12), .lenS (.t 11), none⟩, ⟨(some 13), .bin .lss (.t 10) (.t 12), none⟩] [])
      (.cond (.t 13)
        .skip
        (.exit 0)))
      (.seq (.block 1 (.seq (.reg false [⟨(some 16), .mv (.t 0), none⟩, ⟨(some 17), .mv (.t 5), none⟩, ⟨(some 18), .idxs (.t 16) (.t 17), none⟩, ⟨(some 19), .bin .lss (.t 18) (.c (.int .u8 48)), none⟩, ⟨(some 20), .mv (.t 19), none⟩, ⟨(some 21), .mv (.t 0), (some ((some 20), false))⟩, ⟨(some 22), .mv (.t 5), (some ((some 20), false))⟩, ⟨(some 23), .idxs (.t 21) (.t 22), (some ((some 20), false))⟩, ⟨(some 24), .bin .gtr (.t 23) (.c (.int .u8 57)), (some ((some 20), false))⟩, ⟨(some 25), .pick (.t 20) (.c (.bool true)) (.t 24), none⟩] [])
        (.cond (.t 25)
          (.seq (.reg false [⟨(some 2), .mv (.c .nils), none⟩, ⟨(some 3), .mv (.c (.bool false)), none⟩] [])
          .ret)
          .skip)))
      (.reg false [⟨(some 14), .mv (.t 5), none⟩, ⟨(some 15), .bin .add (.t 14) (.c (.int .i64 1)), none⟩, ⟨(some 5), .mv (.t 15), none⟩] []))))))
  (.seq (.seq (.reg false [⟨(some 26), .mv (.t 0), none⟩, ⟨(some 27), .lenS (.t 26), none⟩, ⟨(some 6), .mv (.t 27), none⟩] [])
  (.block 2 (.loop (.seq (.seq (.reg false [⟨(some 28), .mv (.t 6), none⟩, ⟨(some 29), .bin .gtr (.t 28) (.c (.int .i64 0)), none⟩] [])
      (.cond (.t 29)
        .skip
        (.exit 2)))
      (.seq (.block 3 (.seq (.reg false [⟨(some 7), .mv (.c (.int .i64 0)), none⟩] [])
        (.seq (.reg false [⟨(some 32), .mv (.t 6), none⟩, ⟨(some 33), .bin .sub (.t 32) (.c (.int .i64 4)), none⟩, ⟨(some 8), .mv (.t 33), none⟩] [])
        (.seq (.seq (.reg false [⟨(some 34), .mv (.t 8), none⟩, ⟨(some 35), .bin .lss (.t 34) (.c (.int .i64 0)), none⟩] [])
        (.cond (.t 35)
          (.reg false [⟨(some 8), .mv (.c (.int .i64 0)), none⟩] [])
          .skip))
        (.seq (.seq (.reg false [⟨(some 36), .mv (.t 8), none⟩, ⟨(some 9), .mv (.t 36), none⟩] [])
        (.block 4 (.loop (.seq (.seq (.reg false [⟨(some 37), .mv (.t 9), none⟩, ⟨(some 38), .mv (.t 6), none⟩, ⟨(some 39), .bin .lss (.t 37) (.t 38), none⟩] [])
            (.cond (.t 39)
              .skip
              (.exit 4)))
            (.seq (.block 5 (.reg false [⟨(some 42), .mv (.t 7), none⟩, ⟨(some 43), .bin .mul (.c (.int .i64 10)) (.t 42), none⟩, ⟨(some 44), .mv (.t 0), none⟩, ⟨(some 45), .mv (.t 9), none⟩, ⟨(some 46), .idxs (.t 44) (.t 45), none⟩, ⟨(some 47), .bin .sub (.t 46) (.c (.int .u8 48)), none⟩, ⟨(some 48), .conv .i64 (.t 47), none⟩, ⟨(some 49), .bin .add (.t 43) (.t 48), none⟩, ⟨(some 7), .mv (.t 49), none⟩] []))
            (.reg false [⟨(some 40), .mv (.t 9), none⟩, ⟨(some 41), .bin .add (.t 40) (.c (.int .i64 1)), none⟩, ⟨(some 9), .mv (.t 41), none⟩] []))))))
        (.reg false [⟨(some 50), .mv (.t 4), none⟩, ⟨(some 51), .mv (.t 7), none⟩, ⟨(some 52), .lit 3 1 1 [(.int .i64 0)] [(0, 1, (.t 51))], none⟩, ⟨(some 53), .app 3 1 8 (.t 50) (.t 52), none⟩, ⟨(some 4), .mv (.t 53), none⟩] []))))))
      (.reg false [⟨(some 30), .mv (.t 6), none⟩, ⟨(some 31), .bin .sub (.t 30) (.c (.int .i64 4)), none⟩, ⟨(some 6), .mv (.t 31), none⟩] []))))))
  (.seq (.reg false [⟨(some 54), .mv (.t 4), none⟩, ⟨(some 55), .call 32 [(.t 54)], none⟩, ⟨(some 56), .mv (.t 0), none⟩, ⟨(some 57), .bin .neq (.t 56) (.c (.str ⟨#[]⟩)), none⟩, ⟨(some 2), .mv (.t 55), none⟩, ⟨(some 3), .mv (.t 57), none⟩] [])
  .ret)))))
/-- cubit/cubitlaw1.is -/
def c14 : IR :=
  (.seq (.reg false [⟨(some 2), .box 25 1 (.t 0), none⟩, ⟨(some 4), .mv (.c (.bool false)), none⟩] [])
  (.seq (.reg false [⟨(some 5), .faddr 0 (.t 2), none⟩, ⟨(some 6), .load false 1 (.t 5), none⟩, ⟨(some 7), .lenL (.t 6), none⟩, ⟨(some 8), .bin .lss (.t 7) (.c (.int .i64 4000)), none⟩, ⟨(some 9), .mv (.t 8), none⟩, ⟨(some 10), .load true 1 (.t 2), (some ((some 9), true))⟩, ⟨(some 11), .call 26 [(.t 10)], (some ((some 9), true))⟩, ⟨(some 12), .pick (.t 9) (.t 11) (.c (.bool false)), none⟩, ⟨(some 13), .mv (.t 12), none⟩, ⟨(some 14), .faddr 0 (.t 2), (some ((some 13), true))⟩, ⟨(some 15), .load false 1 (.t 14), (some ((some 13), true))⟩, ⟨(some 16), .call 16 [(.t 15)], (some ((some 13), true))⟩, ⟨(some 17), .mv (.t 1), (some ((some 13), true))⟩, ⟨(some 18), .call 33 [(.t 16), (.t 17)], (some ((some 13), true))⟩, ⟨(some 19), .bin .eql (.t 18) (.c (.int .i64 0)), (some ((some 13), true))⟩, ⟨(some 20), .pick (.t 13) (.t 19) (.c (.bool false)), none⟩, ⟨(some 4), .mv (.t 20), none⟩] [])
  .ret))
/-- cubit/nat.Text -/
def c15 : IR :=
  (.seq (.reg false [⟨(some 1), .box 25 1 (.t 0), none⟩, ⟨(some 2), .mv (.c (.str ⟨#[]⟩)), none⟩] [])
  (.seq (.reg false [⟨(some 8), .faddr 0 (.t 1), none⟩, ⟨(some 9), .load false 1 (.t 8), none⟩, ⟨(some 10), .call 34 [(.t 9)], none⟩, ⟨(some 11), .fld false 0 1 (.t 10), none⟩, ⟨(some 3), .mv (.t 11), none⟩] [])
  (.seq (.seq (.reg false [⟨(some 12), .mv (.t 3), none⟩, ⟨(some 13), .lenL (.t 12), none⟩, ⟨(some 14), .bin .eql (.t 13) (.c (.int .i64 0)), none⟩] [])
  (.cond (.t 14)
    (.seq (.reg false [⟨(some 2), .mv (.c (.str ⟨#[48]⟩)), none⟩] [])
    .ret)
    .skip))
  (.seq (.reg false [⟨(some 4), .mv (.c .nils), none⟩] [])
  (.seq (.block 0 (.loop (.seq (.seq (.reg false [⟨(some 15), .mv (.t 3), none⟩, ⟨(some 16), .lenL (.t 15), none⟩, ⟨(some 17), .bin .gtr (.t 16) (.c (.int .i64 0)), none⟩] [])
      (.cond (.t 17)
        .skip
        (.exit 0)))
      (.block 1 (.seq (.reg false [⟨(some 19), .mv (.t 3), none⟩, ⟨(some 20), .call 35 [(.t 19), (.c (.int .u32 1000000000))], none⟩, ⟨(some 18), .mv (.t 20), none⟩, ⟨(some 21), .ext (.t 18) 0, none⟩, ⟨(some 22), .ext (.t 18) 1, none⟩, ⟨(some 5), .mv (.t 21), none⟩, ⟨(some 6), .mv (.t 22), none⟩] [])
        (.seq (.reg false [⟨(some 23), .mv (.t 5), none⟩, ⟨(some 24), .call 34 [(.t 23)], none⟩, ⟨(some 25), .fld false 0 1 (.t 24), none⟩, ⟨(some 3), .mv (.t 25), none⟩] [])
        (.seq (.reg false [⟨(some 26), .mv (.t 6), none⟩, ⟨(some 27), .conv .i64 (.t 26), none⟩, ⟨(some 28), .call 36 [(.t 27)], none⟩, ⟨(some 7), .mv (.t 28), none⟩] [])
        (.seq (.seq (.reg false [⟨(some 29), .mv (.t 3), none⟩, ⟨(some 30), .lenL (.t 29), none⟩, ⟨(some 31), .bin .gtr (.t 30) (.c (.int .i64 0)), none⟩] [])
        (.cond (.t 31)
          (.reg false [⟨(some 32), .mv (.t 7), none⟩, ⟨(some 33), .lenS (.t 32), none⟩, ⟨(some 34), .bin .sub (.c (.int .i64 9)) (.t 33), none⟩, ⟨(some 35), .call 37 [(.c (.str ⟨#[48]⟩)), (.t 34)], none⟩, ⟨(some 36), .mv (.t 7), none⟩, ⟨(some 37), .bin .add (.t 35) (.t 36), none⟩, ⟨(some 7), .mv (.t 37), none⟩] [])
          .skip))
        (.reg false [⟨(some 38), .mv (.t 4), none⟩, ⟨(some 39), .mv (.t 7), none⟩, ⟨(some 40), .lit 9 1 1 [(.str ⟨#[]⟩)] [(0, 1, (.t 39))], none⟩, ⟨(some 41), .app 9 1 16 (.t 38) (.t 40), none⟩, ⟨(some 4), .mv (.t 41), none⟩] [])))))))))
  (.seq (.reg false [⟨(some 42), .mv (.t 4), none⟩, ⟨(some 43), .call 38 [(.t 42)], none⟩] [])
  (.seq (.reg false [⟨(some 44), .mv (.t 4), none⟩, ⟨(some 45), .call 39 [(.t 44), (.c (.str ⟨#[]⟩))], none⟩, ⟨(some 2), .mv (.t 45), none⟩] [])
  .ret)))))))
/-- cubit/cubitref1.Words -/
def c16 : IR :=
  (.seq (.reg false [⟨(some 2), .mv (.c .nils), none⟩] [])
  (.seq (.reg false [⟨(some 3), .mv (.c .nils), none⟩] [])
  (.seq (.reg false [⟨(some 6), .call 28 [(.c (.int .u64 4294967296))], none⟩, ⟨(some 4), .mv (.t 6), none⟩] [])
  (.seq (.seq (.reg false [⟨(some 7), .mv (.t 0), none⟩, ⟨(some 8), .lenL (.t 7), none⟩, ⟨(some 9), .bin .sub (.t 8) (.c (.int .i64 1)), none⟩, ⟨(some 5), .mv (.t 9), none⟩] [])
  (.block 0 (.loop (.seq (.seq (.reg false [⟨(some 10), .mv (.t 5), none⟩, ⟨(some 11), .bin .geq (.t 10) (.c (.int .i64 0)), none⟩] [])
      (.cond (.t 11)
        .skip
        (.exit 0)))
      (.seq (.block 1 (.reg true [⟨(some 14), .mv (.t 3), none⟩, ⟨(some 15), .mv (.t 4), none⟩, ⟨(some 16), .call 41 [(.t 14), (.t 15)], none⟩, ⟨(some 17), .mv (.t 0), none⟩, ⟨(some 18), .mv (.t 5), none⟩, ⟨(some 19), .iaddrS 1 (.t 17) (.t 18), none⟩, ⟨(some 20), .load false 1 (.t 19), none⟩, ⟨(some 21), .conv .u64 (.t 20), none⟩, ⟨(some 22), .call 28 [(.t 21)], none⟩, ⟨(some 23), .call 40 [(.t 16), (.t 22)], none⟩, ⟨(some 3), .mv (.t 23), none⟩] [0, 0, 3, 0, 0, 24, 56, 120, 255, 511, 1023]))
      (.reg false [⟨(some 12), .mv (.t 5), none⟩, ⟨(some 13), .bin .sub (.t 12) (.c (.int .i64 1)), none⟩, ⟨(some 5), .mv (.t 13), none⟩] []))))))
  (.seq (.reg false [⟨(some 24), .mv (.t 3), none⟩, ⟨(some 2), .mv (.t 24), none⟩] [])
  .ret)))))
/-- cubit/nat.Pow -/
def c17 : IR :=
  (.seq (.reg false [⟨(some 2), .box 25 1 (.t 0), none⟩, ⟨(some 4), .new 25 1 [.nils], none⟩] [])
  (.seq (.reg false [⟨(some 6), .call 25 [(.c (.int .u64 1))], none⟩, ⟨(some 5), .new 25 1 [.nils], none⟩, ⟨none, .store 1 (.t 5) (.t 6), none⟩] [])
  (.seq (.block 0 (.loop (.seq (.seq (.reg false [⟨(some 7), .mv (.t 1), none⟩, ⟨(some 8), .bin .gtr (.t 7) (.c (.int .i64 0)), none⟩] [])
      (.cond (.t 8)
        .skip
        (.exit 0)))
      (.seq (.block 1 (.seq (.seq (.reg false [⟨(some 11), .mv (.t 1), none⟩, ⟨(some 12), .bin .rem (.t 11) (.c (.int .i64 2)), none⟩, ⟨(some 13), .bin .eql (.t 12) (.c (.int .i64 1)), none⟩] [])
        (.cond (.t 13)
          (.reg false [⟨(some 14), .load true 1 (.t 5), none⟩, ⟨(some 15), .load true 1 (.t 2), none⟩, ⟨(some 16), .call 20 [(.t 14), (.t 15)], none⟩, ⟨none, .store 1 (.t 5) (.t 16), none⟩] [])
          .skip))
        (.seq (.reg false [⟨(some 17), .mv (.t 1), none⟩, ⟨(some 18), .bin .gtr (.t 17) (.c (.int .i64 1)), none⟩] [])
        (.cond (.t 18)
          (.reg false [⟨(some 19), .load true 1 (.t 2), none⟩, ⟨(some 20), .load true 1 (.t 2), none⟩, ⟨(some 21), .call 20 [(.t 19), (.t 20)], none⟩, ⟨none, .store 1 (.t 2) (.t 21), none⟩] [])
          .skip))))
      (.reg false [⟨(some 9), .mv (.t 1), none⟩, ⟨(some 10), .bin .quo (.t 9) (.c (.int .i64 2)), none⟩, ⟨(some 1), .mv (.t 10), none⟩] [])))))
  (.seq (.reg false [⟨(some 22), .load true 1 (.t 5), none⟩, ⟨none, .store 1 (.t 4) (.t 22), none⟩] [])
  .ret))))
/-- cubit/cubitref1.Pow -/
def c18 : IR :=
  (.seq (.reg false [⟨(some 4), .mv (.c .nils), none⟩] [])
  (.seq (.reg false [⟨(some 7), .call 28 [(.c (.int .u64 1))], none⟩, ⟨(some 5), .mv (.t 7), none⟩] [])
  (.seq (.seq (.reg false [⟨(some 6), .mv (.c (.int .i64 0)), none⟩] [])
  (.block 0 (.loop (.seq (.seq (.reg false [⟨(some 8), .mv (.t 6), none⟩, ⟨(some 9), .mv (.t 1), none⟩, ⟨(some 10), .bin .lss (.t 8) (.t 9), none⟩] [])
      (.cond (.t 10)
        .skip
        (.exit 0)))
      (.seq (.block 1 (.reg false [⟨(some 13), .mv (.t 5), none⟩, ⟨(some 14), .mv (.t 0), none⟩, ⟨(some 15), .call 41 [(.t 13), (.t 14)], none⟩, ⟨(some 5), .mv (.t 15), none⟩] []))
      (.reg false [⟨(some 11), .mv (.t 6), none⟩, ⟨(some 12), .bin .add (.t 11) (.c (.int .i64 1)), none⟩, ⟨(some 6), .mv (.t 12), none⟩] []))))))
  (.seq (.reg false [⟨(some 16), .mv (.t 5), none⟩, ⟨(some 4), .mv (.t 16), none⟩] [])
  .ret))))
/-- cubit/nat.Cmp -/
def c19 : IR :=
  (.seq (.reg false [⟨(some 2), .box 25 1 (.t 0), none⟩, ⟨(some 3), .box 25 1 (.t 1), none⟩, ⟨(some 4), .mv (.c (.int .i64 0)), none⟩] [])
  (.seq (.reg true [⟨(some 8), .faddr 0 (.t 2), none⟩, ⟨(some 9), .load false 1 (.t 8), none⟩, ⟨(some 10), .call 34 [(.t 9)], none⟩, ⟨(some 11), .fld false 0 1 (.t 10), none⟩, ⟨(some 12), .faddr 0 (.t 3), none⟩, ⟨(some 13), .load false 1 (.t 12), none⟩, ⟨(some 14), .call 34 [(.t 13)], none⟩, ⟨(some 15), .fld false 0 1 (.t 14), none⟩, ⟨(some 5), .mv (.t 11), none⟩, ⟨(some 6), .mv (.t 15), none⟩] [0, 1, 3, 7, 0, 16, 55, 119, 127, 511])
  (.seq (.seq (.reg false [⟨(some 16), .mv (.t 5), none⟩, ⟨(some 17), .lenL (.t 16), none⟩, ⟨(some 18), .mv (.t 6), none⟩, ⟨(some 19), .lenL (.t 18), none⟩, ⟨(some 20), .bin .neq (.t 17) (.t 19), none⟩] [])
  (.cond (.t 20)
    (.seq (.reg false [⟨(some 21), .mv (.t 5), none⟩, ⟨(some 22), .lenL (.t 21), none⟩, ⟨(some 23), .mv (.t 6), none⟩, ⟨(some 24), .lenL (.t 23), none⟩, ⟨(some 25), .bin .lss (.t 22) (.t 24), none⟩, ⟨(some 26), .call 42 [(.t 25)], none⟩, ⟨(some 4), .mv (.t 26), none⟩] [])
    .ret)
    .skip))
  (.seq (.seq (.reg false [⟨(some 27), .mv (.t 5), none⟩, ⟨(some 28), .lenL (.t 27), none⟩, ⟨(some 29), .bin .sub (.t 28) (.c (.int .i64 1)), none⟩, ⟨(some 7), .mv (.t 29), none⟩] [])
  (.block 0 (.loop (.seq (.seq (.reg false [⟨(some 30), .mv (.t 7), none⟩, ⟨(some 31), .bin .geq (.t 30) (.c (.int .i64 0)), none⟩] [])
      (.cond (.t 31)
        .skip
        (.exit 0)))
      (.seq (.block 1 (.seq (.reg true [⟨(some 34), .mv (.t 5), none⟩, ⟨(some 35), .mv (.t 7), none⟩, ⟨(some 36), .iaddrS 1 (.t 34) (.t 35), none⟩, ⟨(some 37), .load false 1 (.t 36), none⟩, ⟨(some 38), .mv (.t 6), none⟩, ⟨(some 39), .mv (.t 7), none⟩, ⟨(some 40), .iaddrS 1 (.t 38) (.t 39), none⟩, ⟨(some 41), .load false 1 (.t 40), none⟩, ⟨(some 42), .bin .neq (.t 37) (.t 41), none⟩] [0, 0, 3, 7, 0, 0, 48, 112, 255])
        (.cond (.t 42)
          (.seq (.reg true [⟨(some 43), .mv (.t 5), none⟩, ⟨(some 44), .mv (.t 7), none⟩, ⟨(some 45), .iaddrS 1 (.t 43) (.t 44), none⟩, ⟨(some 46), .load false 1 (.t 45), none⟩, ⟨(some 47), .mv (.t 6), none⟩, ⟨(some 48), .mv (.t 7), none⟩, ⟨(some 49), .iaddrS 1 (.t 47) (.t 48), none⟩, ⟨(some 50), .load false 1 (.t 49), none⟩, ⟨(some 51), .bin .lss (.t 46) (.t 50), none⟩, ⟨(some 52), .call 42 [(.t 51)], none⟩, ⟨(some 4), .mv (.t 52), none⟩] [0, 0, 3, 7, 0, 0, 48, 112, 255, 511, 1023])
          .ret)
          .skip)))
      (.reg false [⟨(some 32), .mv (.t 7), none⟩, ⟨(some 33), .bin .sub (.t 32) (.c (.int .i64 1)), none⟩, ⟨(some 7), .mv (.t 33), none⟩] []))))))
  (.seq (.reg false [⟨(some 4), .mv (.c (.int .i64 0)), none⟩] [])
  .ret)))))
/-- cubit/nat.Mul -/
def c20 : IR :=
  (.seq (.reg false [⟨(some 2), .box 25 1 (.t 0), none⟩, ⟨(some 3), .box 25 1 (.t 1), none⟩, ⟨(some 4), .new 25 1 [.nils], none⟩] [])
  (.seq (.reg false [⟨(some 11), .faddr 0 (.t 2), none⟩, ⟨(some 12), .load false 1 (.t 11), none⟩, ⟨(some 13), .lenL (.t 12), none⟩, ⟨(some 14), .faddr 0 (.t 3), none⟩, ⟨(some 15), .load false 1 (.t 14), none⟩, ⟨(some 16), .lenL (.t 15), none⟩, ⟨(some 17), .bin .add (.t 13) (.t 16), none⟩, ⟨(some 18), .make 49 1 4 [(.int .u32 0)] (.t 17), none⟩, ⟨(some 5), .mv (.t 18), none⟩] [])
  (.seq (.seq (.reg false [⟨(some 19), .faddr 0 (.t 2), none⟩, ⟨(some 20), .load false 1 (.t 19), none⟩, ⟨(some 21), .lenL (.t 20), none⟩, ⟨(some 22), .mv (.c (.int .i64 0)), none⟩] [])
  (.block 0 (.loop (.seq (.reg false [⟨(some 23), .bin .lss (.t 22) (.t 21), none⟩] [])
      (.seq (.cond (.t 23)
        .skip
        (.exit 0))
      (.seq (.block 1 (.seq (.reg false [⟨(some 24), .mv (.t 22), none⟩, ⟨(some 25), .iaddrS 1 (.t 20) (.t 22), none⟩, ⟨(some 26), .load false 1 (.t 25), none⟩, ⟨(some 6), .mv (.t 24), none⟩, ⟨(some 7), .mv (.t 26), none⟩] [])
        (.seq (.reg false [⟨(some 8), .mv (.c (.int .u64 0)), none⟩] [])
        (.seq (.seq (.reg false [⟨(some 27), .faddr 0 (.t 3), none⟩, ⟨(some 28), .load false 1 (.t 27), none⟩, ⟨(some 29), .lenL (.t 28), none⟩, ⟨(some 30), .mv (.c (.int .i64 0)), none⟩] [])
        (.block 2 (.loop (.seq (.reg false [⟨(some 31), .bin .lss (.t 30) (.t 29), none⟩] [])
            (.seq (.cond (.t 31)
              .skip
              (.exit 2))
            (.seq (.block 3 (.seq (.reg false [⟨(some 32), .mv (.t 30), none⟩, ⟨(some 33), .iaddrS 1 (.t 28) (.t 30), none⟩, ⟨(some 34), .load false 1 (.t 33), none⟩, ⟨(some 9), .mv (.t 32), none⟩, ⟨(some 10), .mv (.t 34), none⟩] [])
              (.seq (.reg false [⟨(some 35), .mv (.t 8), none⟩, ⟨(some 36), .mv (.t 7), none⟩, ⟨(some 37), .conv .u64 (.t 36), none⟩, ⟨(some 38), .mv (.t 10), none⟩, ⟨(some 39), .conv .u64 (.t 38), none⟩, ⟨(some 40), .bin .mul (.t 37) (.t 39), none⟩, ⟨(some 41), .mv (.t 5), none⟩, ⟨(some 42), .mv (.t 6), none⟩, ⟨(some 43), .mv (.t 9), none⟩, ⟨(some 44), .bin .add (.t 42) (.t 43), none⟩, ⟨(some 45), .iaddrS 1 (.t 41) (.t 44), none⟩, ⟨(some 46), .load false 1 (.t 45), none⟩, ⟨(some 47), .conv .u64 (.t 46), none⟩, ⟨(some 48), .bin .add (.t 40) (.t 47), none⟩, ⟨(some 49), .bin .add (.t 35) (.t 48), none⟩, ⟨(some 8), .mv (.t 49), none⟩] [])
              (.seq (.reg false [⟨(some 50), .mv (.t 5), none⟩, ⟨(some 51), .mv (.t 6), none⟩, ⟨(some 52), .mv (.t 9), none⟩, ⟨(some 53), .bin .add (.t 51) (.t 52), none⟩, ⟨(some 54), .mv (.t 8), none⟩, ⟨(some 55), .conv .u32 (.t 54), none⟩, ⟨(some 56), .iaddrS 1 (.t 50) (.t 53), none⟩, ⟨none, .store 1 (.t 56) (.t 55), none⟩] [])
              (.reg false [⟨(some 57), .mv (.t 8), none⟩, ⟨(some 58), .bin .shr (.t 57) (.c (.int .u64 32)), none⟩, ⟨(some 8), .mv (.t 58), none⟩] [])))))
            (.reg false [⟨(some 59), .bin .add (.t 30) (.c (.int .i64 1)), none⟩, ⟨(some 30), .mv (.t 59), none⟩] [])))))))
        (.reg false [⟨(some 60), .mv (.t 5), none⟩, ⟨(some 61), .mv (.t 6), none⟩, ⟨(some 62), .faddr 0 (.t 3), none⟩, ⟨(some 63), .load false 1 (.t 62), none⟩, ⟨(some 64), .lenL (.t 63), none⟩, ⟨(some 65), .bin .add (.t 61) (.t 64), none⟩, ⟨(some 66), .mv (.t 8), none⟩, ⟨(some 67), .conv .u32 (.t 66), none⟩, ⟨(some 68), .iaddrS 1 (.t 60) (.t 65), none⟩, ⟨none, .store 1 (.t 68) (.t 67), none⟩] [])))))
      (.reg false [⟨(some 69), .bin .add (.t 22) (.c (.int .i64 1)), none⟩, ⟨(some 22), .mv (.t 69), none⟩] [])))))))
  (.seq (.reg false [⟨(some 70), .mv (.t 5), none⟩, ⟨(some 71), .call 34 [(.t 70)], none⟩, ⟨none, .store 1 (.t 4) (.t 71), none⟩] [])
  .ret))))
/-- cubit/nat.Sub -/
def c21 : IR :=
  (.seq (.reg false [⟨(some 2), .box 25 1 (.t 0), none⟩, ⟨(some 3), .box 25 1 (.t 1), none⟩, ⟨(some 4), .new 25 1 [.nils], none⟩, ⟨(some 5), .mv (.c (.bool false)), none⟩] [])
  (.seq (.seq (.reg false [⟨(some 10), .load true 1 (.t 2), none⟩, ⟨(some 11), .load true 1 (.t 3), none⟩, ⟨(some 12), .call 19 [(.t 10), (.t 11)], none⟩, ⟨(some 13), .bin .lss (.t 12) (.c (.int .i64 0)), none⟩] [])
  (.cond (.t 13)
    (.seq (.reg false [⟨(some 14), .build [.nils] [], none⟩, ⟨none, .store 1 (.t 4) (.t 14), none⟩, ⟨(some 5), .mv (.c (.bool false)), none⟩] [])
    .ret)
    .skip))
  (.seq (.reg false [⟨(some 15), .faddr 0 (.t 2), none⟩, ⟨(some 16), .load false 1 (.t 15), none⟩, ⟨(some 17), .lenL (.t 16), none⟩, ⟨(some 18), .make 49 1 4 [(.int .u32 0)] (.t 17), none⟩, ⟨(some 6), .mv (.t 18), none⟩] [])
  (.seq (.reg false [⟨(some 7), .mv (.c (.int .u64 0)), none⟩] [])
  (.seq (.seq (.reg false [⟨(some 19), .mv (.t 6), none⟩, ⟨(some 20), .lenL (.t 19), none⟩, ⟨(some 21), .mv (.c (.int .i64 0)), none⟩] [])
  (.block 0 (.loop (.seq (.reg false [⟨(some 22), .bin .lss (.t 21) (.t 20), none⟩] [])
      (.seq (.cond (.t 22)
        .skip
        (.exit 0))
      (.seq (.block 1 (.seq (.reg false [⟨(some 23), .mv (.t 21), none⟩, ⟨(some 8), .mv (.t 23), none⟩] [])
        (.seq (.reg true [⟨(some 24), .faddr 0 (.t 2), none⟩, ⟨(some 25), .load false 1 (.t 24), none⟩, ⟨(some 26), .mv (.t 8), none⟩, ⟨(some 27), .call 43 [(.t 25), (.t 26)], none⟩, ⟨(some 28), .faddr 0 (.t 3), none⟩, ⟨(some 29), .load false 1 (.t 28), none⟩, ⟨(some 30), .mv (.t 8), none⟩, ⟨(some 31), .call 43 [(.t 29), (.t 30)], none⟩, ⟨(some 32), .bin .sub (.t 27) (.t 31), none⟩, ⟨(some 33), .mv (.t 7), none⟩, ⟨(some 34), .bin .sub (.t 32) (.t 33), none⟩, ⟨(some 9), .mv (.t 34), none⟩] [0, 1, 0, 7, 0, 16, 0, 127, 255, 0, 1023, 2047])
        (.seq (.reg false [⟨(some 35), .mv (.t 6), none⟩, ⟨(some 36), .mv (.t 8), none⟩, ⟨(some 37), .mv (.t 9), none⟩, ⟨(some 38), .conv .u32 (.t 37), none⟩, ⟨(some 39), .iaddrS 1 (.t 35) (.t 36), none⟩, ⟨none, .store 1 (.t 39) (.t 38), none⟩] [])
        (.reg false [⟨(some 40), .mv (.t 9), none⟩, ⟨(some 41), .bin .shr (.t 40) (.c (.int .u64 32)), none⟩, ⟨(some 42), .bin .and (.t 41) (.c (.int .u64 1)), none⟩, ⟨(some 7), .mv (.t 42), none⟩] [])))))
      (.reg false [⟨(some 43), .bin .add (.t 21) (.c (.int .i64 1)), none⟩, ⟨(some 21), .mv (.t 43), none⟩] [])))))))
  (.seq (.reg false [⟨(some 44), .mv (.t 6), none⟩, ⟨(some 45), .call 34 [(.t 44)], none⟩, ⟨none, .store 1 (.t 4) (.t 45), none⟩, ⟨(some 5), .mv (.c (.bool true)), none⟩] [])
  .ret))))))
/-- cubit/nat.Add -/
def c22 : IR :=
  (.seq (.reg false [⟨(some 2), .box 25 1 (.t 0), none⟩, ⟨(some 3), .box 25 1 (.t 1), none⟩, ⟨(some 4), .new 25 1 [.nils], none⟩] [])
  (.seq (.reg false [⟨(some 8), .faddr 0 (.t 2), none⟩, ⟨(some 9), .load false 1 (.t 8), none⟩, ⟨(some 10), .lenL (.t 9), none⟩, ⟨(some 11), .faddr 0 (.t 3), none⟩, ⟨(some 12), .load false 1 (.t 11), none⟩, ⟨(some 13), .lenL (.t 12), none⟩, ⟨(some 14), .mx (.t 10) (.t 13), none⟩, ⟨(some 15), .bin .add (.t 14) (.c (.int .i64 1)), none⟩, ⟨(some 16), .make 49 1 4 [(.int .u32 0)] (.t 15), none⟩, ⟨(some 5), .mv (.t 16), none⟩] [])
  (.seq (.reg false [⟨(some 6), .mv (.c (.int .u64 0)), none⟩] [])
  (.seq (.seq (.reg false [⟨(some 17), .mv (.t 5), none⟩, ⟨(some 18), .lenL (.t 17), none⟩, ⟨(some 19), .mv (.c (.int .i64 0)), none⟩] [])
  (.block 0 (.loop (.seq (.reg false [⟨(some 20), .bin .lss (.t 19) (.t 18), none⟩] [])
      (.seq (.cond (.t 20)
        .skip
        (.exit 0))
      (.seq (.block 1 (.seq (.reg false [⟨(some 21), .mv (.t 19), none⟩, ⟨(some 7), .mv (.t 21), none⟩] [])
        (.seq (.reg true [⟨(some 22), .mv (.t 6), none⟩, ⟨(some 23), .faddr 0 (.t 2), none⟩, ⟨(some 24), .load false 1 (.t 23), none⟩, ⟨(some 25), .mv (.t 7), none⟩, ⟨(some 26), .call 43 [(.t 24), (.t 25)], none⟩, ⟨(some 27), .faddr 0 (.t 3), none⟩, ⟨(some 28), .load false 1 (.t 27), none⟩, ⟨(some 29), .mv (.t 7), none⟩, ⟨(some 30), .call 43 [(.t 28), (.t 29)], none⟩, ⟨(some 31), .bin .add (.t 26) (.t 30), none⟩, ⟨(some 32), .bin .add (.t 22) (.t 31), none⟩, ⟨(some 6), .mv (.t 32), none⟩] [0, 0, 2, 0, 14, 0, 32, 0, 254, 510, 1023, 2047])
        (.seq (.reg false [⟨(some 33), .mv (.t 5), none⟩, ⟨(some 34), .mv (.t 7), none⟩, ⟨(some 35), .mv (.t 6), none⟩, ⟨(some 36), .conv .u32 (.t 35), none⟩, ⟨(some 37), .iaddrS 1 (.t 33) (.t 34), none⟩, ⟨none, .store 1 (.t 37) (.t 36), none⟩] [])
        (.reg false [⟨(some 38), .mv (.t 6), none⟩, ⟨(some 39), .bin .shr (.t 38) (.c (.int .u64 32)), none⟩, ⟨(some 6), .mv (.t 39), none⟩] [])))))
      (.reg false [⟨(some 40), .bin .add (.t 19) (.c (.int .i64 1)), none⟩, ⟨(some 19), .mv (.t 40), none⟩] [])))))))
  (.seq (.reg false [⟨(some 41), .mv (.t 5), none⟩, ⟨(some 42), .call 34 [(.t 41)], none⟩, ⟨none, .store 1 (.t 4) (.t 42), none⟩] [])
  .ret)))))
/-- cubit/nat.Gcd -/
def c23 : IR :=
  (.seq (.reg false [⟨(some 2), .box 25 1 (.t 0), none⟩, ⟨(some 3), .box 25 1 (.t 1), none⟩, ⟨(some 4), .new 25 1 [.nils], none⟩] [])
  (.seq (.reg true [⟨(some 8), .faddr 0 (.t 2), none⟩, ⟨(some 9), .load false 1 (.t 8), none⟩, ⟨(some 10), .call 34 [(.t 9)], none⟩, ⟨(some 11), .faddr 0 (.t 3), none⟩, ⟨(some 12), .load false 1 (.t 11), none⟩, ⟨(some 13), .call 34 [(.t 12)], none⟩, ⟨none, .store 1 (.t 2) (.t 10), none⟩, ⟨none, .store 1 (.t 3) (.t 13), none⟩] [0, 1, 3, 0, 8, 31, 63, 127])
  (.seq (.block 0 (.loop (.seq (.seq (.reg false [⟨(some 14), .faddr 0 (.t 3), none⟩, ⟨(some 15), .load false 1 (.t 14), none⟩, ⟨(some 16), .lenL (.t 15), none⟩, ⟨(some 17), .bin .gtr (.t 16) (.c (.int .i64 0)), none⟩] [])
      (.cond (.t 17)
        .skip
        (.exit 0)))
      (.block 1 (.seq (.reg false [⟨(some 19), .load true 1 (.t 2), none⟩, ⟨(some 20), .load true 1 (.t 3), none⟩, ⟨(some 21), .call 24 [(.t 19), (.t 20)], none⟩, ⟨(some 18), .mv (.t 21), none⟩, ⟨(some 22), .ext (.t 18) 0, none⟩, ⟨(some 23), .ext (.t 18) 1, none⟩, ⟨(some 24), .ext (.t 18) 2, none⟩, ⟨(some 5), .new 25 1 [.nils], none⟩, ⟨(some 6), .new 25 1 [.nils], none⟩, ⟨none, .store 1 (.t 5) (.t 22), none⟩, ⟨none, .store 1 (.t 6) (.t 23), none⟩, ⟨(some 7), .mv (.t 24), none⟩] [])
        (.reg true [⟨(some 25), .load true 1 (.t 3), none⟩, ⟨(some 26), .load true 1 (.t 6), none⟩, ⟨none, .store 1 (.t 2) (.t 25), none⟩, ⟨none, .store 1 (.t 3) (.t 26), none⟩] [0, 0, 1, 7]))))))
  (.seq (.reg false [⟨(some 27), .faddr 0 (.t 2), none⟩, ⟨(some 28), .load false 1 (.t 27), none⟩, ⟨(some 29), .call 44 [(.t 28)], none⟩, ⟨(some 30), .build [.nils] [(0, 1, (.t 29))], none⟩, ⟨none, .store 1 (.t 4) (.t 30), none⟩] [])
  .ret))))
/-- cubit/nat.Div -/
def c24 : IR :=
  (.seq (.reg false [⟨(some 2), .box 25 1 (.t 0), none⟩, ⟨(some 3), .box 25 1 (.t 1), none⟩, ⟨(some 4), .new 25 1 [.nils], none⟩, ⟨(some 5), .new 25 1 [.nils], none⟩, ⟨(some 6), .mv (.c (.bool false)), none⟩] [])
  (.seq (.reg true [⟨(some 16), .faddr 0 (.t 2), none⟩, ⟨(some 17), .load false 1 (.t 16), none⟩, ⟨(some 18), .call 34 [(.t 17)], none⟩, ⟨(some 19), .fld false 0 1 (.t 18), none⟩, ⟨(some 20), .faddr 0 (.t 3), none⟩, ⟨(some 21), .load false 1 (.t 20), none⟩, ⟨(some 22), .call 34 [(.t 21)], none⟩, ⟨(some 23), .fld false 0 1 (.t 22), none⟩, ⟨(some 7), .mv (.t 19), none⟩, ⟨(some 8), .mv (.t 23), none⟩] [0, 1, 3, 7, 0, 16, 55, 119, 127, 511])
  (.seq (.block 0 (.seq (.reg false [⟨(some 25), .mv (.t 8), none⟩, ⟨(some 26), .lenL (.t 25), none⟩, ⟨(some 27), .bin .eql (.t 26) (.c (.int .i64 0)), none⟩, ⟨(some 24), .mv (.t 27), none⟩] [])
    (.cond (.t 24)
      (.seq (.reg false [⟨(some 28), .build [.nils] [], none⟩, ⟨(some 29), .build [.nils] [], none⟩, ⟨none, .store 1 (.t 4) (.t 28), none⟩, ⟨none, .store 1 (.t 5) (.t 29), none⟩, ⟨(some 6), .mv (.c (.bool false)), none⟩] [])
      .ret)
      (.seq (.reg false [⟨(some 31), .load true 1 (.t 2), none⟩, ⟨(some 32), .load true 1 (.t 3), none⟩, ⟨(some 33), .call 19 [(.t 31), (.t 32)], none⟩, ⟨(some 34), .bin .lss (.t 33) (.c (.int .i64 0)), none⟩, ⟨(some 30), .mv (.t 34), none⟩] [])
      (.cond (.t 30)
        (.seq (.reg false [⟨(some 35), .build [.nils] [], none⟩, ⟨(some 36), .mv (.t 7), none⟩, ⟨(some 37), .call 44 [(.t 36)], none⟩, ⟨(some 38), .build [.nils] [(0, 1, (.t 37))], none⟩, ⟨none, .store 1 (.t 4) (.t 35), none⟩, ⟨none, .store 1 (.t 5) (.t 38), none⟩, ⟨(some 6), .mv (.c (.bool true)), none⟩] [])
        .ret)
        (.seq (.reg false [⟨(some 40), .mv (.t 8), none⟩, ⟨(some 41), .lenL (.t 40), none⟩, ⟨(some 42), .bin .eql (.t 41) (.c (.int .i64 1)), none⟩, ⟨(some 39), .mv (.t 42), none⟩] [])
        (.cond (.t 39)
          (.seq (.reg false [⟨(some 44), .mv (.t 7), none⟩, ⟨(some 45), .mv (.t 8), none⟩, ⟨(some 46), .iaddrS 1 (.t 45) (.c (.int .i64 0)), none⟩, ⟨(some 47), .load false 1 (.t 46), none⟩, ⟨(some 48), .call 35 [(.t 44), (.t 47)], none⟩, ⟨(some 43), .mv (.t 48), none⟩, ⟨(some 49), .ext (.t 43) 0, none⟩, ⟨(some 50), .ext (.t 43) 1, none⟩, ⟨(some 9), .mv (.t 49), none⟩, ⟨(some 10), .mv (.t 50), none⟩] [])
          (.seq (.reg false [⟨(some 51), .mv (.t 9), none⟩, ⟨(some 52), .call 34 [(.t 51)], none⟩, ⟨(some 53), .mv (.t 10), none⟩, ⟨(some 54), .conv .u64 (.t 53), none⟩, ⟨(some 55), .call 25 [(.t 54)], none⟩, ⟨none, .store 1 (.t 4) (.t 52), none⟩, ⟨none, .store 1 (.t 5) (.t 55), none⟩, ⟨(some 6), .mv (.c (.bool true)), none⟩] [])
          .ret))
          .skip)))))))
  (.seq (.reg false [⟨(some 56), .mv (.t 8), none⟩, ⟨(some 57), .mv (.t 8), none⟩, ⟨(some 58), .lenL (.t 57), none⟩, ⟨(some 59), .bin .sub (.t 58) (.c (.int .i64 1)), none⟩, ⟨(some 60), .iaddrS 1 (.t 56) (.t 59), none⟩, ⟨(some 61), .load false 1 (.t 60), none⟩, ⟨(some 62), .call 45 [(.t 61)], none⟩, ⟨(some 11), .mv (.t 62), none⟩] [])
  (.seq (.reg true [⟨(some 63), .mv (.t 7), none⟩, ⟨(some 64), .mv (.t 11), none⟩, ⟨(some 65), .call 46 [(.t 63), (.t 64)], none⟩, ⟨(some 66), .mv (.t 8), none⟩, ⟨(some 67), .mv (.t 11), none⟩, ⟨(some 68), .call 46 [(.t 66), (.t 67)], none⟩, ⟨(some 69), .mv (.t 8), none⟩, ⟨(some 70), .lenL (.t 69), none⟩, ⟨(some 71), .slcL 1 (.t 68) none (some (.t 70)), none⟩, ⟨(some 12), .mv (.t 65), none⟩, ⟨(some 13), .mv (.t 71), none⟩] [0, 0, 3, 0, 0, 31, 0, 64, 255, 63, 1023])
  (.seq (.reg false [⟨(some 72), .mv (.t 7), none⟩, ⟨(some 73), .lenL (.t 72), none⟩, ⟨(some 74), .mv (.t 8), none⟩, ⟨(some 75), .lenL (.t 74), none⟩, ⟨(some 76), .bin .sub (.t 73) (.t 75), none⟩, ⟨(some 77), .bin .add (.t 76) (.c (.int .i64 1)), none⟩, ⟨(some 78), .make 49 1 4 [(.int .u32 0)] (.t 77), none⟩, ⟨(some 14), .mv (.t 78), none⟩] [])
  (.seq (.seq (.reg false [⟨(some 79), .mv (.t 14), none⟩, ⟨(some 80), .lenL (.t 79), none⟩, ⟨(some 81), .bin .sub (.t 80) (.c (.int .i64 1)), none⟩, ⟨(some 15), .mv (.t 81), none⟩] [])
  (.block 1 (.loop (.seq (.seq (.reg false [⟨(some 82), .mv (.t 15), none⟩, ⟨(some 83), .bin .geq (.t 82) (.c (.int .i64 0)), none⟩] [])
      (.cond (.t 83)
        .skip
        (.exit 1)))
      (.seq (.block 2 (.reg false [⟨(some 86), .mv (.t 14), none⟩, ⟨(some 87), .mv (.t 15), none⟩, ⟨(some 88), .mv (.t 12), none⟩, ⟨(some 89), .mv (.t 15), none⟩, ⟨(some 90), .mv (.t 15), none⟩, ⟨(some 91), .mv (.t 13), none⟩, ⟨(some 92), .lenL (.t 91), none⟩, ⟨(some 93), .bin .add (.t 90) (.t 92), none⟩, ⟨(some 94), .bin .add (.t 93) (.c (.int .i64 1)), none⟩, ⟨(some 95), .slcL 1 (.t 88) (some (.t 89)) (some (.t 94)), none⟩, ⟨(some 96), .mv (.t 13), none⟩, ⟨(some 97), .call 47 [(.t 95), (.t 96)], none⟩, ⟨(some 98), .iaddrS 1 (.t 86) (.t 87), none⟩, ⟨none, .store 1 (.t 98) (.t 97), none⟩] []))
      (.reg false [⟨(some 84), .mv (.t 15), none⟩, ⟨(some 85), .bin .sub (.t 84) (.c (.int .i64 1)), none⟩, ⟨(some 15), .mv (.t 85), none⟩] []))))))
  (.seq (.reg false [⟨(some 99), .mv (.t 14), none⟩, ⟨(some 100), .call 34 [(.t 99)], none⟩, ⟨(some 101), .mv (.t 12), none⟩, ⟨(some 102), .mv (.t 11), none⟩, ⟨(some 103), .call 48 [(.t 101), (.t 102)], none⟩, ⟨(some 104), .call 34 [(.t 103)], none⟩, ⟨none, .store 1 (.t 4) (.t 100), none⟩, ⟨none, .store 1 (.t 5) (.t 104), none⟩, ⟨(some 6), .mv (.c (.bool true)), none⟩] [])
  .ret))))))))
/-- cubit/nat.Of -/
def c25 : IR :=
  (.seq (.reg false [⟨(some 2), .new 25 1 [.nils], none⟩] [])
  (.seq (.reg false [⟨(some 3), .mv (.t 0), none⟩, ⟨(some 4), .conv .u32 (.t 3), none⟩, ⟨(some 5), .mv (.t 0), none⟩, ⟨(some 6), .bin .shr (.t 5) (.c (.int .u64 32)), none⟩, ⟨(some 7), .conv .u32 (.t 6), none⟩, ⟨(some 8), .lit 49 1 2 [(.int .u32 0), (.int .u32 0)] [(0, 1, (.t 4)), (1, 1, (.t 7))], none⟩, ⟨(some 9), .call 34 [(.t 8)], none⟩, ⟨none, .store 1 (.t 2) (.t 9), none⟩] [])
  .ret))
/-- cubit/nat.Good -/
def c26 : IR :=
  (.seq (.reg false [⟨(some 1), .box 25 1 (.t 0), none⟩, ⟨(some 2), .mv (.c (.bool false)), none⟩] [])
  (.seq (.reg false [⟨(some 3), .faddr 0 (.t 1), none⟩, ⟨(some 4), .load false 1 (.t 3), none⟩, ⟨(some 5), .lenL (.t 4), none⟩, ⟨(some 6), .bin .eql (.t 5) (.c (.int .i64 0)), none⟩, ⟨(some 7), .mv (.t 6), none⟩, ⟨(some 8), .faddr 0 (.t 1), (some ((some 7), false))⟩, ⟨(some 9), .load false 1 (.t 8), (some ((some 7), false))⟩, ⟨(some 10), .faddr 0 (.t 1), (some ((some 7), false))⟩, ⟨(some 11), .load false 1 (.t 10), (some ((some 7), false))⟩, ⟨(some 12), .lenL (.t 11), (some ((some 7), false))⟩, ⟨(some 13), .bin .sub (.t 12) (.c (.int .i64 1)), (some ((some 7), false))⟩, ⟨(some 14), .iaddrS 1 (.t 9) (.t 13), (some ((some 7), false))⟩, ⟨(some 15), .load false 1 (.t 14), (some ((some 7), false))⟩, ⟨(some 16), .bin .neq (.t 15) (.c (.int .u32 0)), (some ((some 7), false))⟩, ⟨(some 17), .pick (.t 7) (.c (.bool true)) (.t 16), none⟩, ⟨(some 2), .mv (.t 17), none⟩] [])
  .ret))
/-- cubit/nat.Low -/
def c27 : IR :=
  (.seq (.reg false [⟨(some 1), .box 25 1 (.t 0), none⟩, ⟨(some 2), .mv (.c (.int .u64 0)), none⟩, ⟨(some 3), .mv (.c (.bool false)), none⟩] [])
  (.seq (.reg false [⟨(some 4), .mv (.c (.int .u64 0)), none⟩] [])
  (.seq (.reg false [⟨(some 8), .faddr 0 (.t 1), none⟩, ⟨(some 9), .load false 1 (.t 8), none⟩, ⟨(some 10), .call 34 [(.t 9)], none⟩, ⟨(some 11), .fld false 0 1 (.t 10), none⟩, ⟨(some 5), .mv (.t 11), none⟩] [])
  (.seq (.seq (.reg false [⟨(some 12), .mv (.t 5), none⟩, ⟨(some 13), .lenL (.t 12), none⟩, ⟨(some 14), .bin .mul (.t 13) (.c (.int .i64 32)), none⟩, ⟨(some 15), .bin .gtr (.t 14) (.c (.int .i64 64)), none⟩] [])
  (.cond (.t 15)
    (.seq (.reg false [⟨(some 2), .mv (.c (.int .u64 0)), none⟩, ⟨(some 3), .mv (.c (.bool false)), none⟩] [])
    .ret)
    .skip))
  (.seq (.seq (.reg false [⟨(some 16), .mv (.t 5), none⟩, ⟨(some 17), .lenL (.t 16), none⟩, ⟨(some 18), .mv (.c (.int .i64 0)), none⟩] [])
  (.block 0 (.loop (.seq (.reg false [⟨(some 19), .bin .lss (.t 18) (.t 17), none⟩] [])
      (.seq (.cond (.t 19)
        .skip
        (.exit 0))
      (.seq (.block 1 (.seq (.reg false [⟨(some 20), .mv (.t 18), none⟩, ⟨(some 21), .iaddrS 1 (.t 16) (.t 18), none⟩, ⟨(some 22), .load false 1 (.t 21), none⟩, ⟨(some 6), .mv (.t 20), none⟩, ⟨(some 7), .mv (.t 22), none⟩] [])
        (.reg false [⟨(some 23), .mv (.t 4), none⟩, ⟨(some 24), .mv (.t 7), none⟩, ⟨(some 25), .conv .u64 (.t 24), none⟩, ⟨(some 26), .mv (.t 6), none⟩, ⟨(some 27), .bin .mul (.c (.int .i64 32)) (.t 26), none⟩, ⟨(some 28), .bin .shl (.t 25) (.t 27), none⟩, ⟨(some 29), .bin .or (.t 23) (.t 28), none⟩, ⟨(some 4), .mv (.t 29), none⟩] [])))
      (.reg false [⟨(some 30), .bin .add (.t 18) (.c (.int .i64 1)), none⟩, ⟨(some 18), .mv (.t 30), none⟩] [])))))))
  (.seq (.reg false [⟨(some 31), .mv (.t 4), none⟩, ⟨(some 2), .mv (.t 31), none⟩, ⟨(some 3), .mv (.c (.bool true)), none⟩] [])
  .ret))))))
/-- cubit/cubitref1.Small -/
def c28 : IR :=
  (.seq (.reg false [⟨(some 2), .mv (.c .nils), none⟩] [])
  (.seq (.reg false [⟨(some 3), .mv (.c .nils), none⟩] [])
  (.seq (.block 0 (.loop (.seq (.seq (.reg false [⟨(some 4), .mv (.t 0), none⟩, ⟨(some 5), .bin .gtr (.t 4) (.c (.int .u64 0)), none⟩] [])
      (.cond (.t 5)
        .skip
        (.exit 0)))
      (.block 1 (.seq (.reg false [⟨(some 6), .mv (.t 3), none⟩, ⟨(some 7), .mv (.t 0), none⟩, ⟨(some 8), .bin .rem (.t 7) (.c (.int .u64 10000)), none⟩, ⟨(some 9), .conv .i64 (.t 8), none⟩, ⟨(some 10), .lit 3 1 1 [(.int .i64 0)] [(0, 1, (.t 9))], none⟩, ⟨(some 11), .app 3 1 8 (.t 6) (.t 10), none⟩, ⟨(some 3), .mv (.t 11), none⟩] [])
        (.reg false [⟨(some 12), .mv (.t 0), none⟩, ⟨(some 13), .bin .quo (.t 12) (.c (.int .u64 10000)), none⟩, ⟨(some 0), .mv (.t 13), none⟩] []))))))
  (.seq (.reg false [⟨(some 14), .mv (.t 3), none⟩, ⟨(some 2), .mv (.t 14), none⟩] [])
  .ret))))
/-- cubit/cubitref1.Ten -/
def c29 : IR :=
  (.seq (.reg false [⟨(some 2), .mv (.c .nils), none⟩] [])
  (.seq (.reg false [⟨(some 3), .call 28 [(.c (.int .u64 10))], none⟩, ⟨(some 4), .mv (.t 0), none⟩, ⟨(some 5), .call 18 [(.t 3), (.t 4)], none⟩, ⟨(some 2), .mv (.t 5), none⟩] [])
  .ret))
/-- cubit/cubitref1.trim -/
def c32 : IR :=
  (.seq (.reg false [⟨(some 2), .mv (.c .nils), none⟩] [])
  (.seq (.block 0 (.loop (.seq (.seq (.reg false [⟨(some 3), .mv (.t 0), none⟩, ⟨(some 4), .lenL (.t 3), none⟩, ⟨(some 5), .bin .gtr (.t 4) (.c (.int .i64 0)), none⟩, ⟨(some 6), .mv (.t 5), none⟩, ⟨(some 7), .mv (.t 0), (some ((some 6), true))⟩, ⟨(some 8), .mv (.t 0), (some ((some 6), true))⟩, ⟨(some 9), .lenL (.t 8), (some ((some 6), true))⟩, ⟨(some 10), .bin .sub (.t 9) (.c (.int .i64 1)), (some ((some 6), true))⟩, ⟨(some 11), .iaddrS 1 (.t 7) (.t 10), (some ((some 6), true))⟩, ⟨(some 12), .load false 1 (.t 11), (some ((some 6), true))⟩, ⟨(some 13), .bin .eql (.t 12) (.c (.int .i64 0)), (some ((some 6), true))⟩, ⟨(some 14), .pick (.t 6) (.t 13) (.c (.bool false)), none⟩] [])
      (.cond (.t 14)
        .skip
        (.exit 0)))
      (.block 1 (.reg false [⟨(some 15), .mv (.t 0), none⟩, ⟨(some 16), .mv (.t 0), none⟩, ⟨(some 17), .lenL (.t 16), none⟩, ⟨(some 18), .bin .sub (.t 17) (.c (.int .i64 1)), none⟩, ⟨(some 19), .slcL 1 (.t 15) none (some (.t 18)), none⟩, ⟨(some 0), .mv (.t 19), none⟩] [])))))
  (.seq (.reg false [⟨(some 20), .mv (.t 0), none⟩, ⟨(some 2), .mv (.t 20), none⟩] [])
  .ret)))
/-- cubit/cubitref1.Cmp -/
def c33 : IR :=
  (.seq (.reg false [⟨(some 4), .mv (.c (.int .i64 0)), none⟩] [])
  (.seq (.seq (.reg false [⟨(some 6), .mv (.t 0), none⟩, ⟨(some 7), .lenL (.t 6), none⟩, ⟨(some 8), .mv (.t 1), none⟩, ⟨(some 9), .lenL (.t 8), none⟩, ⟨(some 10), .bin .neq (.t 7) (.t 9), none⟩] [])
  (.cond (.t 10)
    (.seq (.seq (.reg false [⟨(some 11), .mv (.t 0), none⟩, ⟨(some 12), .lenL (.t 11), none⟩, ⟨(some 13), .mv (.t 1), none⟩, ⟨(some 14), .lenL (.t 13), none⟩, ⟨(some 15), .bin .lss (.t 12) (.t 14), none⟩] [])
    (.cond (.t 15)
      (.seq (.reg false [⟨(some 4), .mv (.c (.int .i64 (-1))), none⟩] [])
      .ret)
      .skip))
    (.seq (.reg false [⟨(some 4), .mv (.c (.int .i64 1)), none⟩] [])
    .ret))
    .skip))
  (.seq (.seq (.reg false [⟨(some 16), .mv (.t 0), none⟩, ⟨(some 17), .lenL (.t 16), none⟩, ⟨(some 18), .bin .sub (.t 17) (.c (.int .i64 1)), none⟩, ⟨(some 5), .mv (.t 18), none⟩] [])
  (.block 0 (.loop (.seq (.seq (.reg false [⟨(some 19), .mv (.t 5), none⟩, ⟨(some 20), .bin .geq (.t 19) (.c (.int .i64 0)), none⟩] [])
      (.cond (.t 20)
        .skip
        (.exit 0)))
      (.seq (.block 1 (.seq (.seq (.reg true [⟨(some 23), .mv (.t 0), none⟩, ⟨(some 24), .mv (.t 5), none⟩, ⟨(some 25), .iaddrS 1 (.t 23) (.t 24), none⟩, ⟨(some 26), .load false 1 (.t 25), none⟩, ⟨(some 27), .mv (.t 1), none⟩, ⟨(some 28), .mv (.t 5), none⟩, ⟨(some 29), .iaddrS 1 (.t 27) (.t 28), none⟩, ⟨(some 30), .load false 1 (.t 29), none⟩, ⟨(some 31), .bin .lss (.t 26) (.t 30), none⟩] [0, 0, 3, 7, 0, 0, 48, 112, 255])
        (.cond (.t 31)
          (.seq (.reg false [⟨(some 4), .mv (.c (.int .i64 (-1))), none⟩] [])
          .ret)
          .skip))
        (.seq (.reg true [⟨(some 32), .mv (.t 0), none⟩, ⟨(some 33), .mv (.t 5), none⟩, ⟨(some 34), .iaddrS 1 (.t 32) (.t 33), none⟩, ⟨(some 35), .load false 1 (.t 34), none⟩, ⟨(some 36), .mv (.t 1), none⟩, ⟨(some 37), .mv (.t 5), none⟩, ⟨(some 38), .iaddrS 1 (.t 36) (.t 37), none⟩, ⟨(some 39), .load false 1 (.t 38), none⟩, ⟨(some 40), .bin .gtr (.t 35) (.t 39), none⟩] [0, 0, 3, 7, 0, 0, 48, 112, 255])
        (.cond (.t 40)
          (.seq (.reg false [⟨(some 4), .mv (.c (.int .i64 1)), none⟩] [])
          .ret)
          .skip))))
      (.reg false [⟨(some 21), .mv (.t 5), none⟩, ⟨(some 22), .bin .sub (.t 21) (.c (.int .i64 1)), none⟩, ⟨(some 5), .mv (.t 22), none⟩] []))))))
  (.seq (.reg false [⟨(some 4), .mv (.c (.int .i64 0)), none⟩] [])
  .ret))))
/-- cubit/nat.trim -/
def c34 : IR :=
  (.seq (.reg false [⟨(some 2), .new 25 1 [.nils], none⟩] [])
  (.seq (.block 0 (.loop (.seq (.seq (.reg false [⟨(some 3), .mv (.t 0), none⟩, ⟨(some 4), .lenL (.t 3), none⟩, ⟨(some 5), .bin .gtr (.t 4) (.c (.int .i64 0)), none⟩, ⟨(some 6), .mv (.t 5), none⟩, ⟨(some 7), .mv (.t 0), (some ((some 6), true))⟩, ⟨(some 8), .mv (.t 0), (some ((some 6), true))⟩, ⟨(some 9), .lenL (.t 8), (some ((some 6), true))⟩, ⟨(some 10), .bin .sub (.t 9) (.c (.int .i64 1)), (some ((some 6), true))⟩, ⟨(some 11), .iaddrS 1 (.t 7) (.t 10), (some ((some 6), true))⟩, ⟨(some 12), .load false 1 (.t 11), (some ((some 6), true))⟩, ⟨(some 13), .bin .eql (.t 12) (.c (.int .u32 0)), (some ((some 6), true))⟩, ⟨(some 14), .pick (.t 6) (.t 13) (.c (.bool false)), none⟩] [])
      (.cond (.t 14)
        .skip
        (.exit 0)))
      (.block 1 (.reg false [⟨(some 15), .mv (.t 0), none⟩, ⟨(some 16), .mv (.t 0), none⟩, ⟨(some 17), .lenL (.t 16), none⟩, ⟨(some 18), .bin .sub (.t 17) (.c (.int .i64 1)), none⟩, ⟨(some 19), .slcL 1 (.t 15) none (some (.t 18)), none⟩, ⟨(some 0), .mv (.t 19), none⟩] [])))))
  (.seq (.reg false [⟨(some 20), .mv (.t 0), none⟩, ⟨(some 21), .build [.nils] [(0, 1, (.t 20))], none⟩, ⟨none, .store 1 (.t 2) (.t 21), none⟩] [])
  .ret)))
/-- cubit/nat.small -/
def c35 : IR :=
  (.seq (.reg false [⟨(some 4), .mv (.c .nils), none⟩, ⟨(some 5), .mv (.c (.int .u32 0)), none⟩] [])
  (.seq (.reg false [⟨(some 9), .mv (.t 0), none⟩, ⟨(some 10), .lenL (.t 9), none⟩, ⟨(some 11), .make 49 1 4 [(.int .u32 0)] (.t 10), none⟩, ⟨(some 6), .mv (.t 11), none⟩] [])
  (.seq (.reg false [⟨(some 7), .mv (.c (.int .u64 0)), none⟩] [])
  (.seq (.seq (.reg false [⟨(some 12), .mv (.t 0), none⟩, ⟨(some 13), .lenL (.t 12), none⟩, ⟨(some 14), .bin .sub (.t 13) (.c (.int .i64 1)), none⟩, ⟨(some 8), .mv (.t 14), none⟩] [])
  (.block 0 (.loop (.seq (.seq (.reg false [⟨(some 15), .mv (.t 8), none⟩, ⟨(some 16), .bin .geq (.t 15) (.c (.int .i64 0)), none⟩] [])
      (.cond (.t 16)
        .skip
        (.exit 0)))
      (.seq (.block 1 (.seq (.reg false [⟨(some 19), .mv (.t 7), none⟩, ⟨(some 20), .bin .shl (.t 19) (.c (.int .u64 32)), none⟩, ⟨(some 21), .mv (.t 0), none⟩, ⟨(some 22), .mv (.t 8), none⟩, ⟨(some 23), .iaddrS 1 (.t 21) (.t 22), none⟩, ⟨(some 24), .load false 1 (.t 23), none⟩, ⟨(some 25), .conv .u64 (.t 24), none⟩, ⟨(some 26), .bin .or (.t 20) (.t 25), none⟩, ⟨(some 7), .mv (.t 26), none⟩] [])
        (.seq (.reg false [⟨(some 27), .mv (.t 6), none⟩, ⟨(some 28), .mv (.t 8), none⟩, ⟨(some 29), .mv (.t 7), none⟩, ⟨(some 30), .mv (.t 1), none⟩, ⟨(some 31), .conv .u64 (.t 30), none⟩, ⟨(some 32), .bin .quo (.t 29) (.t 31), none⟩, ⟨(some 33), .conv .u32 (.t 32), none⟩, ⟨(some 34), .iaddrS 1 (.t 27) (.t 28), none⟩, ⟨none, .store 1 (.t 34) (.t 33), none⟩] [])
        (.reg false [⟨(some 35), .mv (.t 7), none⟩, ⟨(some 36), .mv (.t 1), none⟩, ⟨(some 37), .conv .u64 (.t 36), none⟩, ⟨(some 38), .bin .rem (.t 35) (.t 37), none⟩, ⟨(some 7), .mv (.t 38), none⟩] []))))
      (.reg false [⟨(some 17), .mv (.t 8), none⟩, ⟨(some 18), .bin .sub (.t 17) (.c (.int .i64 1)), none⟩, ⟨(some 8), .mv (.t 18), none⟩] []))))))
  (.seq (.reg false [⟨(some 39), .mv (.t 6), none⟩, ⟨(some 40), .mv (.t 7), none⟩, ⟨(some 41), .conv .u32 (.t 40), none⟩, ⟨(some 4), .mv (.t 39), none⟩, ⟨(some 5), .mv (.t 41), none⟩] [])
  .ret)))))
/-- slices.Reverse[[]string,string] -/
def c38 : IR :=
  (.seq (.reg false [⟨(some 4), .mv (.t 0), none⟩, ⟨(some 5), .lenL (.t 4), none⟩, ⟨(some 6), .bin .sub (.t 5) (.c (.int .i64 1)), none⟩, ⟨(some 2), .mv (.c (.int .i64 0)), none⟩, ⟨(some 3), .mv (.t 6), none⟩] [])
  (.block 0 (.loop (.seq (.seq (.reg false [⟨(some 7), .mv (.t 2), none⟩, ⟨(some 8), .mv (.t 3), none⟩, ⟨(some 9), .bin .lss (.t 7) (.t 8), none⟩] [])
      (.cond (.t 9)
        .skip
        (.exit 0)))
      (.seq (.block 1 (.reg true [⟨(some 14), .mv (.t 0), none⟩, ⟨(some 15), .mv (.t 2), none⟩, ⟨(some 16), .mv (.t 0), none⟩, ⟨(some 17), .mv (.t 3), none⟩, ⟨(some 18), .mv (.t 0), none⟩, ⟨(some 19), .mv (.t 3), none⟩, ⟨(some 20), .iaddrS 1 (.t 18) (.t 19), none⟩, ⟨(some 21), .load false 1 (.t 20), none⟩, ⟨(some 22), .mv (.t 0), none⟩, ⟨(some 23), .mv (.t 2), none⟩, ⟨(some 24), .iaddrS 1 (.t 22) (.t 23), none⟩, ⟨(some 25), .load false 1 (.t 24), none⟩, ⟨(some 26), .iaddrS 1 (.t 14) (.t 15), none⟩, ⟨none, .store 1 (.t 26) (.t 21), none⟩, ⟨(some 27), .iaddrS 1 (.t 16) (.t 17), none⟩, ⟨none, .store 1 (.t 27) (.t 25), none⟩] [0, 0, 0, 0, 0, 0, 48, 112, 0, 0, 768, 1792, 4083, 8179, 16383, 32767]))
      (.reg false [⟨(some 10), .mv (.t 2), none⟩, ⟨(some 11), .bin .add (.t 10) (.c (.int .i64 1)), none⟩, ⟨(some 12), .mv (.t 3), none⟩, ⟨(some 13), .bin .sub (.t 12) (.c (.int .i64 1)), none⟩, ⟨(some 2), .mv (.t 11), none⟩, ⟨(some 3), .mv (.t 13), none⟩] []))))))
/-- cubit/cubitref1.Add -/
def c40 : IR :=
  (.seq (.reg false [⟨(some 4), .mv (.c .nils), none⟩] [])
  (.seq (.reg false [⟨(some 5), .mv (.c .nils), none⟩] [])
  (.seq (.reg false [⟨(some 6), .mv (.c (.int .i64 0)), none⟩] [])
  (.seq (.seq (.reg false [⟨(some 7), .mv (.c (.int .i64 0)), none⟩] [])
  (.block 0 (.loop (.seq (.seq (.reg false [⟨(some 9), .mv (.t 7), none⟩, ⟨(some 10), .mv (.t 0), none⟩, ⟨(some 11), .lenL (.t 10), none⟩, ⟨(some 12), .bin .lss (.t 9) (.t 11), none⟩, ⟨(some 13), .mv (.t 12), none⟩, ⟨(some 14), .mv (.t 7), (some ((some 13), false))⟩, ⟨(some 15), .mv (.t 1), (some ((some 13), false))⟩, ⟨(some 16), .lenL (.t 15), (some ((some 13), false))⟩, ⟨(some 17), .bin .lss (.t 14) (.t 16), (some ((some 13), false))⟩, ⟨(some 18), .pick (.t 13) (.c (.bool true)) (.t 17), none⟩, ⟨(some 19), .mv (.t 18), none⟩, ⟨(some 20), .mv (.t 6), (some ((some 19), false))⟩, ⟨(some 21), .bin .gtr (.t 20) (.c (.int .i64 0)), (some ((some 19), false))⟩, ⟨(some 22), .pick (.t 19) (.c (.bool true)) (.t 21), none⟩] [])
      (.cond (.t 22)
        .skip
        (.exit 0)))
      (.seq (.block 1 (.seq (.reg false [⟨(some 25), .mv (.t 0), none⟩, ⟨(some 26), .mv (.t 7), none⟩, ⟨(some 27), .call 65 [(.t 25), (.t 26)], none⟩, ⟨(some 28), .mv (.t 1), none⟩, ⟨(some 29), .mv (.t 7), none⟩, ⟨(some 30), .call 65 [(.t 28), (.t 29)], none⟩, ⟨(some 31), .bin .add (.t 27) (.t 30), none⟩, ⟨(some 32), .mv (.t 6), none⟩, ⟨(some 33), .bin .add (.t 31) (.t 32), none⟩, ⟨(some 8), .mv (.t 33), none⟩] [])
        (.seq (.reg false [⟨(some 34), .mv (.t 5), none⟩, ⟨(some 35), .mv (.t 8), none⟩, ⟨(some 36), .bin .rem (.t 35) (.c (.int .i64 10000)), none⟩, ⟨(some 37), .lit 3 1 1 [(.int .i64 0)] [(0, 1, (.t 36))], none⟩, ⟨(some 38), .app 3 1 8 (.t 34) (.t 37), none⟩, ⟨(some 5), .mv (.t 38), none⟩] [])
        (.reg false [⟨(some 39), .mv (.t 8), none⟩, ⟨(some 40), .bin .quo (.t 39) (.c (.int .i64 10000)), none⟩, ⟨(some 6), .mv (.t 40), none⟩] []))))
      (.reg false [⟨(some 23), .mv (.t 7), none⟩, ⟨(some 24), .bin .add (.t 23) (.c (.int .i64 1)), none⟩, ⟨(some 7), .mv (.t 24), none⟩] []))))))
  (.seq (.reg false [⟨(some 41), .mv (.t 5), none⟩, ⟨(some 42), .call 32 [(.t 41)], none⟩, ⟨(some 4), .mv (.t 42), none⟩] [])
  .ret)))))
/-- cubit/cubitref1.Mul -/
def c41 : IR :=
  (.seq (.reg false [⟨(some 4), .mv (.c .nils), none⟩] [])
  (.seq (.reg false [⟨(some 10), .mv (.t 0), none⟩, ⟨(some 11), .lenL (.t 10), none⟩, ⟨(some 12), .mv (.t 1), none⟩, ⟨(some 13), .lenL (.t 12), none⟩, ⟨(some 14), .bin .add (.t 11) (.t 13), none⟩, ⟨(some 15), .bin .add (.t 14) (.c (.int .i64 1)), none⟩, ⟨(some 16), .make 3 1 8 [(.int .i64 0)] (.t 15), none⟩, ⟨(some 5), .mv (.t 16), none⟩] [])
  (.seq (.seq (.reg false [⟨(some 6), .mv (.c (.int .i64 0)), none⟩] [])
  (.block 0 (.loop (.seq (.seq (.reg false [⟨(some 17), .mv (.t 6), none⟩, ⟨(some 18), .mv (.t 0), none⟩, ⟨(some 19), .lenL (.t 18), none⟩, ⟨(some 20), .bin .lss (.t 17) (.t 19), none⟩] [])
      (.cond (.t 20)
        .skip
        (.exit 0)))
      (.seq (.block 1 (.seq (.reg false [⟨(some 7), .mv (.c (.int .i64 0)), none⟩] [])
        (.seq (.reg false [⟨(some 8), .mv (.c (.int .i64 0)), none⟩] [])
        (.block 2 (.loop (.seq (.seq (.reg false [⟨(some 23), .mv (.t 8), none⟩, ⟨(some 24), .mv (.t 1), none⟩, ⟨(some 25), .lenL (.t 24), none⟩, ⟨(some 26), .bin .lss (.t 23) (.t 25), none⟩, ⟨(some 27), .mv (.t 26), none⟩, ⟨(some 28), .mv (.t 7), (some ((some 27), false))⟩, ⟨(some 29), .bin .gtr (.t 28) (.c (.int .i64 0)), (some ((some 27), false))⟩, ⟨(some 30), .pick (.t 27) (.c (.bool true)) (.t 29), none⟩] [])
            (.cond (.t 30)
              .skip
              (.exit 2)))
            (.seq (.block 3 (.seq (.reg true [⟨(some 33), .mv (.t 5), none⟩, ⟨(some 34), .mv (.t 6), none⟩, ⟨(some 35), .mv (.t 8), none⟩, ⟨(some 36), .bin .add (.t 34) (.t 35), none⟩, ⟨(some 37), .iaddrS 1 (.t 33) (.t 36), none⟩, ⟨(some 38), .load false 1 (.t 37), none⟩, ⟨(some 39), .mv (.t 0), none⟩, ⟨(some 40), .mv (.t 6), none⟩, ⟨(some 41), .iaddrS 1 (.t 39) (.t 40), none⟩, ⟨(some 42), .load false 1 (.t 41), none⟩, ⟨(some 43), .mv (.t 1), none⟩, ⟨(some 44), .mv (.t 8), none⟩, ⟨(some 45), .call 65 [(.t 43), (.t 44)], none⟩, ⟨(some 46), .bin .mul (.t 42) (.t 45), none⟩, ⟨(some 47), .bin .add (.t 38) (.t 46), none⟩, ⟨(some 48), .mv (.t 7), none⟩, ⟨(some 49), .bin .add (.t 47) (.t 48), none⟩, ⟨(some 9), .mv (.t 49), none⟩] [0, 0, 0, 6, 15, 31, 0, 0, 192, 448, 0, 0, 3072, 8128, 16383, 0, 65535, 131071])
              (.seq (.reg false [⟨(some 50), .mv (.t 5), none⟩, ⟨(some 51), .mv (.t 6), none⟩, ⟨(some 52), .mv (.t 8), none⟩, ⟨(some 53), .bin .add (.t 51) (.t 52), none⟩, ⟨(some 54), .mv (.t 9), none⟩, ⟨(some 55), .bin .rem (.t 54) (.c (.int .i64 10000)), none⟩, ⟨(some 56), .iaddrS 1 (.t 50) (.t 53), none⟩, ⟨none, .store 1 (.t 56) (.t 55), none⟩] [])
              (.reg false [⟨(some 57), .mv (.t 9), none⟩, ⟨(some 58), .bin .quo (.t 57) (.c (.int .i64 10000)), none⟩, ⟨(some 7), .mv (.t 58), none⟩] []))))
            (.reg false [⟨(some 31), .mv (.t 8), none⟩, ⟨(some 32), .bin .add (.t 31) (.c (.int .i64 1)), none⟩, ⟨(some 8), .mv (.t 32), none⟩] []))))))))
      (.reg false [⟨(some 21), .mv (.t 6), none⟩, ⟨(some 22), .bin .add (.t 21) (.c (.int .i64 1)), none⟩, ⟨(some 6), .mv (.t 22), none⟩] []))))))
  (.seq (.reg false [⟨(some 59), .mv (.t 5), none⟩, ⟨(some 60), .call 32 [(.t 59)], none⟩, ⟨(some 4), .mv (.t 60), none⟩] [])
  .ret))))
/-- cubit/nat.order -/
def c42 : IR :=
  (.seq (.reg false [⟨(some 2), .mv (.c (.int .i64 0)), none⟩] [])
  (.seq (.seq (.reg false [⟨(some 3), .mv (.t 0), none⟩] [])
  (.cond (.t 3)
    (.seq (.reg false [⟨(some 2), .mv (.c (.int .i64 (-1))), none⟩] [])
    .ret)
    .skip))
  (.seq (.reg false [⟨(some 2), .mv (.c (.int .i64 1)), none⟩] [])
  .ret)))
/-- cubit/nat.at -/
def c43 : IR :=
  (.seq (.reg false [⟨(some 4), .mv (.c (.int .u64 0)), none⟩] [])
  (.seq (.seq (.reg false [⟨(some 5), .mv (.t 1), none⟩, ⟨(some 6), .mv (.t 0), none⟩, ⟨(some 7), .lenL (.t 6), none⟩, ⟨(some 8), .bin .lss (.t 5) (.t 7), none⟩] [])
  (.cond (.t 8)
    (.seq (.reg false [⟨(some 9), .mv (.t 0), none⟩, ⟨(some 10), .mv (.t 1), none⟩, ⟨(some 11), .iaddrS 1 (.t 9) (.t 10), none⟩, ⟨(some 12), .load false 1 (.t 11), none⟩, ⟨(some 13), .conv .u64 (.t 12), none⟩, ⟨(some 4), .mv (.t 13), none⟩] [])
    .ret)
    .skip))
  (.seq (.reg false [⟨(some 4), .mv (.c (.int .u64 0)), none⟩] [])
  .ret)))
/-- cubit/nat.shift -/
def c46 : IR :=
  (.seq (.reg false [⟨(some 4), .mv (.c .nils), none⟩] [])
  (.seq (.reg false [⟨(some 9), .mv (.t 0), none⟩, ⟨(some 10), .lenL (.t 9), none⟩, ⟨(some 11), .bin .add (.t 10) (.c (.int .i64 1)), none⟩, ⟨(some 12), .make 49 1 4 [(.int .u32 0)] (.t 11), none⟩, ⟨(some 5), .mv (.t 12), none⟩] [])
  (.seq (.reg false [⟨(some 6), .mv (.c (.int .u64 0)), none⟩] [])
  (.seq (.seq (.reg false [⟨(some 13), .mv (.t 0), none⟩, ⟨(some 14), .lenL (.t 13), none⟩, ⟨(some 15), .mv (.c (.int .i64 0)), none⟩] [])
  (.block 0 (.loop (.seq (.reg false [⟨(some 16), .bin .lss (.t 15) (.t 14), none⟩] [])
      (.seq (.cond (.t 16)
        .skip
        (.exit 0))
      (.seq (.block 1 (.seq (.reg false [⟨(some 17), .mv (.t 15), none⟩, ⟨(some 18), .iaddrS 1 (.t 13) (.t 15), none⟩, ⟨(some 19), .load false 1 (.t 18), none⟩, ⟨(some 7), .mv (.t 17), none⟩, ⟨(some 8), .mv (.t 19), none⟩] [])
        (.seq (.reg false [⟨(some 20), .mv (.t 6), none⟩, ⟨(some 21), .mv (.t 8), none⟩, ⟨(some 22), .conv .u64 (.t 21), none⟩, ⟨(some 23), .mv (.t 1), none⟩, ⟨(some 24), .bin .shl (.t 22) (.t 23), none⟩, ⟨(some 25), .bin .or (.t 20) (.t 24), none⟩, ⟨(some 6), .mv (.t 25), none⟩] [])
        (.seq (.reg false [⟨(some 26), .mv (.t 5), none⟩, ⟨(some 27), .mv (.t 7), none⟩, ⟨(some 28), .mv (.t 6), none⟩, ⟨(some 29), .conv .u32 (.t 28), none⟩, ⟨(some 30), .iaddrS 1 (.t 26) (.t 27), none⟩, ⟨none, .store 1 (.t 30) (.t 29), none⟩] [])
        (.reg false [⟨(some 31), .mv (.t 6), none⟩, ⟨(some 32), .bin .shr (.t 31) (.c (.int .u64 32)), none⟩, ⟨(some 6), .mv (.t 32), none⟩] [])))))
      (.reg false [⟨(some 33), .bin .add (.t 15) (.c (.int .i64 1)), none⟩, ⟨(some 15), .mv (.t 33), none⟩] [])))))))
  (.seq (.reg false [⟨(some 34), .mv (.t 5), none⟩, ⟨(some 35), .mv (.t 0), none⟩, ⟨(some 36), .lenL (.t 35), none⟩, ⟨(some 37), .mv (.t 6), none⟩, ⟨(some 38), .conv .u32 (.t 37), none⟩, ⟨(some 39), .iaddrS 1 (.t 34) (.t 36), none⟩, ⟨none, .store 1 (.t 39) (.t 38), none⟩] [])
  (.seq (.reg false [⟨(some 40), .mv (.t 5), none⟩, ⟨(some 4), .mv (.t 40), none⟩] [])
  .ret))))))
/-- cubit/nat.step -/
def c47 : IR :=
  (.seq (.reg false [⟨(some 4), .mv (.c (.int .u32 0)), none⟩] [])
  (.seq (.reg false [⟨(some 13), .mv (.t 1), none⟩, ⟨(some 14), .lenL (.t 13), none⟩, ⟨(some 5), .mv (.t 14), none⟩] [])
  (.seq (.reg true [⟨(some 15), .mv (.t 0), none⟩, ⟨(some 16), .mv (.t 5), none⟩, ⟨(some 17), .iaddrS 1 (.t 15) (.t 16), none⟩, ⟨(some 18), .load false 1 (.t 17), none⟩, ⟨(some 19), .conv .u64 (.t 18), none⟩, ⟨(some 20), .bin .shl (.t 19) (.c (.int .u64 32)), none⟩, ⟨(some 21), .mv (.t 0), none⟩, ⟨(some 22), .mv (.t 5), none⟩, ⟨(some 23), .bin .sub (.t 22) (.c (.int .i64 1)), none⟩, ⟨(some 24), .iaddrS 1 (.t 21) (.t 23), none⟩, ⟨(some 25), .load false 1 (.t 24), none⟩, ⟨(some 26), .conv .u64 (.t 25), none⟩, ⟨(some 27), .bin .or (.t 20) (.t 26), none⟩, ⟨(some 6), .mv (.t 27), none⟩] [0, 0, 3, 7, 15, 31, 0, 0, 128, 448, 960, 1984, 4095, 8191])
  (.seq (.reg true [⟨(some 28), .mv (.t 1), none⟩, ⟨(some 29), .mv (.t 5), none⟩, ⟨(some 30), .bin .sub (.t 29) (.c (.int .i64 1)), none⟩, ⟨(some 31), .iaddrS 1 (.t 28) (.t 30), none⟩, ⟨(some 32), .load false 1 (.t 31), none⟩, ⟨(some 33), .conv .u64 (.t 32), none⟩, ⟨(some 34), .mv (.t 1), none⟩, ⟨(some 35), .mv (.t 5), none⟩, ⟨(some 36), .bin .sub (.t 35) (.c (.int .i64 2)), none⟩, ⟨(some 37), .iaddrS 1 (.t 34) (.t 36), none⟩, ⟨(some 38), .load false 1 (.t 37), none⟩, ⟨(some 39), .conv .u64 (.t 38), none⟩, ⟨(some 7), .mv (.t 33), none⟩, ⟨(some 8), .mv (.t 39), none⟩] [0, 0, 2, 7, 15, 31, 0, 0, 128, 448, 960, 1984, 63, 8191])
  (.seq (.reg false [⟨(some 40), .mv (.t 6), none⟩, ⟨(some 41), .mv (.t 7), none⟩, ⟨(some 42), .bin .quo (.t 40) (.t 41), none⟩, ⟨(some 9), .mv (.t 42), none⟩] [])
  (.seq (.reg false [⟨(some 43), .mv (.t 6), none⟩, ⟨(some 44), .mv (.t 7), none⟩, ⟨(some 45), .bin .rem (.t 43) (.t 44), none⟩, ⟨(some 10), .mv (.t 45), none⟩] [])
  (.seq (.block 0 (.loop (.seq (.seq (.reg false [⟨(some 46), .mv (.t 9), none⟩, ⟨(some 47), .bin .geq (.t 46) (.c (.int .u64 4294967296)), none⟩, ⟨(some 48), .mv (.t 47), none⟩, ⟨(some 49), .mv (.t 10), (some ((some 48), false))⟩, ⟨(some 50), .bin .lss (.t 49) (.c (.int .u64 4294967296)), (some ((some 48), false))⟩, ⟨(some 51), .mv (.t 50), (some ((some 48), false))⟩, ⟨(some 52), .mv (.t 9), (some ((some 51), true))⟩, ⟨(some 53), .mv (.t 8), (some ((some 51), true))⟩, ⟨(some 54), .bin .mul (.t 52) (.t 53), (some ((some 51), true))⟩, ⟨(some 55), .mv (.t 10), (some ((some 51), true))⟩, ⟨(some 56), .bin .shl (.t 55) (.c (.int .u64 32)), (some ((some 51), true))⟩, ⟨(some 57), .mv (.t 0), (some ((some 51), true))⟩, ⟨(some 58), .mv (.t 5), (some ((some 51), true))⟩, ⟨(some 59), .bin .sub (.t 58) (.c (.int .i64 2)), (some ((some 51), true))⟩, ⟨(some 60), .iaddrS 1 (.t 57) (.t 59), (some ((some 51), true))⟩, ⟨(some 61), .load false 1 (.t 60), (some ((some 51), true))⟩, ⟨(some 62), .conv .u64 (.t 61), (some ((some 51), true))⟩, ⟨(some 63), .bin .or (.t 56) (.t 62), (some ((some 51), true))⟩, ⟨(some 64), .bin .gtr (.t 54) (.t 63), (some ((some 51), true))⟩, ⟨(some 65), .pick (.t 51) (.t 64) (.c (.bool false)), (some ((some 48), false))⟩, ⟨(some 66), .pick (.t 48) (.c (.bool true)) (.t 65), none⟩] [])
      (.cond (.t 66)
        .skip
        (.exit 0)))
      (.block 1 (.seq (.reg false [⟨(some 67), .mv (.t 9), none⟩, ⟨(some 68), .bin .sub (.t 67) (.c (.int .u64 1)), none⟩, ⟨(some 9), .mv (.t 68), none⟩] [])
        (.seq (.reg false [⟨(some 69), .mv (.t 10), none⟩, ⟨(some 70), .mv (.t 7), none⟩, ⟨(some 71), .bin .add (.t 69) (.t 70), none⟩, ⟨(some 10), .mv (.t 71), none⟩] [])
        (.seq (.reg false [⟨(some 72), .mv (.t 10), none⟩, ⟨(some 73), .bin .geq (.t 72) (.c (.int .u64 4294967296)), none⟩] [])
        (.cond (.t 73)
          (.exit 0)
          .skip))))))))
  (.seq (.seq (.reg false [⟨(some 74), .mv (.t 0), none⟩, ⟨(some 75), .mv (.t 1), none⟩, ⟨(some 76), .mv (.t 9), none⟩, ⟨(some 77), .call 67 [(.t 74), (.t 75), (.t 76)], none⟩, ⟨(some 78), .not (.t 77), none⟩] [])
  (.cond (.t 78)
    (.seq (.reg false [⟨(some 79), .mv (.t 9), none⟩, ⟨(some 80), .conv .u32 (.t 79), none⟩, ⟨(some 4), .mv (.t 80), none⟩] [])
    .ret)
    .skip))
  (.seq (.reg false [⟨(some 11), .mv (.c (.int .u64 0)), none⟩] [])
  (.seq (.seq (.reg false [⟨(some 81), .mv (.t 5), none⟩, ⟨(some 82), .mv (.c (.int .i64 0)), none⟩] [])
  (.block 2 (.loop (.seq (.reg false [⟨(some 83), .bin .lss (.t 82) (.t 81), none⟩] [])
      (.seq (.cond (.t 83)
        .skip
        (.exit 2))
      (.seq (.block 3 (.seq (.reg false [⟨(some 84), .mv (.t 82), none⟩, ⟨(some 12), .mv (.t 84), none⟩] [])
        (.seq (.reg true [⟨(some 85), .mv (.t 11), none⟩, ⟨(some 86), .mv (.t 0), none⟩, ⟨(some 87), .mv (.t 12), none⟩, ⟨(some 88), .iaddrS 1 (.t 86) (.t 87), none⟩, ⟨(some 89), .load false 1 (.t 88), none⟩, ⟨(some 90), .conv .u64 (.t 89), none⟩, ⟨(some 91), .mv (.t 1), none⟩, ⟨(some 92), .mv (.t 12), none⟩, ⟨(some 93), .iaddrS 1 (.t 91) (.t 92), none⟩, ⟨(some 94), .load false 1 (.t 93), none⟩, ⟨(some 95), .conv .u64 (.t 94), none⟩, ⟨(some 96), .bin .add (.t 90) (.t 95), none⟩, ⟨(some 97), .bin .add (.t 85) (.t 96), none⟩, ⟨(some 11), .mv (.t 97), none⟩] [0, 0, 0, 6, 14, 30, 0, 0, 192, 448, 960, 2046, 4095, 8191])
        (.seq (.reg false [⟨(some 98), .mv (.t 0), none⟩, ⟨(some 99), .mv (.t 12), none⟩, ⟨(some 100), .mv (.t 11), none⟩, ⟨(some 101), .conv .u32 (.t 100), none⟩, ⟨(some 102), .iaddrS 1 (.t 98) (.t 99), none⟩, ⟨none, .store 1 (.t 102) (.t 101), none⟩] [])
        (.reg false [⟨(some 103), .mv (.t 11), none⟩, ⟨(some 104), .bin .shr (.t 103) (.c (.int .u64 32)), none⟩, ⟨(some 11), .mv (.t 104), none⟩] [])))))
      (.reg false [⟨(some 105), .bin .add (.t 82) (.c (.int .i64 1)), none⟩, ⟨(some 82), .mv (.t 105), none⟩] [])))))))
  (.seq (.reg false [⟨(some 106), .mv (.t 0), none⟩, ⟨(some 107), .mv (.t 5), none⟩, ⟨(some 108), .iaddrS 1 (.t 106) (.t 107), none⟩, ⟨(some 109), .load false 1 (.t 108), none⟩, ⟨(some 110), .mv (.t 11), none⟩, ⟨(some 111), .conv .u32 (.t 110), none⟩, ⟨(some 112), .bin .add (.t 109) (.t 111), none⟩, ⟨(some 113), .iaddrS 1 (.t 106) (.t 107), none⟩, ⟨none, .store 1 (.t 113) (.t 112), none⟩] [])
  (.seq (.reg false [⟨(some 114), .mv (.t 9), none⟩, ⟨(some 115), .bin .sub (.t 114) (.c (.int .u64 1)), none⟩, ⟨(some 116), .conv .u32 (.t 115), none⟩, ⟨(some 4), .mv (.t 116), none⟩] [])
  .ret))))))))))))
/-- cubit/nat.back -/
def c48 : IR :=
  (.seq (.reg false [⟨(some 4), .mv (.c .nils), none⟩] [])
  (.seq (.reg false [⟨(some 7), .mv (.t 0), none⟩, ⟨(some 8), .lenL (.t 7), none⟩, ⟨(some 9), .make 49 1 4 [(.int .u32 0)] (.t 8), none⟩, ⟨(some 5), .mv (.t 9), none⟩] [])
  (.seq (.seq (.reg false [⟨(some 10), .mv (.t 0), none⟩, ⟨(some 11), .lenL (.t 10), none⟩, ⟨(some 12), .mv (.c (.int .i64 0)), none⟩] [])
  (.block 0 (.loop (.seq (.reg false [⟨(some 13), .bin .lss (.t 12) (.t 11), none⟩] [])
      (.seq (.cond (.t 13)
        .skip
        (.exit 0))
      (.seq (.block 1 (.seq (.reg false [⟨(some 14), .mv (.t 12), none⟩, ⟨(some 6), .mv (.t 14), none⟩] [])
        (.reg false [⟨(some 15), .mv (.t 5), none⟩, ⟨(some 16), .mv (.t 6), none⟩, ⟨(some 17), .mv (.t 0), none⟩, ⟨(some 18), .mv (.t 6), none⟩, ⟨(some 19), .bin .add (.t 18) (.c (.int .i64 1)), none⟩, ⟨(some 20), .call 43 [(.t 17), (.t 19)], none⟩, ⟨(some 21), .bin .shl (.t 20) (.c (.int .u64 32)), none⟩, ⟨(some 22), .mv (.t 0), none⟩, ⟨(some 23), .mv (.t 6), none⟩, ⟨(some 24), .call 43 [(.t 22), (.t 23)], none⟩, ⟨(some 25), .bin .or (.t 21) (.t 24), none⟩, ⟨(some 26), .mv (.t 1), none⟩, ⟨(some 27), .bin .shr (.t 25) (.t 26), none⟩, ⟨(some 28), .conv .u32 (.t 27), none⟩, ⟨(some 29), .iaddrS 1 (.t 15) (.t 16), none⟩, ⟨none, .store 1 (.t 29) (.t 28), none⟩] [])))
      (.reg false [⟨(some 30), .bin .add (.t 12) (.c (.int .i64 1)), none⟩, ⟨(some 12), .mv (.t 30), none⟩] [])))))))
  (.seq (.reg false [⟨(some 31), .mv (.t 5), none⟩, ⟨(some 4), .mv (.t 31), none⟩] [])
  .ret))))
/-- cubit/cubitref1.at -/
def c65 : IR :=
  (.seq (.reg false [⟨(some 4), .mv (.c (.int .i64 0)), none⟩] [])
  (.seq (.seq (.reg false [⟨(some 5), .mv (.t 1), none⟩, ⟨(some 6), .mv (.t 0), none⟩, ⟨(some 7), .lenL (.t 6), none⟩, ⟨(some 8), .bin .lss (.t 5) (.t 7), none⟩] [])
  (.cond (.t 8)
    (.seq (.reg false [⟨(some 9), .mv (.t 0), none⟩, ⟨(some 10), .mv (.t 1), none⟩, ⟨(some 11), .iaddrS 1 (.t 9) (.t 10), none⟩, ⟨(some 12), .load false 1 (.t 11), none⟩, ⟨(some 4), .mv (.t 12), none⟩] [])
    .ret)
    .skip))
  (.seq (.reg false [⟨(some 4), .mv (.c (.int .i64 0)), none⟩] [])
  .ret)))
/-- cubit/nat.less -/
def c67 : IR :=
  (.seq (.reg false [⟨(some 6), .mv (.c (.bool false)), none⟩] [])
  (.seq (.reg false [⟨(some 7), .mv (.c (.int .u64 0)), none⟩, ⟨(some 8), .mv (.c (.int .u64 0)), none⟩] [])
  (.seq (.seq (.reg false [⟨(some 13), .mv (.t 1), none⟩, ⟨(some 14), .lenL (.t 13), none⟩, ⟨(some 15), .mv (.c (.int .i64 0)), none⟩] [])
  (.block 0 (.loop (.seq (.reg false [⟨(some 16), .bin .lss (.t 15) (.t 14), none⟩] [])
      (.seq (.cond (.t 16)
        .skip
        (.exit 0))
      (.seq (.block 1 (.seq (.reg false [⟨(some 17), .mv (.t 15), none⟩, ⟨(some 9), .mv (.t 17), none⟩] [])
        (.seq (.reg false [⟨(some 18), .mv (.t 7), none⟩, ⟨(some 19), .mv (.t 2), none⟩, ⟨(some 20), .mv (.t 1), none⟩, ⟨(some 21), .mv (.t 9), none⟩, ⟨(some 22), .iaddrS 1 (.t 20) (.t 21), none⟩, ⟨(some 23), .load false 1 (.t 22), none⟩, ⟨(some 24), .conv .u64 (.t 23), none⟩, ⟨(some 25), .bin .mul (.t 19) (.t 24), none⟩, ⟨(some 26), .bin .add (.t 18) (.t 25), none⟩, ⟨(some 7), .mv (.t 26), none⟩] [])
        (.seq (.reg false [⟨(some 27), .mv (.t 0), none⟩, ⟨(some 28), .mv (.t 9), none⟩, ⟨(some 29), .iaddrS 1 (.t 27) (.t 28), none⟩, ⟨(some 30), .load false 1 (.t 29), none⟩, ⟨(some 31), .conv .u64 (.t 30), none⟩, ⟨(some 32), .mv (.t 7), none⟩, ⟨(some 33), .conv .u32 (.t 32), none⟩, ⟨(some 34), .conv .u64 (.t 33), none⟩, ⟨(some 35), .bin .sub (.t 31) (.t 34), none⟩, ⟨(some 36), .mv (.t 8), none⟩, ⟨(some 37), .bin .sub (.t 35) (.t 36), none⟩, ⟨(some 10), .mv (.t 37), none⟩] [])
        (.seq (.reg false [⟨(some 38), .mv (.t 0), none⟩, ⟨(some 39), .mv (.t 9), none⟩, ⟨(some 40), .mv (.t 10), none⟩, ⟨(some 41), .conv .u32 (.t 40), none⟩, ⟨(some 42), .iaddrS 1 (.t 38) (.t 39), none⟩, ⟨none, .store 1 (.t 42) (.t 41), none⟩] [])
        (.seq (.reg false [⟨(some 43), .mv (.t 10), none⟩, ⟨(some 44), .bin .shr (.t 43) (.c (.int .u64 32)), none⟩, ⟨(some 45), .bin .and (.t 44) (.c (.int .u64 1)), none⟩, ⟨(some 8), .mv (.t 45), none⟩] [])
        (.reg false [⟨(some 46), .mv (.t 7), none⟩, ⟨(some 47), .bin .shr (.t 46) (.c (.int .u64 32)), none⟩, ⟨(some 7), .mv (.t 47), none⟩] [])))))))
      (.reg false [⟨(some 48), .bin .add (.t 15) (.c (.int .i64 1)), none⟩, ⟨(some 15), .mv (.t 48), none⟩] [])))))))
  (.seq (.reg false [⟨(some 49), .mv (.t 1), none⟩, ⟨(some 50), .lenL (.t 49), none⟩, ⟨(some 11), .mv (.t 50), none⟩] [])
  (.seq (.reg false [⟨(some 51), .mv (.t 0), none⟩, ⟨(some 52), .mv (.t 11), none⟩, ⟨(some 53), .iaddrS 1 (.t 51) (.t 52), none⟩, ⟨(some 54), .load false 1 (.t 53), none⟩, ⟨(some 55), .conv .u64 (.t 54), none⟩, ⟨(some 56), .mv (.t 7), none⟩, ⟨(some 57), .bin .sub (.t 55) (.t 56), none⟩, ⟨(some 58), .mv (.t 8), none⟩, ⟨(some 59), .bin .sub (.t 57) (.t 58), none⟩, ⟨(some 12), .mv (.t 59), none⟩] [])
  (.seq (.reg false [⟨(some 60), .mv (.t 0), none⟩, ⟨(some 61), .mv (.t 11), none⟩, ⟨(some 62), .mv (.t 12), none⟩, ⟨(some 63), .conv .u32 (.t 62), none⟩, ⟨(some 64), .iaddrS 1 (.t 60) (.t 61), none⟩, ⟨none, .store 1 (.t 64) (.t 63), none⟩] [])
  (.seq (.reg false [⟨(some 65), .mv (.t 12), none⟩, ⟨(some 66), .bin .shr (.t 65) (.c (.int .u64 32)), none⟩, ⟨(some 67), .bin .neq (.t 66) (.c (.int .u64 0)), none⟩, ⟨(some 6), .mv (.t 67), none⟩] [])
  .ret)))))))
theorem ok3 : (Go.Proofs.Tryd.f3.body).bind (comp Go.Proofs.Tryd.prog) = some c3 := by kernel_rfl
theorem ok4 : (Go.Proofs.Tryd.f4.body).bind (comp Go.Proofs.Tryd.prog) = some c4 := by kernel_rfl
theorem ok5 : (Go.Proofs.Tryd.f5.body).bind (comp Go.Proofs.Tryd.prog) = some c5 := by kernel_rfl
theorem ok6 : (Go.Proofs.Tryd.f6.body).bind (comp Go.Proofs.Tryd.prog) = some c6 := by kernel_rfl
theorem ok7 : (Go.Proofs.Tryd.f7.body).bind (comp Go.Proofs.Tryd.prog) = some c7 := by kernel_rfl
theorem ok8 : (Go.Proofs.Tryd.f8.body).bind (comp Go.Proofs.Tryd.prog) = some c8 := by kernel_rfl
theorem ok9 : (Go.Proofs.Tryd.f9.body).bind (comp Go.Proofs.Tryd.prog) = some c9 := by kernel_rfl
theorem ok10 : (Go.Proofs.Tryd.f10.body).bind (comp Go.Proofs.Tryd.prog) = some c10 := by kernel_rfl
theorem ok11 : (Go.Proofs.Tryd.f11.body).bind (comp Go.Proofs.Tryd.prog) = some c11 := by kernel_rfl
theorem ok12 : (Go.Proofs.Tryd.f12.body).bind (comp Go.Proofs.Tryd.prog) = some c12 := by kernel_rfl
theorem ok13 : (Go.Proofs.Tryd.f13.body).bind (comp Go.Proofs.Tryd.prog) = some c13 := by kernel_rfl
theorem ok14 : (Go.Proofs.Tryd.f14.body).bind (comp Go.Proofs.Tryd.prog) = some c14 := by kernel_rfl
theorem ok15 : (Go.Proofs.Tryd.f15.body).bind (comp Go.Proofs.Tryd.prog) = some c15 := by kernel_rfl
theorem ok16 : (Go.Proofs.Tryd.f16.body).bind (comp Go.Proofs.Tryd.prog) = some c16 := by kernel_rfl
theorem ok17 : (Go.Proofs.Tryd.f17.body).bind (comp Go.Proofs.Tryd.prog) = some c17 := by kernel_rfl
theorem ok18 : (Go.Proofs.Tryd.f18.body).bind (comp Go.Proofs.Tryd.prog) = some c18 := by kernel_rfl
theorem ok19 : (Go.Proofs.Tryd.f19.body).bind (comp Go.Proofs.Tryd.prog) = some c19 := by kernel_rfl
theorem ok20 : (Go.Proofs.Tryd.f20.body).bind (comp Go.Proofs.Tryd.prog) = some c20 := by kernel_rfl
theorem ok21 : (Go.Proofs.Tryd.f21.body).bind (comp Go.Proofs.Tryd.prog) = some c21 := by kernel_rfl
theorem ok22 : (Go.Proofs.Tryd.f22.body).bind (comp Go.Proofs.Tryd.prog) = some c22 := by kernel_rfl
theorem ok23 : (Go.Proofs.Tryd.f23.body).bind (comp Go.Proofs.Tryd.prog) = some c23 := by kernel_rfl
theorem ok24 : (Go.Proofs.Tryd.f24.body).bind (comp Go.Proofs.Tryd.prog) = some c24 := by kernel_rfl
theorem ok25 : (Go.Proofs.Tryd.f25.body).bind (comp Go.Proofs.Tryd.prog) = some c25 := by kernel_rfl
theorem ok26 : (Go.Proofs.Tryd.f26.body).bind (comp Go.Proofs.Tryd.prog) = some c26 := by kernel_rfl
theorem ok27 : (Go.Proofs.Tryd.f27.body).bind (comp Go.Proofs.Tryd.prog) = some c27 := by kernel_rfl
theorem ok28 : (Go.Proofs.Tryd.f28.body).bind (comp Go.Proofs.Tryd.prog) = some c28 := by kernel_rfl
theorem ok29 : (Go.Proofs.Tryd.f29.body).bind (comp Go.Proofs.Tryd.prog) = some c29 := by kernel_rfl
theorem ok32 : (Go.Proofs.Tryd.f32.body).bind (comp Go.Proofs.Tryd.prog) = some c32 := by kernel_rfl
theorem ok33 : (Go.Proofs.Tryd.f33.body).bind (comp Go.Proofs.Tryd.prog) = some c33 := by kernel_rfl
theorem ok34 : (Go.Proofs.Tryd.f34.body).bind (comp Go.Proofs.Tryd.prog) = some c34 := by kernel_rfl
theorem ok35 : (Go.Proofs.Tryd.f35.body).bind (comp Go.Proofs.Tryd.prog) = some c35 := by kernel_rfl
theorem ok38 : (Go.Proofs.Tryd.f38.body).bind (comp Go.Proofs.Tryd.prog) = some c38 := by kernel_rfl
theorem ok40 : (Go.Proofs.Tryd.f40.body).bind (comp Go.Proofs.Tryd.prog) = some c40 := by kernel_rfl
theorem ok41 : (Go.Proofs.Tryd.f41.body).bind (comp Go.Proofs.Tryd.prog) = some c41 := by kernel_rfl
theorem ok42 : (Go.Proofs.Tryd.f42.body).bind (comp Go.Proofs.Tryd.prog) = some c42 := by kernel_rfl
theorem ok43 : (Go.Proofs.Tryd.f43.body).bind (comp Go.Proofs.Tryd.prog) = some c43 := by kernel_rfl
theorem ok46 : (Go.Proofs.Tryd.f46.body).bind (comp Go.Proofs.Tryd.prog) = some c46 := by kernel_rfl
theorem ok47 : (Go.Proofs.Tryd.f47.body).bind (comp Go.Proofs.Tryd.prog) = some c47 := by kernel_rfl
theorem ok48 : (Go.Proofs.Tryd.f48.body).bind (comp Go.Proofs.Tryd.prog) = some c48 := by kernel_rfl
theorem ok65 : (Go.Proofs.Tryd.f65.body).bind (comp Go.Proofs.Tryd.prog) = some c65 := by kernel_rfl
theorem ok67 : (Go.Proofs.Tryd.f67.body).bind (comp Go.Proofs.Tryd.prog) = some c67 := by kernel_rfl
end Go.Proofs.YtakghhkbaahabaaDoorK.NatIr
