/-
  The compiled bodies, printed: IrLRoundModes.
-/
import Derived.Test.YtapikjmijmebpaaDoorKAb
import Derived.Test.YtapikjmijmebpaaDoorProg
set_option linter.all false
set_option linter.unusedVariables false
set_option linter.unusedSimpArgs false
set_option maxHeartbeats 4000000
namespace Go.Proofs.YtapikjmijmebpaaDoorK.NatIr
open Go.Proofs.YtapikjmijmebpaaDoorK.AI
/-- cubit/cubitlaw5.RoundModes -/
def c4 : IR :=
  (.seq (.reg false [⟨(some 1), .box 28 3 (.t 0), none⟩, ⟨(some 2), .mv (.c (.bool false)), none⟩] [])
  (.seq (.seq (.reg false [⟨(some 12), .call 9 [], none⟩, ⟨(some 13), .not (.t 12), none⟩] [])
  (.cond (.t 13)
    (.seq (.reg false [⟨(some 2), .mv (.c (.bool false)), none⟩] [])
    .ret)
    .skip))
  (.seq (.seq (.reg false [⟨(some 14), .load true 3 (.t 1), none⟩, ⟨(some 15), .call 14 [(.t 14)], none⟩, ⟨(some 16), .mv (.t 15), none⟩, ⟨(some 17), .load true 3 (.t 1), (some ((some 16), false))⟩, ⟨(some 18), .call 10 [(.t 17)], (some ((some 16), false))⟩, ⟨(some 19), .not (.t 18), (some ((some 16), false))⟩, ⟨(some 20), .pick (.t 16) (.c (.bool true)) (.t 19), none⟩] [])
  (.cond (.t 20)
    (.seq (.reg false [⟨(some 2), .mv (.c (.bool true)), none⟩] [])
    .ret)
    .skip))
  (.seq (.reg false [⟨(some 3), .new 39 16 [(.bool false), .nils, (.bool false), .nils, (.bool false), .nils, (.bool false), .nils, (.bool false), .nils, (.bool false), .nils, (.bool false), .nils, (.bool false), .nils], none⟩] [])
  (.seq (.seq (.reg false [⟨(some 4), .mv (.c (.int .i64 1)), none⟩] [])
  (.block 0 (.loop (.seq (.seq (.reg false [⟨(some 21), .mv (.t 4), none⟩, ⟨(some 22), .bin .leq (.t 21) (.c (.int .i64 7)), none⟩] [])
      (.cond (.t 22)
        .skip
        (.exit 0)))
      (.seq (.block 1 (.seq (.reg false [⟨(some 26), .load true 3 (.t 1), none⟩, ⟨(some 27), .mv (.t 4), none⟩, ⟨(some 28), .call 15 [(.t 26), (.t 27)], none⟩, ⟨(some 25), .mv (.t 28), none⟩, ⟨(some 29), .ext (.t 25) 0, none⟩, ⟨(some 30), .ext (.t 25) 1, none⟩, ⟨(some 5), .new 26 2 [(.bool false), .nils], none⟩, ⟨none, .store 2 (.t 5) (.t 29), none⟩, ⟨(some 6), .mv (.t 30), none⟩] [])
        (.seq (.seq (.reg false [⟨(some 31), .mv (.t 6), none⟩, ⟨(some 32), .bin .neq (.t 31) (.c (.int .i64 0)), none⟩] [])
        (.cond (.t 32)
          (.seq (.reg false [⟨(some 2), .mv (.c (.bool false)), none⟩] [])
          .ret)
          .skip))
        (.reg false [⟨(some 33), .mv (.t 4), none⟩, ⟨(some 34), .load true 2 (.t 5), none⟩, ⟨(some 35), .iaddrA 8 2 (.t 3) (.t 33), none⟩, ⟨none, .store 2 (.t 35) (.t 34), none⟩] []))))
      (.reg false [⟨(some 23), .mv (.t 4), none⟩, ⟨(some 24), .bin .add (.t 23) (.c (.int .i64 1)), none⟩, ⟨(some 4), .mv (.t 24), none⟩] []))))))
  (.seq (.reg true [⟨(some 37), .iaddrA 8 2 (.t 3) (.c (.int .i64 3)), none⟩, ⟨(some 38), .load true 2 (.t 37), none⟩, ⟨(some 39), .call 17 [(.c (.int .u64 1))], none⟩, ⟨(some 40), .call 16 [(.t 38), (.t 39)], none⟩, ⟨(some 36), .mv (.t 40), none⟩, ⟨(some 41), .ext (.t 36) 0, none⟩, ⟨(some 42), .ext (.t 36) 1, none⟩, ⟨(some 7), .new 28 3 [(.bool false), .nils, .nils], none⟩, ⟨none, .store 3 (.t 7) (.t 41), none⟩, ⟨(some 8), .mv (.t 42), none⟩] [0, 1, 0, 7, 15, 31, 31, 0, 191, 511])
  (.seq (.reg true [⟨(some 44), .iaddrA 8 2 (.t 3) (.c (.int .i64 4)), none⟩, ⟨(some 45), .load true 2 (.t 44), none⟩, ⟨(some 46), .call 17 [(.c (.int .u64 1))], none⟩, ⟨(some 47), .call 16 [(.t 45), (.t 46)], none⟩, ⟨(some 43), .mv (.t 47), none⟩, ⟨(some 48), .ext (.t 43) 0, none⟩, ⟨(some 49), .ext (.t 43) 1, none⟩, ⟨(some 9), .new 28 3 [(.bool false), .nils, .nils], none⟩, ⟨none, .store 3 (.t 9) (.t 48), none⟩, ⟨(some 10), .mv (.t 49), none⟩] [0, 1, 0, 7, 15, 31, 31, 0, 191, 511])
  (.seq (.seq (.reg true [⟨(some 50), .mv (.t 8), none⟩, ⟨(some 51), .not (.t 50), none⟩, ⟨(some 52), .mv (.t 51), none⟩, ⟨(some 53), .mv (.t 10), (some ((some 52), false))⟩, ⟨(some 54), .not (.t 53), (some ((some 52), false))⟩, ⟨(some 55), .pick (.t 52) (.c (.bool true)) (.t 54), none⟩, ⟨(some 56), .mv (.t 55), none⟩, ⟨(some 57), .load true 3 (.t 7), (some ((some 56), false))⟩, ⟨(some 58), .load true 3 (.t 1), (some ((some 56), false))⟩, ⟨(some 59), .call 18 [(.t 57), (.t 58)], (some ((some 56), false))⟩, ⟨(some 60), .bin .gtr (.t 59) (.c (.int .i64 0)), (some ((some 56), false))⟩, ⟨(some 61), .pick (.t 56) (.c (.bool true)) (.t 60), none⟩, ⟨(some 62), .mv (.t 61), none⟩, ⟨(some 63), .load true 3 (.t 1), (some ((some 62), false))⟩, ⟨(some 64), .load true 3 (.t 9), (some ((some 62), false))⟩, ⟨(some 65), .call 18 [(.t 63), (.t 64)], (some ((some 62), false))⟩, ⟨(some 66), .bin .gtr (.t 65) (.c (.int .i64 0)), (some ((some 62), false))⟩, ⟨(some 67), .pick (.t 62) (.c (.bool true)) (.t 66), none⟩, ⟨(some 68), .mv (.t 67), none⟩, ⟨(some 69), .iaddrA 8 2 (.t 3) (.c (.int .i64 3)), (some ((some 68), false))⟩, ⟨(some 70), .load true 2 (.t 69), (some ((some 68), false))⟩, ⟨(some 71), .load true 3 (.t 1), (some ((some 68), false))⟩, ⟨(some 72), .call 20 [(.t 71)], (some ((some 68), false))⟩, ⟨(some 73), .call 19 [(.t 70), (.t 72)], (some ((some 68), false))⟩, ⟨(some 74), .bin .neq (.t 73) (.c (.int .i64 0)), (some ((some 68), false))⟩, ⟨(some 75), .pick (.t 68) (.c (.bool true)) (.t 74), none⟩] [0, 1, 3, 7, 15, 31, 63, 127, 127, 511, 1023, 2047, 4095, 8191, 8191, 32767, 65535, 131071, 262143, 524287, 1048575, 524287, 2621439, 8388607, 16777215, 33554431])
  (.cond (.t 75)
    (.seq (.reg false [⟨(some 2), .mv (.c (.bool false)), none⟩] [])
    .ret)
    .skip))
  (.seq (.seq (.reg false [⟨(some 76), .load true 3 (.t 1), none⟩, ⟨(some 77), .call 11 [(.t 76)], none⟩, ⟨(some 78), .bin .geq (.t 77) (.c (.int .i64 0)), none⟩, ⟨(some 79), .mv (.t 78), none⟩, ⟨(some 80), .iaddrA 8 2 (.t 3) (.c (.int .i64 1)), (some ((some 79), true))⟩, ⟨(some 81), .load true 2 (.t 80), (some ((some 79), true))⟩, ⟨(some 82), .iaddrA 8 2 (.t 3) (.c (.int .i64 3)), (some ((some 79), true))⟩, ⟨(some 83), .load true 2 (.t 82), (some ((some 79), true))⟩, ⟨(some 84), .call 19 [(.t 81), (.t 83)], (some ((some 79), true))⟩, ⟨(some 85), .bin .neq (.t 84) (.c (.int .i64 0)), (some ((some 79), true))⟩, ⟨(some 86), .mv (.t 85), (some ((some 79), true))⟩, ⟨(some 87), .iaddrA 8 2 (.t 3) (.c (.int .i64 2)), (some ((some 86), false))⟩, ⟨(some 88), .load true 2 (.t 87), (some ((some 86), false))⟩, ⟨(some 89), .iaddrA 8 2 (.t 3) (.c (.int .i64 4)), (some ((some 86), false))⟩, ⟨(some 90), .load true 2 (.t 89), (some ((some 86), false))⟩, ⟨(some 91), .call 19 [(.t 88), (.t 90)], (some ((some 86), false))⟩, ⟨(some 92), .bin .neq (.t 91) (.c (.int .i64 0)), (some ((some 86), false))⟩, ⟨(some 93), .pick (.t 86) (.c (.bool true)) (.t 92), (some ((some 79), true))⟩, ⟨(some 94), .pick (.t 79) (.t 93) (.c (.bool false)), none⟩, ⟨(some 95), .mv (.t 94), none⟩, ⟨(some 96), .load true 3 (.t 1), (some ((some 95), false))⟩, ⟨(some 97), .call 11 [(.t 96)], (some ((some 95), false))⟩, ⟨(some 98), .bin .lss (.t 97) (.c (.int .i64 0)), (some ((some 95), false))⟩, ⟨(some 99), .mv (.t 98), (some ((some 95), false))⟩, ⟨(some 100), .iaddrA 8 2 (.t 3) (.c (.int .i64 1)), (some ((some 99), true))⟩, ⟨(some 101), .load true 2 (.t 100), (some ((some 99), true))⟩, ⟨(some 102), .iaddrA 8 2 (.t 3) (.c (.int .i64 4)), (some ((some 99), true))⟩, ⟨(some 103), .load true 2 (.t 102), (some ((some 99), true))⟩, ⟨(some 104), .call 19 [(.t 101), (.t 103)], (some ((some 99), true))⟩, ⟨(some 105), .bin .neq (.t 104) (.c (.int .i64 0)), (some ((some 99), true))⟩, ⟨(some 106), .mv (.t 105), (some ((some 99), true))⟩, ⟨(some 107), .iaddrA 8 2 (.t 3) (.c (.int .i64 2)), (some ((some 106), false))⟩, ⟨(some 108), .load true 2 (.t 107), (some ((some 106), false))⟩, ⟨(some 109), .iaddrA 8 2 (.t 3) (.c (.int .i64 3)), (some ((some 106), false))⟩, ⟨(some 110), .load true 2 (.t 109), (some ((some 106), false))⟩, ⟨(some 111), .call 19 [(.t 108), (.t 110)], (some ((some 106), false))⟩, ⟨(some 112), .bin .neq (.t 111) (.c (.int .i64 0)), (some ((some 106), false))⟩, ⟨(some 113), .pick (.t 106) (.c (.bool true)) (.t 112), (some ((some 99), true))⟩, ⟨(some 114), .pick (.t 99) (.t 113) (.c (.bool false)), (some ((some 95), false))⟩, ⟨(some 115), .pick (.t 95) (.c (.bool true)) (.t 114), none⟩] [])
  (.cond (.t 115)
    (.seq (.reg false [⟨(some 2), .mv (.c (.bool false)), none⟩] [])
    .ret)
    .skip))
  (.seq (.seq (.reg false [⟨(some 11), .mv (.c (.int .i64 5)), none⟩] [])
  (.block 2 (.loop (.seq (.seq (.reg false [⟨(some 116), .mv (.t 11), none⟩, ⟨(some 117), .bin .leq (.t 116) (.c (.int .i64 7)), none⟩] [])
      (.cond (.t 117)
        .skip
        (.exit 2)))
      (.seq (.block 3 (.seq (.reg true [⟨(some 120), .mv (.t 11), none⟩, ⟨(some 121), .iaddrA 8 2 (.t 3) (.t 120), none⟩, ⟨(some 122), .load true 2 (.t 121), none⟩, ⟨(some 123), .iaddrA 8 2 (.t 3) (.c (.int .i64 3)), none⟩, ⟨(some 124), .load true 2 (.t 123), none⟩, ⟨(some 125), .call 19 [(.t 122), (.t 124)], none⟩, ⟨(some 126), .bin .neq (.t 125) (.c (.int .i64 0)), none⟩, ⟨(some 127), .mv (.t 126), none⟩, ⟨(some 128), .mv (.t 11), (some ((some 127), true))⟩, ⟨(some 129), .iaddrA 8 2 (.t 3) (.t 128), (some ((some 127), true))⟩, ⟨(some 130), .load true 2 (.t 129), (some ((some 127), true))⟩, ⟨(some 131), .iaddrA 8 2 (.t 3) (.c (.int .i64 4)), (some ((some 127), true))⟩, ⟨(some 132), .load true 2 (.t 131), (some ((some 127), true))⟩, ⟨(some 133), .call 19 [(.t 130), (.t 132)], (some ((some 127), true))⟩, ⟨(some 134), .bin .neq (.t 133) (.c (.int .i64 0)), (some ((some 127), true))⟩, ⟨(some 135), .pick (.t 127) (.t 134) (.c (.bool false)), none⟩] [0, 1, 3, 0, 8, 31, 63, 127, 255, 511, 1023, 255, 2303, 8191, 16383, 32767])
        (.cond (.t 135)
          (.seq (.reg false [⟨(some 2), .mv (.c (.bool false)), none⟩] [])
          .ret)
          .skip)))
      (.reg false [⟨(some 118), .mv (.t 11), none⟩, ⟨(some 119), .bin .add (.t 118) (.c (.int .i64 1)), none⟩, ⟨(some 11), .mv (.t 119), none⟩] []))))))
  (.seq (.reg false [⟨(some 2), .mv (.c (.bool true)), none⟩] [])
  .ret)))))))))))
theorem ok4 : (Go.Proofs.Tryd.f4.body).bind (comp Go.Proofs.Tryd.prog) = some c4 := by kernel_rfl
end Go.Proofs.YtapikjmijmebpaaDoorK.NatIr
