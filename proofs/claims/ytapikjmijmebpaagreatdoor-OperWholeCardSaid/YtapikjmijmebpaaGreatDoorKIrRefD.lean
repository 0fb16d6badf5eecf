/-
  The compiled bodies, printed: IrRefD.
-/
import Derived.Test.YtapikjmijmebpaaGreatDoorKAb
import Derived.Test.YtapikjmijmebpaaGreatDoorProg
set_option linter.all false
set_option linter.unusedVariables false
set_option linter.unusedSimpArgs false
set_option maxHeartbeats 4000000
namespace Go.Proofs.YtapikjmijmebpaaGreatDoorK.NatIr
open Go.Proofs.YtapikjmijmebpaaGreatDoorK.AI
/-- cubit/cubitref1.Int -/
def c21 : IR :=
  (.seq (.reg false [⟨(some 2), .box 38 3 (.t 0), none⟩, ⟨(some 4), .new 36 2 [(.bool false), .nils], none⟩] [])
  (.seq (.reg false [⟨(some 12), .load true 3 (.t 2), none⟩, ⟨(some 13), .call 88 [(.t 12)], none⟩, ⟨(some 5), .new 36 2 [(.bool false), .nils], none⟩, ⟨none, .store 2 (.t 5) (.t 13), none⟩] [])
  (.seq (.seq (.reg false [⟨(some 14), .faddr 2 (.t 2), none⟩, ⟨(some 15), .load false 1 (.t 14), none⟩, ⟨(some 16), .call 89 [(.t 15)], none⟩, ⟨(some 17), .bin .eql (.t 16) (.c (.str ⟨#[49]⟩)), none⟩] [])
  (.cond (.t 17)
    (.seq (.reg false [⟨(some 18), .load true 2 (.t 5), none⟩, ⟨none, .store 2 (.t 4) (.t 18), none⟩] [])
    .ret)
    .skip))
  (.seq (.reg true [⟨(some 19), .load true 2 (.t 5), none⟩, ⟨(some 20), .call 91 [(.c (.int .i64 1))], none⟩, ⟨(some 21), .call 90 [(.t 19), (.t 20)], none⟩, ⟨(some 6), .new 36 2 [(.bool false), .nils], none⟩, ⟨none, .store 2 (.t 6) (.t 21), none⟩] [0, 0, 3, 0, 15])
  (.seq (.reg true [⟨(some 22), .load true 2 (.t 5), none⟩, ⟨(some 23), .load true 2 (.t 6), none⟩, ⟨(some 7), .new 36 2 [(.bool false), .nils], none⟩, ⟨(some 8), .new 36 2 [(.bool false), .nils], none⟩, ⟨none, .store 2 (.t 7) (.t 22), none⟩, ⟨none, .store 2 (.t 8) (.t 23), none⟩] [0, 0, 0, 0, 13, 31])
  (.seq (.seq (.reg false [⟨(some 24), .faddr 0 (.t 2), none⟩, ⟨(some 25), .faddr 0 (.t 24), none⟩, ⟨(some 26), .load false 1 (.t 25), none⟩] [])
  (.cond (.t 26)
    (.reg true [⟨(some 27), .load true 2 (.t 6), none⟩, ⟨(some 28), .load true 2 (.t 5), none⟩, ⟨none, .store 2 (.t 7) (.t 27), none⟩, ⟨none, .store 2 (.t 8) (.t 28), none⟩] [0, 0, 1, 7])
    .skip))
  (.seq (.reg true [⟨(some 29), .load true 3 (.t 2), none⟩, ⟨(some 30), .load true 2 (.t 5), none⟩, ⟨(some 31), .call 59 [(.c (.int .u64 1))], none⟩, ⟨(some 32), .build [(.bool false), .nils, .nils] [(0, 2, (.t 30)), (2, 1, (.t 31))], none⟩, ⟨(some 33), .call 94 [(.t 32)], none⟩, ⟨(some 34), .call 93 [(.t 29), (.t 33)], none⟩, ⟨(some 35), .call 91 [(.c (.int .i64 1))], none⟩, ⟨(some 36), .call 59 [(.c (.int .u64 2))], none⟩, ⟨(some 37), .call 72 [(.t 35), (.t 36)], none⟩, ⟨(some 38), .call 92 [(.t 34), (.t 37)], none⟩, ⟨(some 9), .mv (.t 38), none⟩] [0, 0, 0, 6, 14, 31, 63, 127, 255, 511, 1023])
  (.seq (.seq (.reg false [⟨(some 39), .mv (.t 1), none⟩] [])
  (.block 0 (.seq (.reg false [⟨(some 41), .bin .eql (.t 39) (.c (.int .i64 1)), none⟩, ⟨(some 40), .mv (.t 41), none⟩] [])
    (.cond (.t 40)
      (.seq (.reg false [⟨(some 42), .load true 2 (.t 7), none⟩, ⟨none, .store 2 (.t 4) (.t 42), none⟩] [])
      .ret)
      (.seq (.reg false [⟨(some 44), .bin .eql (.t 39) (.c (.int .i64 2)), none⟩, ⟨(some 43), .mv (.t 44), none⟩] [])
      (.cond (.t 43)
        (.seq (.reg false [⟨(some 45), .load true 2 (.t 8), none⟩, ⟨none, .store 2 (.t 4) (.t 45), none⟩] [])
        .ret)
        (.seq (.reg false [⟨(some 47), .bin .eql (.t 39) (.c (.int .i64 3)), none⟩, ⟨(some 46), .mv (.t 47), none⟩] [])
        (.cond (.t 46)
          (.seq (.reg false [⟨(some 48), .load true 2 (.t 5), none⟩, ⟨none, .store 2 (.t 4) (.t 48), none⟩] [])
          .ret)
          (.seq (.reg false [⟨(some 50), .bin .eql (.t 39) (.c (.int .i64 4)), none⟩, ⟨(some 49), .mv (.t 50), none⟩] [])
          (.cond (.t 49)
            (.seq (.reg false [⟨(some 51), .load true 2 (.t 6), none⟩, ⟨none, .store 2 (.t 4) (.t 51), none⟩] [])
            .ret)
            .skip))))))))))
  (.seq (.seq (.reg false [⟨(some 52), .mv (.t 9), none⟩, ⟨(some 53), .bin .lss (.t 52) (.c (.int .i64 0)), none⟩] [])
  (.cond (.t 53)
    (.seq (.reg false [⟨(some 54), .load true 2 (.t 5), none⟩, ⟨none, .store 2 (.t 4) (.t 54), none⟩] [])
    .ret)
    .skip))
  (.seq (.seq (.reg false [⟨(some 55), .mv (.t 9), none⟩, ⟨(some 56), .bin .gtr (.t 55) (.c (.int .i64 0)), none⟩] [])
  (.cond (.t 56)
    (.seq (.reg false [⟨(some 57), .load true 2 (.t 6), none⟩, ⟨none, .store 2 (.t 4) (.t 57), none⟩] [])
    .ret)
    .skip))
  (.seq (.seq (.reg false [⟨(some 58), .mv (.t 1), none⟩] [])
  (.block 1 (.seq (.reg false [⟨(some 60), .bin .eql (.t 58) (.c (.int .i64 5)), none⟩, ⟨(some 59), .mv (.t 60), none⟩] [])
    (.cond (.t 59)
      (.seq (.reg false [⟨(some 61), .load true 2 (.t 7), none⟩, ⟨none, .store 2 (.t 4) (.t 61), none⟩] [])
      .ret)
      (.seq (.reg false [⟨(some 63), .bin .eql (.t 58) (.c (.int .i64 6)), none⟩, ⟨(some 62), .mv (.t 63), none⟩] [])
      (.cond (.t 62)
        (.seq (.reg false [⟨(some 64), .load true 2 (.t 8), none⟩, ⟨none, .store 2 (.t 4) (.t 64), none⟩] [])
        .ret)
        .skip))))))
  (.seq (.reg true [⟨(some 66), .faddr 1 (.t 5), none⟩, ⟨(some 67), .load false 1 (.t 66), none⟩, ⟨(some 68), .call 59 [(.c (.int .u64 2))], none⟩, ⟨(some 69), .call 95 [(.t 67), (.t 68)], none⟩, ⟨(some 65), .mv (.t 69), none⟩, ⟨(some 70), .ext (.t 65) 0, none⟩, ⟨(some 71), .ext (.t 65) 1, none⟩, ⟨(some 10), .mv (.t 70), none⟩, ⟨(some 11), .mv (.t 71), none⟩] [0, 1, 0, 7, 15, 31, 31, 63, 255])
  (.seq (.seq (.reg false [⟨(some 72), .mv (.t 11), none⟩, ⟨(some 73), .lenL (.t 72), none⟩, ⟨(some 74), .bin .eql (.t 73) (.c (.int .i64 0)), none⟩] [])
  (.cond (.t 74)
    (.seq (.reg false [⟨(some 75), .load true 2 (.t 5), none⟩, ⟨none, .store 2 (.t 4) (.t 75), none⟩] [])
    .ret)
    .skip))
  (.seq (.reg false [⟨(some 76), .load true 2 (.t 6), none⟩, ⟨none, .store 2 (.t 4) (.t 76), none⟩] [])
  .ret))))))))))))))
theorem ok21 : (Go.Proofs.Tryz.f21.body).bind (comp Go.Proofs.Tryz.prog) = some c21 := by kernel_rfl
/-- cubit/cubitref1.To -/
def c22 : IR :=
  (.seq (.reg false [⟨(some 3), .box 38 3 (.t 0), none⟩, ⟨(some 6), .new 50 3 [(.bool false), .nils, (.int .i64 0)], none⟩, ⟨(some 7), .mv (.c (.bool false)), none⟩] [])
  (.seq (.seq (.reg false [⟨(some 9), .mv (.t 1), none⟩, ⟨(some 10), .bin .lss (.t 9) (.c (.int .i64 0)), none⟩, ⟨(some 11), .mv (.t 10), none⟩, ⟨(some 12), .mv (.t 1), (some ((some 11), false))⟩, ⟨(some 13), .bin .gtr (.t 12) (.c (.int .i64 60)), (some ((some 11), false))⟩, ⟨(some 14), .pick (.t 11) (.c (.bool true)) (.t 13), none⟩, ⟨(some 15), .mv (.t 14), none⟩, ⟨(some 16), .mv (.t 2), (some ((some 15), false))⟩, ⟨(some 17), .bin .lss (.t 16) (.c (.int .i64 1)), (some ((some 15), false))⟩, ⟨(some 18), .pick (.t 15) (.c (.bool true)) (.t 17), none⟩, ⟨(some 19), .mv (.t 18), none⟩, ⟨(some 20), .mv (.t 2), (some ((some 19), false))⟩, ⟨(some 21), .bin .gtr (.t 20) (.c (.int .i64 7)), (some ((some 19), false))⟩, ⟨(some 22), .pick (.t 19) (.c (.bool true)) (.t 21), none⟩] [])
  (.cond (.t 22)
    (.seq (.reg false [⟨(some 23), .build [(.bool false), .nils, (.int .i64 0)] [], none⟩, ⟨none, .store 3 (.t 6) (.t 23), none⟩, ⟨(some 7), .mv (.c (.bool false)), none⟩] [])
    .ret)
    .skip))
  (.seq (.reg false [⟨(some 24), .load true 3 (.t 3), none⟩, ⟨(some 25), .mv (.t 1), none⟩, ⟨(some 26), .call 96 [(.t 24), (.t 25)], none⟩, ⟨(some 27), .mv (.t 2), none⟩, ⟨(some 28), .call 21 [(.t 26), (.t 27)], none⟩, ⟨(some 8), .new 36 2 [(.bool false), .nils], none⟩, ⟨none, .store 2 (.t 8) (.t 28), none⟩] [])
  (.seq (.reg false [⟨(some 29), .faddr 0 (.t 8), none⟩, ⟨(some 30), .load false 1 (.t 29), none⟩, ⟨(some 31), .faddr 1 (.t 8), none⟩, ⟨(some 32), .load false 1 (.t 31), none⟩, ⟨(some 33), .mv (.t 1), none⟩, ⟨(some 34), .build [(.bool false), .nils, (.int .i64 0)] [(0, 1, (.t 30)), (1, 1, (.t 32)), (2, 1, (.t 33))], none⟩, ⟨none, .store 3 (.t 6) (.t 34), none⟩, ⟨(some 7), .mv (.c (.bool true)), none⟩] [])
  .ret))))
theorem ok22 : (Go.Proofs.Tryz.f22.body).bind (comp Go.Proofs.Tryz.prog) = some c22 := by kernel_rfl
/-- cubit/cubitref1.Sig -/
def c23 : IR :=
  (.seq (.reg false [⟨(some 3), .box 38 3 (.t 0), none⟩, ⟨(some 6), .new 50 3 [(.bool false), .nils, (.int .i64 0)], none⟩, ⟨(some 7), .mv (.c (.int .i64 0)), none⟩] [])
  (.seq (.seq (.reg false [⟨(some 19), .mv (.t 1), none⟩, ⟨(some 20), .bin .lss (.t 19) (.c (.int .i64 1)), none⟩, ⟨(some 21), .mv (.t 20), none⟩, ⟨(some 22), .mv (.t 1), (some ((some 21), false))⟩, ⟨(some 23), .bin .gtr (.t 22) (.c (.int .i64 40)), (some ((some 21), false))⟩, ⟨(some 24), .pick (.t 21) (.c (.bool true)) (.t 23), none⟩, ⟨(some 25), .mv (.t 24), none⟩, ⟨(some 26), .mv (.t 2), (some ((some 25), false))⟩, ⟨(some 27), .bin .lss (.t 26) (.c (.int .i64 1)), (some ((some 25), false))⟩, ⟨(some 28), .pick (.t 25) (.c (.bool true)) (.t 27), none⟩, ⟨(some 29), .mv (.t 28), none⟩, ⟨(some 30), .mv (.t 2), (some ((some 29), false))⟩, ⟨(some 31), .bin .gtr (.t 30) (.c (.int .i64 7)), (some ((some 29), false))⟩, ⟨(some 32), .pick (.t 29) (.c (.bool true)) (.t 31), none⟩] [])
  (.cond (.t 32)
    (.seq (.reg false [⟨(some 33), .build [(.bool false), .nils, (.int .i64 0)] [], none⟩, ⟨none, .store 3 (.t 6) (.t 33), none⟩, ⟨(some 7), .mv (.c (.int .i64 1)), none⟩] [])
    .ret)
    .skip))
  (.seq (.seq (.reg false [⟨(some 34), .load true 3 (.t 3), none⟩, ⟨(some 35), .call 97 [(.t 34)], none⟩, ⟨(some 36), .bin .eql (.t 35) (.c (.int .i64 0)), none⟩] [])
  (.cond (.t 36)
    (.seq (.reg false [⟨(some 37), .mv (.t 1), none⟩, ⟨(some 38), .bin .sub (.t 37) (.c (.int .i64 1)), none⟩, ⟨(some 39), .build [(.bool false), .nils, (.int .i64 0)] [(2, 1, (.t 38))], none⟩, ⟨none, .store 3 (.t 6) (.t 39), none⟩, ⟨(some 7), .mv (.c (.int .i64 0)), none⟩] [])
    .ret)
    .skip))
  (.seq (.reg true [⟨(some 40), .faddr 0 (.t 3), none⟩, ⟨(some 41), .faddr 1 (.t 40), none⟩, ⟨(some 42), .load false 1 (.t 41), none⟩, ⟨(some 43), .call 73 [(.c (.bool false)), (.t 42)], none⟩, ⟨(some 44), .faddr 2 (.t 3), none⟩, ⟨(some 45), .load false 1 (.t 44), none⟩, ⟨(some 46), .build [(.bool false), .nils, .nils] [(0, 2, (.t 43)), (2, 1, (.t 45))], none⟩, ⟨(some 8), .new 38 3 [(.bool false), .nils, .nils], none⟩, ⟨none, .store 3 (.t 8) (.t 46), none⟩] [0, 1, 3, 7, 0, 16, 63, 0, 255])
  (.seq (.reg true [⟨(some 47), .faddr 0 (.t 3), none⟩, ⟨(some 48), .faddr 1 (.t 47), none⟩, ⟨(some 49), .load false 1 (.t 48), none⟩, ⟨(some 50), .call 89 [(.t 49)], none⟩, ⟨(some 51), .lenS (.t 50), none⟩, ⟨(some 52), .faddr 2 (.t 3), none⟩, ⟨(some 53), .load false 1 (.t 52), none⟩, ⟨(some 54), .call 89 [(.t 53)], none⟩, ⟨(some 55), .lenS (.t 54), none⟩, ⟨(some 56), .bin .sub (.t 51) (.t 55), none⟩, ⟨(some 9), .mv (.t 56), none⟩] [0, 1, 3, 7, 15, 0, 32, 111, 239, 511, 1023])
  (.seq (.reg false [⟨(some 58), .call 71 [(.c (.int .i64 10))], none⟩, ⟨(some 59), .mv (.t 9), none⟩, ⟨(some 60), .call 98 [(.t 58), (.t 59)], none⟩, ⟨(some 57), .mv (.t 60), none⟩, ⟨(some 61), .ext (.t 57) 0, none⟩, ⟨(some 62), .ext (.t 57) 1, none⟩, ⟨(some 10), .new 38 3 [(.bool false), .nils, .nils], none⟩, ⟨none, .store 3 (.t 10) (.t 61), none⟩, ⟨(some 11), .mv (.t 62), none⟩] [])
  (.seq (.seq (.reg false [⟨(some 63), .load true 3 (.t 8), none⟩, ⟨(some 64), .load true 3 (.t 10), none⟩, ⟨(some 65), .call 92 [(.t 63), (.t 64)], none⟩, ⟨(some 66), .bin .lss (.t 65) (.c (.int .i64 0)), none⟩] [])
  (.cond (.t 66)
    (.reg false [⟨(some 67), .mv (.t 9), none⟩, ⟨(some 68), .bin .sub (.t 67) (.c (.int .i64 1)), none⟩, ⟨(some 9), .mv (.t 68), none⟩] [])
    .skip))
  (.seq (.reg false [⟨(some 69), .mv (.t 1), none⟩, ⟨(some 70), .bin .sub (.t 69) (.c (.int .i64 1)), none⟩, ⟨(some 71), .mv (.t 9), none⟩, ⟨(some 72), .bin .sub (.t 70) (.t 71), none⟩, ⟨(some 12), .mv (.t 72), none⟩] [])
  (.seq (.seq (.reg false [⟨(some 73), .mv (.t 12), none⟩, ⟨(some 74), .bin .gtr (.t 73) (.c (.int .i64 60)), none⟩] [])
  (.cond (.t 74)
    (.seq (.reg false [⟨(some 75), .build [(.bool false), .nils, (.int .i64 0)] [], none⟩, ⟨none, .store 3 (.t 6) (.t 75), none⟩, ⟨(some 7), .mv (.c (.int .i64 11)), none⟩] [])
    .ret)
    .skip))
  (.seq (.seq (.reg false [⟨(some 76), .mv (.t 12), none⟩, ⟨(some 77), .bin .geq (.t 76) (.c (.int .i64 0)), none⟩] [])
  (.cond (.t 77)
    (.seq (.reg false [⟨(some 79), .load true 3 (.t 3), none⟩, ⟨(some 80), .mv (.t 12), none⟩, ⟨(some 81), .mv (.t 2), none⟩, ⟨(some 82), .call 22 [(.t 79), (.t 80), (.t 81)], none⟩, ⟨(some 78), .mv (.t 82), none⟩, ⟨(some 83), .ext (.t 78) 0, none⟩, ⟨(some 84), .ext (.t 78) 1, none⟩, ⟨(some 13), .new 50 3 [(.bool false), .nils, (.int .i64 0)], none⟩, ⟨none, .store 3 (.t 13) (.t 83), none⟩, ⟨(some 14), .mv (.t 84), none⟩] [])
    (.seq (.seq (.reg false [⟨(some 85), .faddr 1 (.t 13), none⟩, ⟨(some 86), .load false 1 (.t 85), none⟩, ⟨(some 87), .call 89 [(.t 86)], none⟩, ⟨(some 88), .lenS (.t 87), none⟩, ⟨(some 89), .mv (.t 1), none⟩, ⟨(some 90), .bin .gtr (.t 88) (.t 89), none⟩, ⟨(some 91), .mv (.t 90), none⟩, ⟨(some 92), .faddr 2 (.t 13), (some ((some 91), true))⟩, ⟨(some 93), .load false 1 (.t 92), (some ((some 91), true))⟩, ⟨(some 94), .bin .gtr (.t 93) (.c (.int .i64 0)), (some ((some 91), true))⟩, ⟨(some 95), .pick (.t 91) (.t 94) (.c (.bool false)), none⟩] [])
    (.cond (.t 95)
      (.seq (.reg true [⟨(some 97), .faddr 1 (.t 13), none⟩, ⟨(some 98), .load false 1 (.t 97), none⟩, ⟨(some 99), .call 59 [(.c (.int .u64 10))], none⟩, ⟨(some 100), .call 95 [(.t 98), (.t 99)], none⟩, ⟨(some 96), .mv (.t 100), none⟩, ⟨(some 101), .ext (.t 96) 0, none⟩, ⟨(some 102), .ext (.t 96) 1, none⟩, ⟨(some 15), .mv (.t 101), none⟩, ⟨(some 16), .mv (.t 102), none⟩] [0, 1, 0, 7, 15, 31, 31, 63, 255])
      (.reg false [⟨(some 103), .faddr 0 (.t 13), none⟩, ⟨(some 104), .load false 1 (.t 103), none⟩, ⟨(some 105), .mv (.t 15), none⟩, ⟨(some 106), .faddr 2 (.t 13), none⟩, ⟨(some 107), .load false 1 (.t 106), none⟩, ⟨(some 108), .bin .sub (.t 107) (.c (.int .i64 1)), none⟩, ⟨(some 109), .build [(.bool false), .nils, (.int .i64 0)] [(0, 1, (.t 104)), (1, 1, (.t 105)), (2, 1, (.t 108))], none⟩, ⟨none, .store 3 (.t 13) (.t 109), none⟩] []))
      .skip))
    (.seq (.reg false [⟨(some 110), .load true 3 (.t 13), none⟩, ⟨none, .store 3 (.t 6) (.t 110), none⟩, ⟨(some 7), .mv (.c (.int .i64 0)), none⟩] [])
    .ret)))
    .skip))
  (.seq (.reg false [⟨(some 111), .mv (.t 12), none⟩, ⟨(some 112), .neg (.t 111), none⟩, ⟨(some 113), .call 99 [(.t 112)], none⟩, ⟨(some 114), .build [(.bool false), .nils] [(0, 1, (.c (.bool false))), (1, 1, (.t 113))], none⟩, ⟨(some 115), .call 59 [(.c (.int .u64 1))], none⟩, ⟨(some 116), .build [(.bool false), .nils, .nils] [(0, 2, (.t 114)), (2, 1, (.t 115))], none⟩, ⟨(some 17), .new 38 3 [(.bool false), .nils, .nils], none⟩, ⟨none, .store 3 (.t 17) (.t 116), none⟩] [])
  (.seq (.reg true [⟨(some 117), .load true 3 (.t 3), none⟩, ⟨(some 118), .load true 3 (.t 17), none⟩, ⟨(some 119), .call 101 [(.t 118)], none⟩, ⟨(some 120), .call 100 [(.t 117), (.t 119)], none⟩, ⟨(some 121), .mv (.t 2), none⟩, ⟨(some 122), .call 21 [(.t 120), (.t 121)], none⟩, ⟨(some 18), .new 36 2 [(.bool false), .nils], none⟩, ⟨none, .store 2 (.t 18) (.t 122), none⟩] [0, 0, 2, 7, 0, 31, 0, 127])
  (.seq (.reg true [⟨(some 123), .faddr 0 (.t 18), none⟩, ⟨(some 124), .load false 1 (.t 123), none⟩, ⟨(some 125), .faddr 1 (.t 18), none⟩, ⟨(some 126), .load false 1 (.t 125), none⟩, ⟨(some 127), .mv (.t 12), none⟩, ⟨(some 128), .neg (.t 127), none⟩, ⟨(some 129), .call 99 [(.t 128)], none⟩, ⟨(some 130), .call 102 [(.t 126), (.t 129)], none⟩, ⟨(some 131), .build [(.bool false), .nils, (.int .i64 0)] [(0, 1, (.t 124)), (1, 1, (.t 130)), (2, 1, (.c (.int .i64 0)))], none⟩, ⟨none, .store 3 (.t 6) (.t 131), none⟩, ⟨(some 7), .mv (.c (.int .i64 0)), none⟩] [0, 1, 0, 4, 0, 16, 48, 124, 255, 511, 1023])
  .ret)))))))))))))
theorem ok23 : (Go.Proofs.Tryz.f23.body).bind (comp Go.Proofs.Tryz.prog) = some c23 := by kernel_rfl
/-- cubit/cubitref1.Step -/
def c25 : IR :=
  (.seq (.reg false [⟨(some 3), .box 38 3 (.t 0), none⟩, ⟨(some 4), .box 50 3 (.t 1), none⟩, ⟨(some 6), .new 50 3 [(.bool false), .nils, (.int .i64 0)], none⟩, ⟨(some 7), .mv (.c (.bool false)), none⟩] [])
  (.seq (.seq (.reg false [⟨(some 9), .faddr 0 (.t 4), none⟩, ⟨(some 10), .load false 1 (.t 9), none⟩, ⟨(some 11), .mv (.t 10), none⟩, ⟨(some 12), .faddr 1 (.t 4), (some ((some 11), false))⟩, ⟨(some 13), .load false 1 (.t 12), (some ((some 11), false))⟩, ⟨(some 14), .lenL (.t 13), (some ((some 11), false))⟩, ⟨(some 15), .bin .eql (.t 14) (.c (.int .i64 0)), (some ((some 11), false))⟩, ⟨(some 16), .pick (.t 11) (.c (.bool true)) (.t 15), none⟩, ⟨(some 17), .mv (.t 16), none⟩, ⟨(some 18), .mv (.t 2), (some ((some 17), false))⟩, ⟨(some 19), .bin .lss (.t 18) (.c (.int .i64 1)), (some ((some 17), false))⟩, ⟨(some 20), .pick (.t 17) (.c (.bool true)) (.t 19), none⟩, ⟨(some 21), .mv (.t 20), none⟩, ⟨(some 22), .mv (.t 2), (some ((some 21), false))⟩, ⟨(some 23), .bin .gtr (.t 22) (.c (.int .i64 7)), (some ((some 21), false))⟩, ⟨(some 24), .pick (.t 21) (.c (.bool true)) (.t 23), none⟩] [])
  (.cond (.t 24)
    (.seq (.reg false [⟨(some 25), .build [(.bool false), .nils, (.int .i64 0)] [], none⟩, ⟨none, .store 3 (.t 6) (.t 25), none⟩, ⟨(some 7), .mv (.c (.bool false)), none⟩] [])
    .ret)
    .skip))
  (.seq (.reg true [⟨(some 26), .load true 3 (.t 3), none⟩, ⟨(some 27), .load true 3 (.t 4), none⟩, ⟨(some 28), .call 48 [(.t 27)], none⟩, ⟨(some 29), .call 101 [(.t 28)], none⟩, ⟨(some 30), .call 100 [(.t 26), (.t 29)], none⟩, ⟨(some 31), .mv (.t 2), none⟩, ⟨(some 32), .call 21 [(.t 30), (.t 31)], none⟩, ⟨(some 8), .new 36 2 [(.bool false), .nils], none⟩, ⟨none, .store 2 (.t 8) (.t 32), none⟩] [0, 0, 2, 6, 15, 0, 63, 0, 255])
  (.seq (.reg true [⟨(some 33), .faddr 0 (.t 8), none⟩, ⟨(some 34), .load false 1 (.t 33), none⟩, ⟨(some 35), .faddr 1 (.t 8), none⟩, ⟨(some 36), .load false 1 (.t 35), none⟩, ⟨(some 37), .faddr 1 (.t 4), none⟩, ⟨(some 38), .load false 1 (.t 37), none⟩, ⟨(some 39), .call 102 [(.t 36), (.t 38)], none⟩, ⟨(some 40), .faddr 2 (.t 4), none⟩, ⟨(some 41), .load false 1 (.t 40), none⟩, ⟨(some 42), .build [(.bool false), .nils, (.int .i64 0)] [(0, 1, (.t 34)), (1, 1, (.t 39)), (2, 1, (.t 41))], none⟩, ⟨none, .store 3 (.t 6) (.t 42), none⟩, ⟨(some 7), .mv (.c (.bool true)), none⟩] [0, 1, 0, 4, 0, 16, 60, 0, 128, 511, 1023, 2047])
  .ret))))
theorem ok25 : (Go.Proofs.Tryz.f25.body).bind (comp Go.Proofs.Tryz.prog) = some c25 := by kernel_rfl
/-- cubit/cubitref1.DParse -/
def c41 : IR :=
  (.seq (.reg false [⟨(some 2), .new 50 3 [(.bool false), .nils, (.int .i64 0)], none⟩, ⟨(some 3), .mv (.c (.int .i64 0)), none⟩] [])
  (.seq (.seq (.reg false [⟨(some 10), .mv (.t 0), none⟩, ⟨(some 11), .lenS (.t 10), none⟩, ⟨(some 12), .bin .gtr (.t 11) (.c (.int .i64 256)), none⟩] [])
  (.cond (.t 12)
    (.seq (.reg false [⟨(some 13), .build [(.bool false), .nils, (.int .i64 0)] [], none⟩, ⟨none, .store 3 (.t 2) (.t 13), none⟩, ⟨(some 3), .mv (.c (.int .i64 11)), none⟩] [])
    .ret)
    .skip))
  (.seq (.reg false [⟨(some 14), .mv (.t 0), none⟩, ⟨(some 15), .lenS (.t 14), none⟩, ⟨(some 16), .bin .gtr (.t 15) (.c (.int .i64 0)), none⟩, ⟨(some 17), .mv (.t 16), none⟩, ⟨(some 18), .mv (.t 0), (some ((some 17), true))⟩, ⟨(some 19), .idxs (.t 18) (.c (.int .i64 0)), (some ((some 17), true))⟩, ⟨(some 20), .bin .eql (.t 19) (.c (.int .u8 45)), (some ((some 17), true))⟩, ⟨(some 21), .pick (.t 17) (.t 20) (.c (.bool false)), none⟩, ⟨(some 4), .mv (.t 21), none⟩] [])
  (.seq (.seq (.reg false [⟨(some 22), .mv (.t 4), none⟩] [])
  (.cond (.t 22)
    (.reg false [⟨(some 23), .mv (.t 0), none⟩, ⟨(some 24), .slcS (.t 23) (some (.c (.int .i64 1))) none, none⟩, ⟨(some 0), .mv (.t 24), none⟩] [])
    .skip))
  (.seq (.reg false [⟨(some 5), .mv (.c (.int .i64 0)), none⟩] [])
  (.seq (.block 0 (.loop (.seq (.seq (.reg false [⟨(some 25), .mv (.t 5), none⟩, ⟨(some 26), .mv (.t 0), none⟩, ⟨(some 27), .lenS (.t 26), none⟩, ⟨(some 28), .bin .lss (.t 25) (.t 27), none⟩, ⟨(some 29), .mv (.t 28), none⟩, ⟨(some 30), .mv (.t 0), (some ((some 29), true))⟩, ⟨(some 31), .mv (.t 5), (some ((some 29), true))⟩, ⟨(some 32), .idxs (.t 30) (.t 31), (some ((some 29), true))⟩, ⟨(some 33), .bin .neq (.t 32) (.c (.int .u8 46)), (some ((some 29), true))⟩, ⟨(some 34), .pick (.t 29) (.t 33) (.c (.bool false)), none⟩] [])
      (.cond (.t 34)
        .skip
        (.exit 0)))
      (.block 1 (.reg false [⟨(some 35), .mv (.t 5), none⟩, ⟨(some 36), .bin .add (.t 35) (.c (.int .i64 1)), none⟩, ⟨(some 5), .mv (.t 36), none⟩] [])))))
  (.seq (.reg false [⟨(some 37), .mv (.t 0), none⟩, ⟨(some 38), .mv (.t 5), none⟩, ⟨(some 39), .slcS (.t 37) none (some (.t 38)), none⟩, ⟨(some 6), .mv (.t 39), none⟩, ⟨(some 7), .mv (.c (.str ⟨#[]⟩)), none⟩] [])
  (.seq (.seq (.reg false [⟨(some 40), .mv (.t 5), none⟩, ⟨(some 41), .mv (.t 0), none⟩, ⟨(some 42), .lenS (.t 41), none⟩, ⟨(some 43), .bin .lss (.t 40) (.t 42), none⟩] [])
  (.cond (.t 43)
    (.seq (.reg false [⟨(some 44), .mv (.t 0), none⟩, ⟨(some 45), .mv (.t 5), none⟩, ⟨(some 46), .bin .add (.t 45) (.c (.int .i64 1)), none⟩, ⟨(some 47), .slcS (.t 44) (some (.t 46)) none, none⟩, ⟨(some 7), .mv (.t 47), none⟩] [])
    (.seq (.reg false [⟨(some 48), .mv (.t 7), none⟩, ⟨(some 49), .bin .eql (.t 48) (.c (.str ⟨#[]⟩)), none⟩, ⟨(some 50), .mv (.t 49), none⟩, ⟨(some 51), .mv (.t 7), (some ((some 50), false))⟩, ⟨(some 52), .lenS (.t 51), (some ((some 50), false))⟩, ⟨(some 53), .bin .gtr (.t 52) (.c (.int .i64 60)), (some ((some 50), false))⟩, ⟨(some 54), .pick (.t 50) (.c (.bool true)) (.t 53), none⟩] [])
    (.cond (.t 54)
      (.seq (.reg false [⟨(some 55), .build [(.bool false), .nils, (.int .i64 0)] [], none⟩, ⟨none, .store 3 (.t 2) (.t 55), none⟩, ⟨(some 3), .mv (.c (.int .i64 2)), none⟩] [])
      .ret)
      .skip)))
    .skip))
  (.seq (.reg false [⟨(some 57), .mv (.t 6), none⟩, ⟨(some 58), .mv (.t 7), none⟩, ⟨(some 59), .bin .add (.t 57) (.t 58), none⟩, ⟨(some 60), .call 121 [(.t 59)], none⟩, ⟨(some 56), .mv (.t 60), none⟩, ⟨(some 61), .ext (.t 56) 0, none⟩, ⟨(some 62), .ext (.t 56) 1, none⟩, ⟨(some 8), .mv (.t 61), none⟩, ⟨(some 9), .mv (.t 62), none⟩] [])
  (.seq (.seq (.reg false [⟨(some 63), .mv (.t 9), none⟩, ⟨(some 64), .not (.t 63), none⟩, ⟨(some 65), .mv (.t 64), none⟩, ⟨(some 66), .mv (.t 6), (some ((some 65), false))⟩, ⟨(some 67), .bin .eql (.t 66) (.c (.str ⟨#[]⟩)), (some ((some 65), false))⟩, ⟨(some 68), .pick (.t 65) (.c (.bool true)) (.t 67), none⟩] [])
  (.cond (.t 68)
    (.seq (.reg false [⟨(some 69), .build [(.bool false), .nils, (.int .i64 0)] [], none⟩, ⟨none, .store 3 (.t 2) (.t 69), none⟩, ⟨(some 3), .mv (.c (.int .i64 2)), none⟩] [])
    .ret)
    .skip))
  (.seq (.reg false [⟨(some 70), .mv (.t 4), none⟩, ⟨(some 71), .mv (.t 70), none⟩, ⟨(some 72), .mv (.t 8), (some ((some 71), true))⟩, ⟨(some 73), .lenL (.t 72), (some ((some 71), true))⟩, ⟨(some 74), .bin .gtr (.t 73) (.c (.int .i64 0)), (some ((some 71), true))⟩, ⟨(some 75), .pick (.t 71) (.t 74) (.c (.bool false)), none⟩, ⟨(some 76), .mv (.t 8), none⟩, ⟨(some 77), .mv (.t 7), none⟩, ⟨(some 78), .lenS (.t 77), none⟩, ⟨(some 79), .build [(.bool false), .nils, (.int .i64 0)] [(0, 1, (.t 75)), (1, 1, (.t 76)), (2, 1, (.t 78))], none⟩, ⟨none, .store 3 (.t 2) (.t 79), none⟩, ⟨(some 3), .mv (.c (.int .i64 0)), none⟩] [])
  .ret)))))))))))
theorem ok41 : (Go.Proofs.Tryz.f41.body).bind (comp Go.Proofs.Tryz.prog) = some c41 := by kernel_rfl
/-- cubit/cubitref1.DOf -/
def c44 : IR :=
  (.seq (.reg false [⟨(some 2), .box 38 3 (.t 0), none⟩, ⟨(some 4), .new 50 3 [(.bool false), .nils, (.int .i64 0)], none⟩, ⟨(some 5), .mv (.c (.bool false)), none⟩] [])
  (.seq (.seq (.reg false [⟨(some 8), .mv (.t 1), none⟩, ⟨(some 9), .bin .lss (.t 8) (.c (.int .i64 0)), none⟩] [])
  (.cond (.t 9)
    (.reg false [⟨(some 1), .mv (.c (.int .i64 0)), none⟩] [])
    .skip))
  (.seq (.seq (.reg false [⟨(some 10), .mv (.t 1), none⟩, ⟨(some 11), .bin .gtr (.t 10) (.c (.int .i64 60)), none⟩] [])
  (.cond (.t 11)
    (.reg false [⟨(some 1), .mv (.c (.int .i64 60)), none⟩] [])
    .skip))
  (.seq (.seq (.reg false [⟨(some 6), .mv (.c (.int .i64 0)), none⟩] [])
  (.block 0 (.loop (.seq (.seq (.reg false [⟨(some 12), .mv (.t 6), none⟩, ⟨(some 13), .mv (.t 1), none⟩, ⟨(some 14), .bin .leq (.t 12) (.t 13), none⟩] [])
      (.cond (.t 14)
        .skip
        (.exit 0)))
      (.seq (.block 1 (.seq (.reg true [⟨(some 17), .load true 3 (.t 2), none⟩, ⟨(some 18), .mv (.t 6), none⟩, ⟨(some 19), .call 99 [(.t 18)], none⟩, ⟨(some 20), .build [(.bool false), .nils] [(0, 1, (.c (.bool false))), (1, 1, (.t 19))], none⟩, ⟨(some 21), .call 59 [(.c (.int .u64 1))], none⟩, ⟨(some 22), .build [(.bool false), .nils, .nils] [(0, 2, (.t 20)), (2, 1, (.t 21))], none⟩, ⟨(some 23), .call 100 [(.t 17), (.t 22)], none⟩, ⟨(some 7), .new 38 3 [(.bool false), .nils, .nils], none⟩, ⟨none, .store 3 (.t 7) (.t 23), none⟩] [0, 0, 2, 6, 6, 30, 63, 0, 255])
        (.seq (.reg false [⟨(some 24), .faddr 2 (.t 7), none⟩, ⟨(some 25), .load false 1 (.t 24), none⟩, ⟨(some 26), .call 89 [(.t 25)], none⟩, ⟨(some 27), .bin .eql (.t 26) (.c (.str ⟨#[49]⟩)), none⟩] [])
        (.cond (.t 27)
          (.seq (.reg false [⟨(some 28), .faddr 0 (.t 7), none⟩, ⟨(some 29), .faddr 0 (.t 28), none⟩, ⟨(some 30), .load false 1 (.t 29), none⟩, ⟨(some 31), .faddr 0 (.t 7), none⟩, ⟨(some 32), .faddr 1 (.t 31), none⟩, ⟨(some 33), .load false 1 (.t 32), none⟩, ⟨(some 34), .mv (.t 6), none⟩, ⟨(some 35), .build [(.bool false), .nils, (.int .i64 0)] [(0, 1, (.t 30)), (1, 1, (.t 33)), (2, 1, (.t 34))], none⟩, ⟨none, .store 3 (.t 4) (.t 35), none⟩, ⟨(some 5), .mv (.c (.bool true)), none⟩] [])
          .ret)
          .skip))))
      (.reg false [⟨(some 15), .mv (.t 6), none⟩, ⟨(some 16), .bin .add (.t 15) (.c (.int .i64 1)), none⟩, ⟨(some 6), .mv (.t 16), none⟩] []))))))
  (.seq (.reg false [⟨(some 36), .build [(.bool false), .nils, (.int .i64 0)] [], none⟩, ⟨none, .store 3 (.t 4) (.t 36), none⟩, ⟨(some 5), .mv (.c (.bool false)), none⟩] [])
  .ret)))))
theorem ok44 : (Go.Proofs.Tryz.f44.body).bind (comp Go.Proofs.Tryz.prog) = some c44 := by kernel_rfl
/-- cubit/cubitref1.DText -/
def c46 : IR :=
  (.seq (.reg false [⟨(some 1), .box 50 3 (.t 0), none⟩, ⟨(some 2), .mv (.c (.str ⟨#[]⟩)), none⟩] [])
  (.seq (.reg false [⟨(some 6), .load true 3 (.t 1), none⟩, ⟨(some 7), .call 122 [(.t 6)], none⟩, ⟨(some 3), .mv (.t 7), none⟩] [])
  (.seq (.reg false [⟨(some 8), .mv (.t 3), none⟩, ⟨(some 9), .lenS (.t 8), none⟩, ⟨(some 10), .faddr 2 (.t 1), none⟩, ⟨(some 11), .load false 1 (.t 10), none⟩, ⟨(some 12), .bin .sub (.t 9) (.t 11), none⟩, ⟨(some 4), .mv (.t 12), none⟩] [])
  (.seq (.reg false [⟨(some 13), .mv (.t 3), none⟩, ⟨(some 14), .mv (.t 4), none⟩, ⟨(some 15), .slcS (.t 13) none (some (.t 14)), none⟩, ⟨(some 5), .mv (.t 15), none⟩] [])
  (.seq (.seq (.reg false [⟨(some 16), .faddr 2 (.t 1), none⟩, ⟨(some 17), .load false 1 (.t 16), none⟩, ⟨(some 18), .bin .gtr (.t 17) (.c (.int .i64 0)), none⟩] [])
  (.cond (.t 18)
    (.reg false [⟨(some 19), .mv (.t 5), none⟩, ⟨(some 20), .bin .add (.t 19) (.c (.str ⟨#[46]⟩)), none⟩, ⟨(some 21), .mv (.t 3), none⟩, ⟨(some 22), .mv (.t 4), none⟩, ⟨(some 23), .slcS (.t 21) (some (.t 22)) none, none⟩, ⟨(some 24), .bin .add (.t 20) (.t 23), none⟩, ⟨(some 5), .mv (.t 24), none⟩] [])
    .skip))
  (.seq (.seq (.reg false [⟨(some 25), .faddr 0 (.t 1), none⟩, ⟨(some 26), .load false 1 (.t 25), none⟩] [])
  (.cond (.t 26)
    (.seq (.reg false [⟨(some 27), .mv (.t 5), none⟩, ⟨(some 28), .bin .add (.c (.str ⟨#[45]⟩)) (.t 27), none⟩, ⟨(some 2), .mv (.t 28), none⟩] [])
    .ret)
    .skip))
  (.seq (.reg false [⟨(some 29), .mv (.t 5), none⟩, ⟨(some 2), .mv (.t 29), none⟩] [])
  .ret)))))))
theorem ok46 : (Go.Proofs.Tryz.f46.body).bind (comp Go.Proofs.Tryz.prog) = some c46 := by kernel_rfl
/-- cubit/cubitref1.DRat -/
def c48 : IR :=
  (.seq (.reg false [⟨(some 1), .box 50 3 (.t 0), none⟩, ⟨(some 2), .new 38 3 [(.bool false), .nils, .nils], none⟩] [])
  (.seq (.reg true [⟨(some 3), .faddr 0 (.t 1), none⟩, ⟨(some 4), .load false 1 (.t 3), none⟩, ⟨(some 5), .faddr 1 (.t 1), none⟩, ⟨(some 6), .load false 1 (.t 5), none⟩, ⟨(some 7), .call 73 [(.t 4), (.t 6)], none⟩, ⟨(some 8), .faddr 2 (.t 1), none⟩, ⟨(some 9), .load false 1 (.t 8), none⟩, ⟨(some 10), .call 99 [(.t 9)], none⟩, ⟨(some 11), .call 72 [(.t 7), (.t 10)], none⟩, ⟨none, .store 3 (.t 2) (.t 11), none⟩] [0, 1, 0, 4, 15, 0, 32, 127, 255, 511])
  .ret))
theorem ok48 : (Go.Proofs.Tryz.f48.body).bind (comp Go.Proofs.Tryz.prog) = some c48 := by kernel_rfl
/-- cubit/cubitref1.DWhole -/
def c51 : IR :=
  (.seq (.reg false [⟨(some 1), .box 50 3 (.t 0), none⟩, ⟨(some 2), .mv (.c .nils), none⟩] [])
  (.seq (.reg true [⟨(some 6), .faddr 1 (.t 1), none⟩, ⟨(some 7), .load false 1 (.t 6), none⟩, ⟨(some 8), .faddr 2 (.t 1), none⟩, ⟨(some 9), .load false 1 (.t 8), none⟩, ⟨(some 10), .call 99 [(.t 9)], none⟩, ⟨(some 11), .call 95 [(.t 7), (.t 10)], none⟩, ⟨(some 5), .mv (.t 11), none⟩, ⟨(some 12), .ext (.t 5) 0, none⟩, ⟨(some 13), .ext (.t 5) 1, none⟩, ⟨(some 3), .mv (.t 12), none⟩, ⟨(some 4), .mv (.t 13), none⟩] [0, 1, 0, 4, 12, 31, 63, 127, 127, 255, 1023])
  (.seq (.reg false [⟨(some 14), .mv (.t 3), none⟩, ⟨(some 2), .mv (.t 14), none⟩] [])
  .ret)))
theorem ok51 : (Go.Proofs.Tryz.f51.body).bind (comp Go.Proofs.Tryz.prog) = some c51 := by kernel_rfl
/-- cubit/cubitref1.DPart -/
def c52 : IR :=
  (.seq (.reg false [⟨(some 1), .box 50 3 (.t 0), none⟩, ⟨(some 2), .mv (.c (.str ⟨#[]⟩)), none⟩] [])
  (.seq (.reg false [⟨(some 4), .load true 3 (.t 1), none⟩, ⟨(some 5), .call 122 [(.t 4)], none⟩, ⟨(some 3), .mv (.t 5), none⟩] [])
  (.seq (.reg false [⟨(some 6), .mv (.t 3), none⟩, ⟨(some 7), .mv (.t 3), none⟩, ⟨(some 8), .lenS (.t 7), none⟩, ⟨(some 9), .faddr 2 (.t 1), none⟩, ⟨(some 10), .load false 1 (.t 9), none⟩, ⟨(some 11), .bin .sub (.t 8) (.t 10), none⟩, ⟨(some 12), .slcS (.t 6) (some (.t 11)) none, none⟩, ⟨(some 2), .mv (.t 12), none⟩] [])
  .ret)))
theorem ok52 : (Go.Proofs.Tryz.f52.body).bind (comp Go.Proofs.Tryz.prog) = some c52 := by kernel_rfl
/-- cubit/cubitref1.DShort -/
def c53 : IR :=
  (.seq (.reg false [⟨(some 1), .box 50 3 (.t 0), none⟩, ⟨(some 2), .new 50 3 [(.bool false), .nils, (.int .i64 0)], none⟩] [])
  (.seq (.block 0 (.loop (.seq (.seq (.reg false [⟨(some 5), .faddr 2 (.t 1), none⟩, ⟨(some 6), .load false 1 (.t 5), none⟩, ⟨(some 7), .bin .gtr (.t 6) (.c (.int .i64 0)), none⟩] [])
      (.cond (.t 7)
        .skip
        (.exit 0)))
      (.block 1 (.seq (.reg true [⟨(some 9), .faddr 1 (.t 1), none⟩, ⟨(some 10), .load false 1 (.t 9), none⟩, ⟨(some 11), .call 59 [(.c (.int .u64 10))], none⟩, ⟨(some 12), .call 95 [(.t 10), (.t 11)], none⟩, ⟨(some 8), .mv (.t 12), none⟩, ⟨(some 13), .ext (.t 8) 0, none⟩, ⟨(some 14), .ext (.t 8) 1, none⟩, ⟨(some 3), .mv (.t 13), none⟩, ⟨(some 4), .mv (.t 14), none⟩] [0, 1, 0, 7, 15, 31, 31, 63, 255])
        (.seq (.seq (.reg false [⟨(some 15), .mv (.t 4), none⟩, ⟨(some 16), .lenL (.t 15), none⟩, ⟨(some 17), .bin .gtr (.t 16) (.c (.int .i64 0)), none⟩] [])
        (.cond (.t 17)
          (.seq (.reg false [⟨(some 18), .load true 3 (.t 1), none⟩, ⟨none, .store 3 (.t 2) (.t 18), none⟩] [])
          .ret)
          .skip))
        (.reg false [⟨(some 19), .faddr 0 (.t 1), none⟩, ⟨(some 20), .load false 1 (.t 19), none⟩, ⟨(some 21), .mv (.t 20), none⟩, ⟨(some 22), .mv (.t 3), (some ((some 21), true))⟩, ⟨(some 23), .lenL (.t 22), (some ((some 21), true))⟩, ⟨(some 24), .bin .gtr (.t 23) (.c (.int .i64 0)), (some ((some 21), true))⟩, ⟨(some 25), .pick (.t 21) (.t 24) (.c (.bool false)), none⟩, ⟨(some 26), .mv (.t 3), none⟩, ⟨(some 27), .faddr 2 (.t 1), none⟩, ⟨(some 28), .load false 1 (.t 27), none⟩, ⟨(some 29), .bin .sub (.t 28) (.c (.int .i64 1)), none⟩, ⟨(some 30), .build [(.bool false), .nils, (.int .i64 0)] [(0, 1, (.t 25)), (1, 1, (.t 26)), (2, 1, (.t 29))], none⟩, ⟨none, .store 3 (.t 1) (.t 30), none⟩] [])))))))
  (.seq (.reg false [⟨(some 31), .load true 3 (.t 1), none⟩, ⟨none, .store 3 (.t 2) (.t 31), none⟩] [])
  .ret)))
theorem ok53 : (Go.Proofs.Tryz.f53.body).bind (comp Go.Proofs.Tryz.prog) = some c53 := by kernel_rfl
/-- cubit/cubitref1.scaled -/
def c96 : IR :=
  (.seq (.reg false [⟨(some 2), .box 38 3 (.t 0), none⟩, ⟨(some 4), .new 38 3 [(.bool false), .nils, .nils], none⟩] [])
  (.seq (.reg true [⟨(some 5), .load true 3 (.t 2), none⟩, ⟨(some 6), .mv (.t 1), none⟩, ⟨(some 7), .call 99 [(.t 6)], none⟩, ⟨(some 8), .build [(.bool false), .nils] [(0, 1, (.c (.bool false))), (1, 1, (.t 7))], none⟩, ⟨(some 9), .call 59 [(.c (.int .u64 1))], none⟩, ⟨(some 10), .build [(.bool false), .nils, .nils] [(0, 2, (.t 8)), (2, 1, (.t 9))], none⟩, ⟨(some 11), .call 100 [(.t 5), (.t 10)], none⟩, ⟨none, .store 3 (.t 4) (.t 11), none⟩] [0, 0, 2, 6, 6, 30, 63, 127])
  .ret))
theorem ok96 : (Go.Proofs.Tryz.f96.body).bind (comp Go.Proofs.Tryz.prog) = some c96 := by kernel_rfl
/-- cubit/cubitref1.plain -/
def c122 : IR :=
  (.seq (.reg false [⟨(some 1), .box 50 3 (.t 0), none⟩, ⟨(some 2), .mv (.c (.str ⟨#[]⟩)), none⟩] [])
  (.seq (.reg false [⟨(some 4), .faddr 1 (.t 1), none⟩, ⟨(some 5), .load false 1 (.t 4), none⟩, ⟨(some 6), .call 89 [(.t 5)], none⟩, ⟨(some 3), .mv (.t 6), none⟩] [])
  (.seq (.block 0 (.loop (.seq (.seq (.reg false [⟨(some 7), .mv (.t 3), none⟩, ⟨(some 8), .lenS (.t 7), none⟩, ⟨(some 9), .faddr 2 (.t 1), none⟩, ⟨(some 10), .load false 1 (.t 9), none⟩, ⟨(some 11), .bin .leq (.t 8) (.t 10), none⟩] [])
      (.cond (.t 11)
        .skip
        (.exit 0)))
      (.block 1 (.reg false [⟨(some 12), .mv (.t 3), none⟩, ⟨(some 13), .bin .add (.c (.str ⟨#[48]⟩)) (.t 12), none⟩, ⟨(some 3), .mv (.t 13), none⟩] [])))))
  (.seq (.reg false [⟨(some 14), .mv (.t 3), none⟩, ⟨(some 2), .mv (.t 14), none⟩] [])
  .ret))))
theorem ok122 : (Go.Proofs.Tryz.f122.body).bind (comp Go.Proofs.Tryz.prog) = some c122 := by kernel_rfl
end Go.Proofs.YtapikjmijmebpaaGreatDoorK.NatIr
