/-
  The compiled bodies, printed: IrRound.
-/
import Derived.Test.YtapikjmijmebpaaDoorKAb
import Derived.Test.YtapikjmijmebpaaDoorProg
set_option linter.all false
set_option linter.unusedVariables false
set_option linter.unusedSimpArgs false
set_option maxHeartbeats 4000000
namespace Go.Proofs.YtapikjmijmebpaaDoorK.NatIr
open Go.Proofs.YtapikjmijmebpaaDoorK.AI
/-- cubit/round.Sig -/
def c12 : IR :=
  (.seq (.reg false [⟨(some 3), .box 28 3 (.t 0), none⟩, ⟨(some 6), .new 33 3 [(.bool false), .nils, (.int .i64 0)], none⟩, ⟨(some 7), .mv (.c (.int .i64 0)), none⟩] [])
  (.seq (.seq (.reg false [⟨(some 16), .mv (.t 1), none⟩, ⟨(some 17), .bin .lss (.t 16) (.c (.int .i64 1)), none⟩, ⟨(some 18), .mv (.t 17), none⟩, ⟨(some 19), .mv (.t 1), (some ((some 18), false))⟩, ⟨(some 20), .bin .gtr (.t 19) (.c (.int .i64 40)), (some ((some 18), false))⟩, ⟨(some 21), .pick (.t 18) (.c (.bool true)) (.t 20), none⟩, ⟨(some 22), .mv (.t 21), none⟩, ⟨(some 23), .mv (.t 2), (some ((some 22), false))⟩, ⟨(some 24), .call 32 [(.t 23)], (some ((some 22), false))⟩, ⟨(some 25), .not (.t 24), (some ((some 22), false))⟩, ⟨(some 26), .pick (.t 22) (.c (.bool true)) (.t 25), none⟩] [])
  (.cond (.t 26)
    (.seq (.reg false [⟨(some 27), .build [(.bool false), .nils, (.int .i64 0)] [], none⟩, ⟨none, .store 3 (.t 6) (.t 27), none⟩, ⟨(some 7), .mv (.c (.int .i64 1)), none⟩] [])
    .ret)
    .skip))
  (.seq (.reg true [⟨(some 28), .load true 3 (.t 3), none⟩, ⟨(some 29), .call 40 [(.c (.int .i64 0))], none⟩, ⟨(some 30), .call 24 [(.t 28), (.t 29)], none⟩, ⟨none, .store 3 (.t 3) (.t 30), none⟩] [0, 0, 3, 7])
  (.seq (.seq (.reg false [⟨(some 31), .load true 3 (.t 3), none⟩, ⟨(some 32), .call 11 [(.t 31)], none⟩, ⟨(some 33), .bin .eql (.t 32) (.c (.int .i64 0)), none⟩] [])
  (.cond (.t 33)
    (.seq (.reg false [⟨(some 34), .mv (.t 1), none⟩, ⟨(some 35), .bin .sub (.t 34) (.c (.int .i64 1)), none⟩, ⟨(some 36), .build [(.bool false), .nils, (.int .i64 0)] [(2, 1, (.t 35))], none⟩, ⟨none, .store 3 (.t 6) (.t 36), none⟩, ⟨(some 7), .mv (.c (.int .i64 0)), none⟩] [])
    .ret)
    .skip))
  (.seq (.reg false [⟨(some 37), .load true 3 (.t 3), none⟩, ⟨(some 8), .new 28 3 [(.bool false), .nils, .nils], none⟩, ⟨none, .store 3 (.t 8) (.t 37), none⟩] [])
  (.seq (.seq (.reg false [⟨(some 38), .load true 3 (.t 3), none⟩, ⟨(some 39), .call 11 [(.t 38)], none⟩, ⟨(some 40), .bin .lss (.t 39) (.c (.int .i64 0)), none⟩] [])
  (.cond (.t 40)
    (.reg false [⟨(some 41), .load true 3 (.t 3), none⟩, ⟨(some 42), .call 26 [(.t 41)], none⟩, ⟨none, .store 3 (.t 8) (.t 42), none⟩] [])
    .skip))
  (.seq (.reg false [⟨(some 43), .load true 3 (.t 8), none⟩, ⟨(some 44), .call 41 [(.t 43)], none⟩, ⟨(some 9), .mv (.t 44), none⟩] [])
  (.seq (.reg false [⟨(some 45), .mv (.t 1), none⟩, ⟨(some 46), .bin .sub (.t 45) (.c (.int .i64 1)), none⟩, ⟨(some 47), .mv (.t 9), none⟩, ⟨(some 48), .bin .sub (.t 46) (.t 47), none⟩, ⟨(some 10), .mv (.t 48), none⟩] [])
  (.seq (.seq (.reg false [⟨(some 49), .mv (.t 10), none⟩, ⟨(some 50), .bin .gtr (.t 49) (.c (.int .i64 60)), none⟩] [])
  (.cond (.t 50)
    (.seq (.reg false [⟨(some 51), .build [(.bool false), .nils, (.int .i64 0)] [], none⟩, ⟨none, .store 3 (.t 6) (.t 51), none⟩, ⟨(some 7), .mv (.c (.int .i64 11)), none⟩] [])
    .ret)
    .skip))
  (.seq (.reg false [⟨(some 52), .mv (.t 10), none⟩, ⟨(some 53), .call 42 [(.t 52)], none⟩, ⟨(some 11), .new 28 3 [(.bool false), .nils, .nils], none⟩, ⟨none, .store 3 (.t 11) (.t 53), none⟩] [])
  (.seq (.reg false [⟨(some 55), .load true 3 (.t 3), none⟩, ⟨(some 56), .load true 3 (.t 11), none⟩, ⟨(some 57), .call 43 [(.t 55), (.t 56)], none⟩, ⟨(some 58), .mv (.t 2), none⟩, ⟨(some 59), .call 15 [(.t 57), (.t 58)], none⟩, ⟨(some 54), .mv (.t 59), none⟩, ⟨(some 60), .ext (.t 54) 0, none⟩, ⟨(some 61), .ext (.t 54) 1, none⟩, ⟨(some 12), .new 26 2 [(.bool false), .nils], none⟩, ⟨none, .store 2 (.t 12) (.t 60), none⟩, ⟨(some 13), .mv (.t 61), none⟩] [])
  (.seq (.seq (.reg false [⟨(some 62), .mv (.t 10), none⟩, ⟨(some 63), .bin .lss (.t 62) (.c (.int .i64 0)), none⟩] [])
  (.cond (.t 63)
    (.seq (.reg false [⟨(some 65), .load true 3 (.t 11), none⟩, ⟨(some 66), .call 44 [(.t 65)], none⟩, ⟨(some 64), .mv (.t 66), none⟩, ⟨(some 67), .ext (.t 64) 0, none⟩, ⟨(some 68), .ext (.t 64) 1, none⟩, ⟨(some 14), .new 28 3 [(.bool false), .nils, .nils], none⟩, ⟨none, .store 3 (.t 14) (.t 67), none⟩, ⟨(some 15), .mv (.t 68), none⟩] [])
    (.seq (.reg false [⟨(some 69), .load true 2 (.t 12), none⟩, ⟨(some 70), .faddr 0 (.t 14), none⟩, ⟨(some 71), .load true 2 (.t 70), none⟩, ⟨(some 72), .call 46 [(.t 69), (.t 71)], none⟩, ⟨(some 73), .call 45 [(.t 72), (.c (.int .i64 0))], none⟩, ⟨none, .store 3 (.t 6) (.t 73), none⟩, ⟨(some 7), .mv (.c (.int .i64 0)), none⟩] [])
    .ret))
    .skip))
  (.seq (.seq (.reg false [⟨(some 74), .mv (.t 10), none⟩, ⟨(some 75), .bin .gtr (.t 74) (.c (.int .i64 0)), none⟩, ⟨(some 76), .mv (.t 75), none⟩, ⟨(some 77), .faddr 1 (.t 12), (some ((some 76), true))⟩, ⟨(some 78), .load true 1 (.t 77), (some ((some 76), true))⟩, ⟨(some 79), .call 13 [(.t 78)], (some ((some 76), true))⟩, ⟨(some 80), .lenS (.t 79), (some ((some 76), true))⟩, ⟨(some 81), .mv (.t 1), (some ((some 76), true))⟩, ⟨(some 82), .bin .gtr (.t 80) (.t 81), (some ((some 76), true))⟩, ⟨(some 83), .pick (.t 76) (.t 82) (.c (.bool false)), none⟩] [])
  (.cond (.t 83)
    (.seq (.reg true [⟨(some 85), .load true 2 (.t 12), none⟩, ⟨(some 86), .call 48 [(.c (.int .i64 10))], none⟩, ⟨(some 87), .call 47 [(.t 85), (.t 86)], none⟩, ⟨(some 84), .mv (.t 87), none⟩, ⟨(some 88), .ext (.t 84) 0, none⟩, ⟨(some 89), .ext (.t 84) 1, none⟩, ⟨(some 90), .ext (.t 84) 2, none⟩, ⟨none, .store 2 (.t 12) (.t 88), none⟩] [0, 0, 3, 7, 15, 15, 15, 31])
    (.reg false [⟨(some 91), .mv (.t 10), none⟩, ⟨(some 92), .bin .sub (.t 91) (.c (.int .i64 1)), none⟩, ⟨(some 10), .mv (.t 92), none⟩] []))
    .skip))
  (.seq (.reg false [⟨(some 93), .load true 2 (.t 12), none⟩, ⟨(some 94), .mv (.t 10), none⟩, ⟨(some 95), .call 45 [(.t 93), (.t 94)], none⟩, ⟨none, .store 3 (.t 6) (.t 95), none⟩, ⟨(some 7), .mv (.c (.int .i64 0)), none⟩] [])
  .ret))))))))))))))
theorem ok12 : (Go.Proofs.Tryd.f12.body).bind (comp Go.Proofs.Tryd.prog) = some c12 := by kernel_rfl
/-- cubit/round.Int -/
def c15 : IR :=
  (.seq (.reg false [⟨(some 2), .box 28 3 (.t 0), none⟩, ⟨(some 4), .new 26 2 [(.bool false), .nils], none⟩, ⟨(some 5), .mv (.c (.int .i64 0)), none⟩] [])
  (.seq (.seq (.reg false [⟨(some 10), .mv (.t 1), none⟩, ⟨(some 11), .call 32 [(.t 10)], none⟩, ⟨(some 12), .not (.t 11), none⟩] [])
  (.cond (.t 12)
    (.seq (.reg false [⟨(some 13), .build [(.bool false), .nils] [], none⟩, ⟨none, .store 2 (.t 4) (.t 13), none⟩, ⟨(some 5), .mv (.c (.int .i64 1)), none⟩] [])
    .ret)
    .skip))
  (.seq (.reg false [⟨(some 14), .load true 3 (.t 2), none⟩, ⟨(some 15), .call 20 [(.t 14)], none⟩, ⟨(some 6), .new 26 2 [(.bool false), .nils], none⟩, ⟨none, .store 2 (.t 6) (.t 15), none⟩] [])
  (.seq (.reg true [⟨(some 17), .load true 2 (.t 6), none⟩, ⟨(some 18), .call 17 [(.c (.int .u64 1))], none⟩, ⟨(some 19), .call 16 [(.t 17), (.t 18)], none⟩, ⟨(some 16), .mv (.t 19), none⟩, ⟨(some 20), .ext (.t 16) 0, none⟩, ⟨(some 21), .ext (.t 16) 1, none⟩, ⟨(some 7), .new 28 3 [(.bool false), .nils, .nils], none⟩, ⟨none, .store 3 (.t 7) (.t 20), none⟩, ⟨(some 8), .mv (.t 21), none⟩] [0, 0, 3, 7, 15, 15, 0, 95, 255])
  (.seq (.reg true [⟨(some 22), .load true 3 (.t 2), none⟩, ⟨(some 23), .load true 3 (.t 7), none⟩, ⟨(some 24), .call 26 [(.t 23)], none⟩, ⟨(some 25), .call 24 [(.t 22), (.t 24)], none⟩, ⟨(some 9), .new 28 3 [(.bool false), .nils, .nils], none⟩, ⟨none, .store 3 (.t 9) (.t 25), none⟩] [0, 0, 2, 7, 0, 31])
  (.seq (.seq (.reg false [⟨(some 26), .load true 3 (.t 9), none⟩, ⟨(some 27), .call 11 [(.t 26)], none⟩, ⟨(some 28), .bin .neq (.t 27) (.c (.int .i64 0)), none⟩, ⟨(some 29), .mv (.t 28), none⟩, ⟨(some 30), .load true 3 (.t 2), (some ((some 29), true))⟩, ⟨(some 31), .load true 2 (.t 6), (some ((some 29), true))⟩, ⟨(some 32), .load true 3 (.t 9), (some ((some 29), true))⟩, ⟨(some 33), .mv (.t 1), (some ((some 29), true))⟩, ⟨(some 34), .call 55 [(.t 30), (.t 31), (.t 32), (.t 33)], (some ((some 29), true))⟩, ⟨(some 35), .pick (.t 29) (.t 34) (.c (.bool false)), none⟩] [])
  (.cond (.t 35)
    (.reg true [⟨(some 36), .load true 2 (.t 6), none⟩, ⟨(some 37), .call 48 [(.c (.int .i64 1))], none⟩, ⟨(some 38), .call 56 [(.t 36), (.t 37)], none⟩, ⟨none, .store 2 (.t 6) (.t 38), none⟩] [0, 0, 3, 7])
    .skip))
  (.seq (.reg false [⟨(some 39), .load true 2 (.t 6), none⟩, ⟨none, .store 2 (.t 4) (.t 39), none⟩, ⟨(some 5), .mv (.c (.int .i64 0)), none⟩] [])
  .ret)))))))
theorem ok15 : (Go.Proofs.Tryd.f15.body).bind (comp Go.Proofs.Tryd.prog) = some c15 := by kernel_rfl
/-- cubit/round.To -/
def c21 : IR :=
  (.seq (.reg false [⟨(some 3), .box 28 3 (.t 0), none⟩, ⟨(some 6), .new 33 3 [(.bool false), .nils, (.int .i64 0)], none⟩, ⟨(some 7), .mv (.c (.int .i64 0)), none⟩] [])
  (.seq (.seq (.reg false [⟨(some 10), .mv (.t 1), none⟩, ⟨(some 11), .bin .lss (.t 10) (.c (.int .i64 0)), none⟩, ⟨(some 12), .mv (.t 11), none⟩, ⟨(some 13), .mv (.t 1), (some ((some 12), false))⟩, ⟨(some 14), .bin .gtr (.t 13) (.c (.int .i64 60)), (some ((some 12), false))⟩, ⟨(some 15), .pick (.t 12) (.c (.bool true)) (.t 14), none⟩] [])
  (.cond (.t 15)
    (.seq (.reg false [⟨(some 16), .build [(.bool false), .nils, (.int .i64 0)] [], none⟩, ⟨none, .store 3 (.t 6) (.t 16), none⟩, ⟨(some 7), .mv (.c (.int .i64 1)), none⟩] [])
    .ret)
    .skip))
  (.seq (.reg true [⟨(some 18), .load true 3 (.t 3), none⟩, ⟨(some 19), .mv (.t 1), none⟩, ⟨(some 20), .call 42 [(.t 19)], none⟩, ⟨(some 21), .call 43 [(.t 18), (.t 20)], none⟩, ⟨(some 22), .mv (.t 2), none⟩, ⟨(some 23), .call 15 [(.t 21), (.t 22)], none⟩, ⟨(some 17), .mv (.t 23), none⟩, ⟨(some 24), .ext (.t 17) 0, none⟩, ⟨(some 25), .ext (.t 17) 1, none⟩, ⟨(some 8), .new 26 2 [(.bool false), .nils], none⟩, ⟨none, .store 2 (.t 8) (.t 24), none⟩, ⟨(some 9), .mv (.t 25), none⟩] [0, 0, 2, 7, 0, 31, 63, 127, 127, 0, 767, 2047])
  (.seq (.seq (.reg false [⟨(some 26), .mv (.t 9), none⟩, ⟨(some 27), .bin .neq (.t 26) (.c (.int .i64 0)), none⟩] [])
  (.cond (.t 27)
    (.seq (.reg false [⟨(some 28), .build [(.bool false), .nils, (.int .i64 0)] [], none⟩, ⟨(some 29), .mv (.t 9), none⟩, ⟨none, .store 3 (.t 6) (.t 28), none⟩, ⟨(some 7), .mv (.t 29), none⟩] [])
    .ret)
    .skip))
  (.seq (.reg false [⟨(some 30), .load true 2 (.t 8), none⟩, ⟨(some 31), .mv (.t 1), none⟩, ⟨(some 32), .call 45 [(.t 30), (.t 31)], none⟩, ⟨none, .store 3 (.t 6) (.t 32), none⟩, ⟨(some 7), .mv (.c (.int .i64 0)), none⟩] [])
  .ret)))))
theorem ok21 : (Go.Proofs.Tryd.f21.body).bind (comp Go.Proofs.Tryd.prog) = some c21 := by kernel_rfl
/-- cubit/round.Step -/
def c28 : IR :=
  (.seq (.reg false [⟨(some 3), .box 28 3 (.t 0), none⟩, ⟨(some 4), .box 33 3 (.t 1), none⟩, ⟨(some 6), .new 33 3 [(.bool false), .nils, (.int .i64 0)], none⟩, ⟨(some 7), .mv (.c (.int .i64 0)), none⟩] [])
  (.seq (.reg false [⟨(some 11), .load true 3 (.t 4), none⟩, ⟨(some 12), .call 25 [(.t 11)], none⟩, ⟨(some 8), .new 28 3 [(.bool false), .nils, .nils], none⟩, ⟨none, .store 3 (.t 8) (.t 12), none⟩] [])
  (.seq (.seq (.reg false [⟨(some 13), .load true 3 (.t 4), none⟩, ⟨(some 14), .call 64 [(.t 13)], none⟩, ⟨(some 15), .not (.t 14), none⟩, ⟨(some 16), .mv (.t 15), none⟩, ⟨(some 17), .load true 3 (.t 8), (some ((some 16), false))⟩, ⟨(some 18), .call 11 [(.t 17)], (some ((some 16), false))⟩, ⟨(some 19), .bin .leq (.t 18) (.c (.int .i64 0)), (some ((some 16), false))⟩, ⟨(some 20), .pick (.t 16) (.c (.bool true)) (.t 19), none⟩] [])
  (.cond (.t 20)
    (.seq (.reg false [⟨(some 21), .build [(.bool false), .nils, (.int .i64 0)] [], none⟩, ⟨none, .store 3 (.t 6) (.t 21), none⟩, ⟨(some 7), .mv (.c (.int .i64 1)), none⟩] [])
    .ret)
    .skip))
  (.seq (.reg false [⟨(some 23), .load true 3 (.t 3), none⟩, ⟨(some 24), .load true 3 (.t 8), none⟩, ⟨(some 25), .call 65 [(.t 23), (.t 24)], none⟩, ⟨(some 26), .mv (.t 2), none⟩, ⟨(some 27), .call 15 [(.t 25), (.t 26)], none⟩, ⟨(some 22), .mv (.t 27), none⟩, ⟨(some 28), .ext (.t 22) 0, none⟩, ⟨(some 29), .ext (.t 22) 1, none⟩, ⟨(some 9), .new 26 2 [(.bool false), .nils], none⟩, ⟨none, .store 2 (.t 9) (.t 28), none⟩, ⟨(some 10), .mv (.t 29), none⟩] [])
  (.seq (.seq (.reg false [⟨(some 30), .mv (.t 10), none⟩, ⟨(some 31), .bin .neq (.t 30) (.c (.int .i64 0)), none⟩] [])
  (.cond (.t 31)
    (.seq (.reg false [⟨(some 32), .build [(.bool false), .nils, (.int .i64 0)] [], none⟩, ⟨(some 33), .mv (.t 10), none⟩, ⟨none, .store 3 (.t 6) (.t 32), none⟩, ⟨(some 7), .mv (.t 33), none⟩] [])
    .ret)
    .skip))
  (.seq (.reg true [⟨(some 34), .load true 2 (.t 9), none⟩, ⟨(some 35), .faddr 1 (.t 4), none⟩, ⟨(some 36), .load true 1 (.t 35), none⟩, ⟨(some 37), .build [(.bool false), .nils] [(1, 1, (.t 36))], none⟩, ⟨(some 38), .call 46 [(.t 34), (.t 37)], none⟩, ⟨(some 39), .faddr 2 (.t 4), none⟩, ⟨(some 40), .load false 1 (.t 39), none⟩, ⟨(some 41), .call 45 [(.t 38), (.t 40)], none⟩, ⟨none, .store 3 (.t 6) (.t 41), none⟩, ⟨(some 7), .mv (.c (.int .i64 0)), none⟩] [0, 0, 2, 6, 15, 0, 32, 127, 255, 511])
  .ret))))))
theorem ok28 : (Go.Proofs.Tryd.f28.body).bind (comp Go.Proofs.Tryd.prog) = some c28 := by kernel_rfl
/-- cubit/round.Mode -/
def c32 : IR :=
  (.seq (.reg false [⟨(some 2), .mv (.c (.bool false)), none⟩] [])
  (.seq (.reg false [⟨(some 3), .mv (.t 0), none⟩, ⟨(some 4), .bin .geq (.t 3) (.c (.int .i64 1)), none⟩, ⟨(some 5), .mv (.t 4), none⟩, ⟨(some 6), .mv (.t 0), (some ((some 5), true))⟩, ⟨(some 7), .bin .leq (.t 6) (.c (.int .i64 7)), (some ((some 5), true))⟩, ⟨(some 8), .pick (.t 5) (.t 7) (.c (.bool false)), none⟩, ⟨(some 2), .mv (.t 8), none⟩] [])
  .ret))
theorem ok32 : (Go.Proofs.Tryd.f32.body).bind (comp Go.Proofs.Tryd.prog) = some c32 := by kernel_rfl
/-- cubit/round.power -/
def c41 : IR :=
  (.seq (.reg false [⟨(some 1), .box 28 3 (.t 0), none⟩, ⟨(some 2), .mv (.c (.int .i64 0)), none⟩] [])
  (.seq (.reg true [⟨(some 4), .faddr 0 (.t 1), none⟩, ⟨(some 5), .faddr 1 (.t 4), none⟩, ⟨(some 6), .load true 1 (.t 5), none⟩, ⟨(some 7), .call 13 [(.t 6)], none⟩, ⟨(some 8), .lenS (.t 7), none⟩, ⟨(some 9), .faddr 2 (.t 1), none⟩, ⟨(some 10), .load true 1 (.t 9), none⟩, ⟨(some 11), .call 13 [(.t 10)], none⟩, ⟨(some 12), .lenS (.t 11), none⟩, ⟨(some 13), .bin .sub (.t 8) (.t 12), none⟩, ⟨(some 3), .mv (.t 13), none⟩] [0, 1, 3, 7, 15, 0, 32, 111, 239, 511, 1023])
  (.seq (.seq (.reg true [⟨(some 14), .load true 3 (.t 1), none⟩, ⟨(some 15), .mv (.t 3), none⟩, ⟨(some 16), .call 42 [(.t 15)], none⟩, ⟨(some 17), .call 18 [(.t 14), (.t 16)], none⟩, ⟨(some 18), .bin .lss (.t 17) (.c (.int .i64 0)), none⟩] [0, 0, 2, 7, 15])
  (.cond (.t 18)
    (.reg false [⟨(some 19), .mv (.t 3), none⟩, ⟨(some 20), .bin .sub (.t 19) (.c (.int .i64 1)), none⟩, ⟨(some 3), .mv (.t 20), none⟩] [])
    .skip))
  (.seq (.reg false [⟨(some 21), .mv (.t 3), none⟩, ⟨(some 2), .mv (.t 21), none⟩] [])
  .ret))))
theorem ok41 : (Go.Proofs.Tryd.f41.body).bind (comp Go.Proofs.Tryd.prog) = some c41 := by kernel_rfl
/-- cubit/round.tens -/
def c42 : IR :=
  (.seq (.reg false [⟨(some 2), .new 28 3 [(.bool false), .nils, .nils], none⟩] [])
  (.seq (.reg false [⟨(some 6), .call 40 [(.c (.int .i64 10))], none⟩, ⟨(some 7), .mv (.t 0), none⟩, ⟨(some 8), .call 22 [(.t 6), (.t 7)], none⟩, ⟨(some 5), .mv (.t 8), none⟩, ⟨(some 9), .ext (.t 5) 0, none⟩, ⟨(some 10), .ext (.t 5) 1, none⟩, ⟨(some 3), .new 28 3 [(.bool false), .nils, .nils], none⟩, ⟨none, .store 3 (.t 3) (.t 9), none⟩, ⟨(some 4), .mv (.t 10), none⟩] [])
  (.seq (.reg false [⟨(some 11), .load true 3 (.t 3), none⟩, ⟨none, .store 3 (.t 2) (.t 11), none⟩] [])
  .ret)))
theorem ok42 : (Go.Proofs.Tryd.f42.body).bind (comp Go.Proofs.Tryd.prog) = some c42 := by kernel_rfl
/-- cubit/round.made -/
def c45 : IR :=
  (.seq (.reg false [⟨(some 2), .box 26 2 (.t 0), none⟩, ⟨(some 4), .new 33 3 [(.bool false), .nils, (.int .i64 0)], none⟩] [])
  (.seq (.reg false [⟨(some 5), .faddr 0 (.t 2), none⟩, ⟨(some 6), .load false 1 (.t 5), none⟩, ⟨(some 7), .faddr 1 (.t 2), none⟩, ⟨(some 8), .load true 1 (.t 7), none⟩, ⟨(some 9), .mv (.t 1), none⟩, ⟨(some 10), .build [(.bool false), .nils, (.int .i64 0)] [(0, 1, (.t 6)), (1, 1, (.t 8)), (2, 1, (.t 9))], none⟩, ⟨none, .store 3 (.t 4) (.t 10), none⟩] [])
  .ret))
theorem ok45 : (Go.Proofs.Tryd.f45.body).bind (comp Go.Proofs.Tryd.prog) = some c45 := by kernel_rfl
/-- cubit/round.goesUp -/
def c55 : IR :=
  (.seq (.reg false [⟨(some 4), .box 28 3 (.t 0), none⟩, ⟨(some 5), .box 26 2 (.t 1), none⟩, ⟨(some 6), .box 28 3 (.t 2), none⟩, ⟨(some 8), .mv (.c (.bool false)), none⟩] [])
  (.seq (.reg false [⟨(some 14), .load true 3 (.t 4), none⟩, ⟨(some 15), .call 11 [(.t 14)], none⟩, ⟨(some 16), .bin .lss (.t 15) (.c (.int .i64 0)), none⟩, ⟨(some 9), .mv (.t 16), none⟩] [])
  (.seq (.reg false [⟨(some 17), .load true 3 (.t 6), none⟩, ⟨(some 18), .load true 3 (.t 6), none⟩, ⟨(some 19), .call 24 [(.t 17), (.t 18)], none⟩, ⟨(some 20), .call 40 [(.c (.int .i64 1))], none⟩, ⟨(some 21), .call 18 [(.t 19), (.t 20)], none⟩, ⟨(some 10), .mv (.t 21), none⟩] [])
  (.seq (.seq (.reg false [⟨(some 22), .mv (.t 3), none⟩] [])
  (.block 0 (.seq (.reg false [⟨(some 24), .bin .eql (.t 22) (.c (.int .i64 1)), none⟩, ⟨(some 23), .mv (.t 24), none⟩] [])
    (.cond (.t 23)
      (.seq (.reg false [⟨(some 25), .mv (.t 9), none⟩, ⟨(some 8), .mv (.t 25), none⟩] [])
      .ret)
      (.seq (.reg false [⟨(some 27), .bin .eql (.t 22) (.c (.int .i64 2)), none⟩, ⟨(some 26), .mv (.t 27), none⟩] [])
      (.cond (.t 26)
        (.seq (.reg false [⟨(some 28), .mv (.t 9), none⟩, ⟨(some 29), .not (.t 28), none⟩, ⟨(some 8), .mv (.t 29), none⟩] [])
        .ret)
        (.seq (.reg false [⟨(some 31), .bin .eql (.t 22) (.c (.int .i64 3)), none⟩, ⟨(some 30), .mv (.t 31), none⟩] [])
        (.cond (.t 30)
          (.seq (.reg false [⟨(some 8), .mv (.c (.bool false)), none⟩] [])
          .ret)
          (.seq (.reg false [⟨(some 33), .bin .eql (.t 22) (.c (.int .i64 4)), none⟩, ⟨(some 32), .mv (.t 33), none⟩] [])
          (.cond (.t 32)
            (.seq (.reg false [⟨(some 8), .mv (.c (.bool true)), none⟩] [])
            .ret)
            .skip))))))))))
  (.seq (.seq (.reg false [⟨(some 34), .mv (.t 10), none⟩, ⟨(some 35), .bin .neq (.t 34) (.c (.int .i64 0)), none⟩] [])
  (.cond (.t 35)
    (.seq (.reg false [⟨(some 36), .mv (.t 10), none⟩, ⟨(some 37), .bin .gtr (.t 36) (.c (.int .i64 0)), none⟩, ⟨(some 8), .mv (.t 37), none⟩] [])
    .ret)
    .skip))
  (.seq (.seq (.reg false [⟨(some 38), .mv (.t 3), none⟩] [])
  (.block 1 (.seq (.reg false [⟨(some 40), .bin .eql (.t 38) (.c (.int .i64 5)), none⟩, ⟨(some 39), .mv (.t 40), none⟩] [])
    (.cond (.t 39)
      (.seq (.reg false [⟨(some 41), .mv (.t 9), none⟩, ⟨(some 8), .mv (.t 41), none⟩] [])
      .ret)
      (.seq (.reg false [⟨(some 43), .bin .eql (.t 38) (.c (.int .i64 6)), none⟩, ⟨(some 42), .mv (.t 43), none⟩] [])
      (.cond (.t 42)
        (.seq (.reg false [⟨(some 44), .mv (.t 9), none⟩, ⟨(some 45), .not (.t 44), none⟩, ⟨(some 8), .mv (.t 45), none⟩] [])
        .ret)
        .skip))))))
  (.seq (.reg true [⟨(some 47), .load true 2 (.t 5), none⟩, ⟨(some 48), .call 48 [(.c (.int .i64 2))], none⟩, ⟨(some 49), .call 47 [(.t 47), (.t 48)], none⟩, ⟨(some 46), .mv (.t 49), none⟩, ⟨(some 50), .ext (.t 46) 0, none⟩, ⟨(some 51), .ext (.t 46) 1, none⟩, ⟨(some 52), .ext (.t 46) 2, none⟩, ⟨(some 11), .new 26 2 [(.bool false), .nils], none⟩, ⟨(some 12), .new 26 2 [(.bool false), .nils], none⟩, ⟨none, .store 2 (.t 11) (.t 50), none⟩, ⟨none, .store 2 (.t 12) (.t 51), none⟩, ⟨(some 13), .mv (.t 52), none⟩] [0, 0, 3, 7, 15, 15, 15, 0, 0, 415, 959, 2047])
  (.seq (.reg false [⟨(some 53), .load true 2 (.t 12), none⟩, ⟨(some 54), .call 38 [(.t 53)], none⟩, ⟨(some 55), .bin .neq (.t 54) (.c (.int .i64 0)), none⟩, ⟨(some 8), .mv (.t 55), none⟩] [])
  .ret))))))))
theorem ok55 : (Go.Proofs.Tryd.f55.body).bind (comp Go.Proofs.Tryd.prog) = some c55 := by kernel_rfl
/-- cubit/round.over -/
def c65 : IR :=
  (.seq (.reg false [⟨(some 2), .box 28 3 (.t 0), none⟩, ⟨(some 3), .box 28 3 (.t 1), none⟩, ⟨(some 4), .new 28 3 [(.bool false), .nils, .nils], none⟩] [])
  (.seq (.reg false [⟨(some 8), .load true 3 (.t 3), none⟩, ⟨(some 9), .call 44 [(.t 8)], none⟩, ⟨(some 7), .mv (.t 9), none⟩, ⟨(some 10), .ext (.t 7) 0, none⟩, ⟨(some 11), .ext (.t 7) 1, none⟩, ⟨(some 5), .new 28 3 [(.bool false), .nils, .nils], none⟩, ⟨none, .store 3 (.t 5) (.t 10), none⟩, ⟨(some 6), .mv (.t 11), none⟩] [])
  (.seq (.reg false [⟨(some 12), .load true 3 (.t 2), none⟩, ⟨(some 13), .load true 3 (.t 5), none⟩, ⟨(some 14), .call 43 [(.t 12), (.t 13)], none⟩, ⟨none, .store 3 (.t 4) (.t 14), none⟩] [])
  .ret)))
theorem ok65 : (Go.Proofs.Tryd.f65.body).bind (comp Go.Proofs.Tryd.prog) = some c65 := by kernel_rfl
end Go.Proofs.YtapikjmijmebpaaDoorK.NatIr
