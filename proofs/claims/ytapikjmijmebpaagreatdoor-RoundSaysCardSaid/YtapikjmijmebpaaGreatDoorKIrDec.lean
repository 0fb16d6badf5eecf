/-
  The compiled bodies, printed: IrDec.
-/
import Derived.Test.YtapikjmijmebpaaGreatDoorKAb
import Derived.Test.YtapikjmijmebpaaGreatDoorProg
set_option linter.all false
set_option linter.unusedVariables false
set_option linter.unusedSimpArgs false
set_option maxHeartbeats 4000000
namespace Go.Proofs.YtapikjmijmebpaaGreatDoorK.NatIr
open Go.Proofs.YtapikjmijmebpaaGreatDoorK.AI
def c24 : IR :=
  (.seq (.reg false [⟨(some 1), .box 30 3 (.t 0), none⟩, ⟨(some 2), .mv (.c (.bool false)), none⟩] [])
  (.seq (.reg false [⟨(some 3), .faddr 1 (.t 1), none⟩, ⟨(some 4), .load true 1 (.t 3), none⟩, ⟨(some 5), .call 103 [(.t 4)], none⟩, ⟨(some 6), .mv (.t 5), none⟩, ⟨(some 7), .faddr 2 (.t 1), (some ((some 6), true))⟩, ⟨(some 8), .load false 1 (.t 7), (some ((some 6), true))⟩, ⟨(some 9), .bin .geq (.t 8) (.c (.int .i64 0)), (some ((some 6), true))⟩, ⟨(some 10), .pick (.t 6) (.t 9) (.c (.bool false)), none⟩, ⟨(some 11), .mv (.t 10), none⟩, ⟨(some 12), .faddr 2 (.t 1), (some ((some 11), true))⟩, ⟨(some 13), .load false 1 (.t 12), (some ((some 11), true))⟩, ⟨(some 14), .bin .leq (.t 13) (.c (.int .i64 60)), (some ((some 11), true))⟩, ⟨(some 15), .pick (.t 11) (.t 14) (.c (.bool false)), none⟩, ⟨(some 16), .mv (.t 15), none⟩, ⟨(some 17), .faddr 0 (.t 1), (some ((some 16), true))⟩, ⟨(some 18), .load false 1 (.t 17), (some ((some 16), true))⟩, ⟨(some 19), .mv (.t 18), (some ((some 16), true))⟩, ⟨(some 20), .faddr 1 (.t 1), (some ((some 19), true))⟩, ⟨(some 21), .load true 1 (.t 20), (some ((some 19), true))⟩, ⟨(some 22), .call 104 [(.t 21)], (some ((some 19), true))⟩, ⟨(some 23), .pick (.t 19) (.t 22) (.c (.bool false)), (some ((some 16), true))⟩, ⟨(some 24), .not (.t 23), (some ((some 16), true))⟩, ⟨(some 25), .pick (.t 16) (.t 24) (.c (.bool false)), none⟩, ⟨(some 2), .mv (.t 25), none⟩] [])
  .ret))
theorem ok24 : (Go.Proofs.Tryz.f24.body).bind (comp Go.Proofs.Tryz.prog) = some c24 := by kernel_rfl
def c29 : IR :=
  (.seq (.reg false [⟨(some 2), .new 30 3 [(.bool false), .nils, (.int .i64 0)], none⟩, ⟨(some 3), .mv (.c (.int .i64 0)), none⟩] [])
  (.seq (.seq (.reg false [⟨(some 15), .mv (.t 0), none⟩, ⟨(some 16), .lenS (.t 15), none⟩, ⟨(some 17), .bin .gtr (.t 16) (.c (.int .i64 256)), none⟩] [])
  (.cond (.t 17)
    (.seq (.reg false [⟨(some 18), .build [(.bool false), .nils, (.int .i64 0)] [], none⟩, ⟨none, .store 3 (.t 2) (.t 18), none⟩, ⟨(some 3), .mv (.c (.int .i64 11)), none⟩] [])
    .ret)
    .skip))
  (.seq (.reg false [⟨(some 20), .mv (.t 0), none⟩, ⟨(some 21), .call 106 [(.t 20), (.c (.str ⟨#[45]⟩))], none⟩, ⟨(some 19), .mv (.t 21), none⟩, ⟨(some 22), .ext (.t 19) 0, none⟩, ⟨(some 23), .ext (.t 19) 1, none⟩, ⟨(some 4), .mv (.t 22), none⟩, ⟨(some 5), .mv (.t 23), none⟩] [])
  (.seq (.reg false [⟨(some 25), .mv (.t 4), none⟩, ⟨(some 26), .call 107 [(.t 25), (.c (.str ⟨#[46]⟩))], none⟩, ⟨(some 24), .mv (.t 26), none⟩, ⟨(some 27), .ext (.t 24) 0, none⟩, ⟨(some 28), .ext (.t 24) 1, none⟩, ⟨(some 29), .ext (.t 24) 2, none⟩, ⟨(some 6), .mv (.t 27), none⟩, ⟨(some 7), .mv (.t 28), none⟩, ⟨(some 8), .mv (.t 29), none⟩] [])
  (.seq (.reg false [⟨(some 31), .mv (.t 6), none⟩, ⟨(some 32), .call 108 [(.t 31)], none⟩, ⟨(some 30), .mv (.t 32), none⟩, ⟨(some 33), .ext (.t 30) 0, none⟩, ⟨(some 34), .ext (.t 30) 1, none⟩, ⟨(some 9), .new 24 1 [.nils], none⟩, ⟨none, .store 1 (.t 9) (.t 33), none⟩, ⟨(some 10), .mv (.t 34), none⟩] [])
  (.seq (.reg false [⟨(some 36), .mv (.t 7), none⟩, ⟨(some 37), .call 108 [(.t 36)], none⟩, ⟨(some 35), .mv (.t 37), none⟩, ⟨(some 38), .ext (.t 35) 0, none⟩, ⟨(some 39), .ext (.t 35) 1, none⟩, ⟨(some 11), .new 24 1 [.nils], none⟩, ⟨none, .store 1 (.t 11) (.t 38), none⟩, ⟨(some 12), .mv (.t 39), none⟩] [])
  (.seq (.reg false [⟨(some 41), .mv (.t 6), none⟩, ⟨(some 42), .mv (.t 7), none⟩, ⟨(some 43), .bin .add (.t 41) (.t 42), none⟩, ⟨(some 44), .call 108 [(.t 43)], none⟩, ⟨(some 40), .mv (.t 44), none⟩, ⟨(some 45), .ext (.t 40) 0, none⟩, ⟨(some 46), .ext (.t 40) 1, none⟩, ⟨(some 13), .new 24 1 [.nils], none⟩, ⟨none, .store 1 (.t 13) (.t 45), none⟩, ⟨(some 14), .mv (.t 46), none⟩] [])
  (.seq (.seq (.reg false [⟨(some 47), .mv (.t 14), none⟩, ⟨(some 48), .not (.t 47), none⟩, ⟨(some 49), .mv (.t 48), none⟩, ⟨(some 50), .mv (.t 10), (some ((some 49), false))⟩, ⟨(some 51), .not (.t 50), (some ((some 49), false))⟩, ⟨(some 52), .pick (.t 49) (.c (.bool true)) (.t 51), none⟩, ⟨(some 53), .mv (.t 52), none⟩, ⟨(some 54), .mv (.t 8), (some ((some 53), false))⟩, ⟨(some 55), .mv (.t 54), (some ((some 53), false))⟩, ⟨(some 56), .mv (.t 12), (some ((some 55), true))⟩, ⟨(some 57), .not (.t 56), (some ((some 55), true))⟩, ⟨(some 58), .pick (.t 55) (.t 57) (.c (.bool false)), (some ((some 53), false))⟩, ⟨(some 59), .pick (.t 53) (.c (.bool true)) (.t 58), none⟩, ⟨(some 60), .mv (.t 59), none⟩, ⟨(some 61), .mv (.t 7), (some ((some 60), false))⟩, ⟨(some 62), .lenS (.t 61), (some ((some 60), false))⟩, ⟨(some 63), .bin .gtr (.t 62) (.c (.int .i64 60)), (some ((some 60), false))⟩, ⟨(some 64), .pick (.t 60) (.c (.bool true)) (.t 63), none⟩] [])
  (.cond (.t 64)
    (.seq (.reg false [⟨(some 65), .build [(.bool false), .nils, (.int .i64 0)] [], none⟩, ⟨none, .store 3 (.t 2) (.t 65), none⟩, ⟨(some 3), .mv (.c (.int .i64 2)), none⟩] [])
    .ret)
    .skip))
  (.seq (.reg true [⟨(some 66), .mv (.t 5), none⟩, ⟨(some 67), .mv (.t 66), none⟩, ⟨(some 68), .load true 1 (.t 13), (some ((some 67), true))⟩, ⟨(some 69), .call 104 [(.t 68)], (some ((some 67), true))⟩, ⟨(some 70), .not (.t 69), (some ((some 67), true))⟩, ⟨(some 71), .pick (.t 67) (.t 70) (.c (.bool false)), none⟩, ⟨(some 72), .load true 1 (.t 13), none⟩, ⟨(some 73), .mv (.t 7), none⟩, ⟨(some 74), .lenS (.t 73), none⟩, ⟨(some 75), .build [(.bool false), .nils, (.int .i64 0)] [(0, 1, (.t 71)), (1, 1, (.t 72)), (2, 1, (.t 74))], none⟩, ⟨none, .store 3 (.t 2) (.t 75), none⟩, ⟨(some 3), .mv (.c (.int .i64 0)), none⟩] [0, 1, 3, 7, 15, 31, 0, 0, 128, 511, 1023, 2047])
  .ret)))))))))
theorem ok29 : (Go.Proofs.Tryz.f29.body).bind (comp Go.Proofs.Tryz.prog) = some c29 := by kernel_rfl
def c30 : IR :=
  (.seq (.reg false [⟨(some 1), .box 30 3 (.t 0), none⟩, ⟨(some 2), .mv (.c (.str ⟨#[]⟩)), none⟩] [])
  (.seq (.reg false [⟨(some 6), .load true 3 (.t 1), none⟩, ⟨(some 7), .call 110 [(.t 6)], none⟩, ⟨(some 8), .call 109 [(.t 7)], none⟩, ⟨(some 5), .mv (.t 8), none⟩, ⟨(some 9), .ext (.t 5) 0, none⟩, ⟨(some 10), .ext (.t 5) 1, none⟩, ⟨(some 3), .mv (.t 9), none⟩, ⟨(some 4), .mv (.t 10), none⟩] [])
  (.seq (.reg false [⟨(some 11), .mv (.t 4), none⟩, ⟨(some 2), .mv (.t 11), none⟩] [])
  .ret)))
theorem ok30 : (Go.Proofs.Tryz.f30.body).bind (comp Go.Proofs.Tryz.prog) = some c30 := by kernel_rfl
def c32 : IR :=
  (.seq (.reg false [⟨(some 1), .box 30 3 (.t 0), none⟩, ⟨(some 2), .mv (.c (.str ⟨#[]⟩)), none⟩] [])
  (.seq (.reg false [⟨(some 5), .load true 3 (.t 1), none⟩, ⟨(some 6), .call 110 [(.t 5)], none⟩, ⟨none, .store 3 (.t 1) (.t 6), none⟩] [])
  (.seq (.reg false [⟨(some 8), .load true 3 (.t 1), none⟩, ⟨(some 9), .call 109 [(.t 8)], none⟩, ⟨(some 7), .mv (.t 9), none⟩, ⟨(some 10), .ext (.t 7) 0, none⟩, ⟨(some 11), .ext (.t 7) 1, none⟩, ⟨(some 3), .mv (.t 10), none⟩, ⟨(some 4), .mv (.t 11), none⟩] [])
  (.seq (.seq (.reg false [⟨(some 12), .mv (.t 4), none⟩, ⟨(some 13), .bin .neq (.t 12) (.c (.str ⟨#[]⟩)), none⟩] [])
  (.cond (.t 13)
    (.reg false [⟨(some 14), .mv (.t 3), none⟩, ⟨(some 15), .mv (.t 4), none⟩, ⟨(some 16), .bin .add (.c (.str ⟨#[46]⟩)) (.t 15), none⟩, ⟨(some 17), .bin .add (.t 14) (.t 16), none⟩, ⟨(some 3), .mv (.t 17), none⟩] [])
    .skip))
  (.seq (.seq (.reg false [⟨(some 18), .faddr 0 (.t 1), none⟩, ⟨(some 19), .load false 1 (.t 18), none⟩] [])
  (.cond (.t 19)
    (.reg false [⟨(some 20), .mv (.t 3), none⟩, ⟨(some 21), .bin .add (.c (.str ⟨#[45]⟩)) (.t 20), none⟩, ⟨(some 3), .mv (.t 21), none⟩] [])
    .skip))
  (.seq (.reg false [⟨(some 22), .mv (.t 3), none⟩, ⟨(some 2), .mv (.t 22), none⟩] [])
  .ret))))))
theorem ok32 : (Go.Proofs.Tryz.f32.body).bind (comp Go.Proofs.Tryz.prog) = some c32 := by kernel_rfl
def c34 : IR :=
  (.seq (.reg false [⟨(some 1), .box 30 3 (.t 0), none⟩, ⟨(some 2), .new 28 3 [(.bool false), .nils, .nils], none⟩] [])
  (.seq (.reg false [⟨(some 5), .load true 3 (.t 1), none⟩, ⟨(some 6), .call 110 [(.t 5)], none⟩, ⟨none, .store 3 (.t 1) (.t 6), none⟩] [])
  (.seq (.reg true [⟨(some 8), .faddr 0 (.t 1), none⟩, ⟨(some 9), .load false 1 (.t 8), none⟩, ⟨(some 10), .faddr 1 (.t 1), none⟩, ⟨(some 11), .load true 1 (.t 10), none⟩, ⟨(some 12), .build [(.bool false), .nils] [(0, 1, (.t 9)), (1, 1, (.t 11))], none⟩, ⟨(some 13), .faddr 2 (.t 1), none⟩, ⟨(some 14), .load false 1 (.t 13), none⟩, ⟨(some 15), .call 114 [(.t 14)], none⟩, ⟨(some 16), .call 66 [(.t 12), (.t 15)], none⟩, ⟨(some 7), .mv (.t 16), none⟩, ⟨(some 17), .ext (.t 7) 0, none⟩, ⟨(some 18), .ext (.t 7) 1, none⟩, ⟨(some 3), .new 28 3 [(.bool false), .nils, .nils], none⟩, ⟨none, .store 3 (.t 3) (.t 17), none⟩, ⟨(some 4), .mv (.t 18), none⟩] [0, 1, 0, 4, 15, 0, 32, 96, 255, 511, 1023, 1023, 0, 6143, 16383])
  (.seq (.reg false [⟨(some 19), .load true 3 (.t 3), none⟩, ⟨none, .store 3 (.t 2) (.t 19), none⟩] [])
  .ret))))
theorem ok34 : (Go.Proofs.Tryz.f34.body).bind (comp Go.Proofs.Tryz.prog) = some c34 := by kernel_rfl
def c36 : IR :=
  (.seq (.reg false [⟨(some 2), .box 28 3 (.t 0), none⟩, ⟨(some 4), .new 30 3 [(.bool false), .nils, (.int .i64 0)], none⟩, ⟨(some 5), .mv (.c (.bool false)), none⟩] [])
  (.seq (.reg true [⟨(some 11), .load true 3 (.t 2), none⟩, ⟨(some 12), .call 65 [(.c (.int .i64 0))], none⟩, ⟨(some 13), .call 67 [(.t 11), (.t 12)], none⟩, ⟨none, .store 3 (.t 2) (.t 13), none⟩] [0, 0, 3, 7])
  (.seq (.reg false [⟨(some 14), .faddr 0 (.t 2), none⟩, ⟨(some 15), .faddr 1 (.t 14), none⟩, ⟨(some 16), .load true 1 (.t 15), none⟩, ⟨(some 6), .new 24 1 [.nils], none⟩, ⟨none, .store 1 (.t 6) (.t 16), none⟩] [])
  (.seq (.seq (.reg false [⟨(some 7), .mv (.c (.int .i64 0)), none⟩] [])
  (.block 0 (.loop (.seq (.seq (.reg false [⟨(some 17), .mv (.t 7), none⟩, ⟨(some 18), .mv (.t 1), none⟩, ⟨(some 19), .mx (.t 18) (.c (.int .i64 0)), none⟩, ⟨(some 20), .mn (.t 19) (.c (.int .i64 60)), none⟩, ⟨(some 21), .bin .leq (.t 17) (.t 20), none⟩] [])
      (.cond (.t 21)
        .skip
        (.exit 0)))
      (.seq (.block 1 (.seq (.reg false [⟨(some 25), .load true 1 (.t 6), none⟩, ⟨(some 26), .faddr 2 (.t 2), none⟩, ⟨(some 27), .load true 1 (.t 26), none⟩, ⟨(some 28), .call 117 [(.t 25), (.t 27)], none⟩, ⟨(some 24), .mv (.t 28), none⟩, ⟨(some 29), .ext (.t 24) 0, none⟩, ⟨(some 30), .ext (.t 24) 1, none⟩, ⟨(some 31), .ext (.t 24) 2, none⟩, ⟨(some 8), .new 24 1 [.nils], none⟩, ⟨(some 9), .new 24 1 [.nils], none⟩, ⟨none, .store 1 (.t 8) (.t 29), none⟩, ⟨none, .store 1 (.t 9) (.t 30), none⟩, ⟨(some 10), .mv (.t 31), none⟩] [])
        (.seq (.seq (.reg false [⟨(some 32), .mv (.t 10), none⟩, ⟨(some 33), .not (.t 32), none⟩] [])
        (.cond (.t 33)
          (.exit 0)
          .skip))
        (.seq (.seq (.reg false [⟨(some 34), .load true 1 (.t 9), none⟩, ⟨(some 35), .call 104 [(.t 34)], none⟩] [])
        (.cond (.t 35)
          (.seq (.reg false [⟨(some 36), .faddr 0 (.t 2), none⟩, ⟨(some 37), .faddr 0 (.t 36), none⟩, ⟨(some 38), .load false 1 (.t 37), none⟩, ⟨(some 39), .load true 1 (.t 8), none⟩, ⟨(some 40), .mv (.t 7), none⟩, ⟨(some 41), .build [(.bool false), .nils, (.int .i64 0)] [(0, 1, (.t 38)), (1, 1, (.t 39)), (2, 1, (.t 40))], none⟩, ⟨none, .store 3 (.t 4) (.t 41), none⟩, ⟨(some 5), .mv (.c (.bool true)), none⟩] [])
          .ret)
          .skip))
        (.reg true [⟨(some 42), .load true 1 (.t 6), none⟩, ⟨(some 43), .call 38 [(.c (.int .u64 10))], none⟩, ⟨(some 44), .call 118 [(.t 42), (.t 43)], none⟩, ⟨none, .store 1 (.t 6) (.t 44), none⟩] [0, 0, 3, 7])))))
      (.reg false [⟨(some 22), .mv (.t 7), none⟩, ⟨(some 23), .bin .add (.t 22) (.c (.int .i64 1)), none⟩, ⟨(some 7), .mv (.t 23), none⟩] []))))))
  (.seq (.reg false [⟨(some 45), .build [(.bool false), .nils, (.int .i64 0)] [], none⟩, ⟨none, .store 3 (.t 4) (.t 45), none⟩, ⟨(some 5), .mv (.c (.bool false)), none⟩] [])
  .ret)))))
theorem ok36 : (Go.Proofs.Tryz.f36.body).bind (comp Go.Proofs.Tryz.prog) = some c36 := by kernel_rfl
def c39 : IR :=
  (.seq (.reg false [⟨(some 1), .box 30 3 (.t 0), none⟩, ⟨(some 2), .new 30 3 [(.bool false), .nils, (.int .i64 0)], none⟩] [])
  (.seq (.reg false [⟨(some 6), .load true 3 (.t 1), none⟩, ⟨(some 7), .call 110 [(.t 6)], none⟩, ⟨none, .store 3 (.t 1) (.t 7), none⟩] [])
  (.seq (.block 0 (.loop (.seq (.seq (.reg false [⟨(some 8), .faddr 2 (.t 1), none⟩, ⟨(some 9), .load false 1 (.t 8), none⟩, ⟨(some 10), .bin .gtr (.t 9) (.c (.int .i64 0)), none⟩] [])
      (.cond (.t 10)
        .skip
        (.exit 0)))
      (.block 1 (.seq (.reg true [⟨(some 12), .faddr 1 (.t 1), none⟩, ⟨(some 13), .load true 1 (.t 12), none⟩, ⟨(some 14), .call 38 [(.c (.int .u64 10))], none⟩, ⟨(some 15), .call 117 [(.t 13), (.t 14)], none⟩, ⟨(some 11), .mv (.t 15), none⟩, ⟨(some 16), .ext (.t 11) 0, none⟩, ⟨(some 17), .ext (.t 11) 1, none⟩, ⟨(some 18), .ext (.t 11) 2, none⟩, ⟨(some 3), .new 24 1 [.nils], none⟩, ⟨(some 4), .new 24 1 [.nils], none⟩, ⟨none, .store 1 (.t 3) (.t 16), none⟩, ⟨none, .store 1 (.t 4) (.t 17), none⟩, ⟨(some 5), .mv (.t 18), none⟩] [0, 1, 0, 7, 15, 31, 31, 31, 0, 0, 831, 1919, 4095])
        (.seq (.seq (.reg false [⟨(some 19), .load true 1 (.t 4), none⟩, ⟨(some 20), .call 104 [(.t 19)], none⟩, ⟨(some 21), .not (.t 20), none⟩] [])
        (.cond (.t 21)
          (.exit 0)
          .skip))
        (.seq (.reg false [⟨(some 22), .load true 1 (.t 3), none⟩, ⟨(some 23), .faddr 1 (.t 1), none⟩, ⟨none, .store 1 (.t 23) (.t 22), none⟩] [])
        (.reg false [⟨(some 24), .faddr 2 (.t 1), none⟩, ⟨(some 25), .load false 1 (.t 24), none⟩, ⟨(some 26), .bin .sub (.t 25) (.c (.int .i64 1)), none⟩, ⟨(some 27), .faddr 2 (.t 1), none⟩, ⟨none, .store 1 (.t 27) (.t 26), none⟩] []))))))))
  (.seq (.reg false [⟨(some 28), .load true 3 (.t 1), none⟩, ⟨none, .store 3 (.t 2) (.t 28), none⟩] [])
  .ret))))
theorem ok39 : (Go.Proofs.Tryz.f39.body).bind (comp Go.Proofs.Tryz.prog) = some c39 := by kernel_rfl
def c50 : IR :=
  (.seq (.reg false [⟨(some 1), .box 30 3 (.t 0), none⟩, ⟨(some 2), .new 24 1 [.nils], none⟩] [])
  (.seq (.reg false [⟨(some 6), .load true 3 (.t 1), none⟩, ⟨(some 7), .call 110 [(.t 6)], none⟩, ⟨none, .store 3 (.t 1) (.t 7), none⟩] [])
  (.seq (.reg true [⟨(some 9), .faddr 1 (.t 1), none⟩, ⟨(some 10), .load true 1 (.t 9), none⟩, ⟨(some 11), .faddr 2 (.t 1), none⟩, ⟨(some 12), .load false 1 (.t 11), none⟩, ⟨(some 13), .call 114 [(.t 12)], none⟩, ⟨(some 14), .call 117 [(.t 10), (.t 13)], none⟩, ⟨(some 8), .mv (.t 14), none⟩, ⟨(some 15), .ext (.t 8) 0, none⟩, ⟨(some 16), .ext (.t 8) 1, none⟩, ⟨(some 17), .ext (.t 8) 2, none⟩, ⟨(some 3), .new 24 1 [.nils], none⟩, ⟨(some 4), .new 24 1 [.nils], none⟩, ⟨none, .store 1 (.t 3) (.t 15), none⟩, ⟨none, .store 1 (.t 4) (.t 16), none⟩, ⟨(some 5), .mv (.t 17), none⟩] [0, 1, 0, 4, 12, 31, 63, 127, 127, 127, 0, 0, 3327, 7679, 16383])
  (.seq (.reg false [⟨(some 18), .load true 1 (.t 3), none⟩, ⟨none, .store 1 (.t 2) (.t 18), none⟩] [])
  .ret))))
theorem ok50 : (Go.Proofs.Tryz.f50.body).bind (comp Go.Proofs.Tryz.prog) = some c50 := by kernel_rfl
def c104 : IR :=
  (.seq (.reg false [⟨(some 1), .box 24 1 (.t 0), none⟩, ⟨(some 2), .mv (.c (.bool false)), none⟩] [])
  (.seq (.reg false [⟨(some 3), .load true 1 (.t 1), none⟩, ⟨(some 4), .build [.nils] [], none⟩, ⟨(some 5), .call 69 [(.t 3), (.t 4)], none⟩, ⟨(some 6), .bin .eql (.t 5) (.c (.int .i64 0)), none⟩, ⟨(some 2), .mv (.t 6), none⟩] [])
  .ret))
theorem ok104 : (Go.Proofs.Tryz.f104.body).bind (comp Go.Proofs.Tryz.prog) = some c104 := by kernel_rfl
def c109 : IR :=
  (.seq (.reg false [⟨(some 1), .box 30 3 (.t 0), none⟩, ⟨(some 2), .mv (.c (.str ⟨#[]⟩)), none⟩, ⟨(some 3), .mv (.c (.str ⟨#[]⟩)), none⟩] [])
  (.seq (.reg false [⟨(some 6), .faddr 1 (.t 1), none⟩, ⟨(some 7), .load true 1 (.t 6), none⟩, ⟨(some 8), .call 83 [(.t 7)], none⟩, ⟨(some 4), .mv (.t 8), none⟩] [])
  (.seq (.seq (.reg false [⟨(some 9), .faddr 2 (.t 1), none⟩, ⟨(some 10), .load false 1 (.t 9), none⟩, ⟨(some 11), .bin .add (.t 10) (.c (.int .i64 1)), none⟩, ⟨(some 12), .mv (.t 4), none⟩, ⟨(some 13), .lenS (.t 12), none⟩, ⟨(some 14), .bin .sub (.t 11) (.t 13), none⟩, ⟨(some 5), .mv (.t 14), none⟩] [])
  (.seq (.reg false [⟨(some 15), .mv (.t 5), none⟩, ⟨(some 16), .bin .gtr (.t 15) (.c (.int .i64 0)), none⟩] [])
  (.cond (.t 16)
    (.reg false [⟨(some 17), .mv (.t 5), none⟩, ⟨(some 18), .call 141 [(.c (.str ⟨#[48]⟩)), (.t 17)], none⟩, ⟨(some 19), .mv (.t 4), none⟩, ⟨(some 20), .bin .add (.t 18) (.t 19), none⟩, ⟨(some 4), .mv (.t 20), none⟩] [])
    .skip)))
  (.seq (.reg true [⟨(some 21), .mv (.t 4), none⟩, ⟨(some 22), .mv (.t 4), none⟩, ⟨(some 23), .lenS (.t 22), none⟩, ⟨(some 24), .faddr 2 (.t 1), none⟩, ⟨(some 25), .load false 1 (.t 24), none⟩, ⟨(some 26), .bin .sub (.t 23) (.t 25), none⟩, ⟨(some 27), .slcS (.t 21) none (some (.t 26)), none⟩, ⟨(some 28), .mv (.t 4), none⟩, ⟨(some 29), .mv (.t 4), none⟩, ⟨(some 30), .lenS (.t 29), none⟩, ⟨(some 31), .faddr 2 (.t 1), none⟩, ⟨(some 32), .load false 1 (.t 31), none⟩, ⟨(some 33), .bin .sub (.t 30) (.t 32), none⟩, ⟨(some 34), .slcS (.t 28) (some (.t 33)) none, none⟩, ⟨(some 2), .mv (.t 27), none⟩, ⟨(some 3), .mv (.t 34), none⟩] [0, 0, 2, 0, 8, 30, 63, 0, 0, 256, 0, 1024, 3840, 8064, 127, 32767])
  .ret))))
theorem ok109 : (Go.Proofs.Tryz.f109.body).bind (comp Go.Proofs.Tryz.prog) = some c109 := by kernel_rfl
def c110 : IR :=
  (.seq (.reg false [⟨(some 1), .box 30 3 (.t 0), none⟩, ⟨(some 2), .new 30 3 [(.bool false), .nils, (.int .i64 0)], none⟩] [])
  (.seq (.seq (.reg false [⟨(some 3), .load true 3 (.t 1), none⟩, ⟨(some 4), .call 24 [(.t 3)], none⟩, ⟨(some 5), .not (.t 4), none⟩] [])
  (.cond (.t 5)
    (.seq (.reg false [⟨(some 6), .build [(.bool false), .nils, (.int .i64 0)] [], none⟩, ⟨none, .store 3 (.t 2) (.t 6), none⟩] [])
    .ret)
    .skip))
  (.seq (.reg false [⟨(some 7), .load true 3 (.t 1), none⟩, ⟨none, .store 3 (.t 2) (.t 7), none⟩] [])
  .ret)))
theorem ok110 : (Go.Proofs.Tryz.f110.body).bind (comp Go.Proofs.Tryz.prog) = some c110 := by kernel_rfl
def c114 : IR :=
  (.seq (.reg false [⟨(some 2), .new 24 1 [.nils], none⟩] [])
  (.seq (.reg false [⟨(some 3), .call 38 [(.c (.int .u64 10))], none⟩, ⟨(some 4), .mv (.t 0), none⟩, ⟨(some 5), .call 132 [(.t 3), (.t 4)], none⟩, ⟨none, .store 1 (.t 2) (.t 5), none⟩] [])
  .ret))
theorem ok114 : (Go.Proofs.Tryz.f114.body).bind (comp Go.Proofs.Tryz.prog) = some c114 := by kernel_rfl
end Go.Proofs.YtapikjmijmebpaaGreatDoorK.NatIr
