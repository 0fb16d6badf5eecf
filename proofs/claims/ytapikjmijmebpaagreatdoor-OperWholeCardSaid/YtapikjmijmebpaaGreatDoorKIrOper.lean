/-
  The compiled bodies, printed: IrOper.
-/
import Derived.Test.YtapikjmijmebpaaGreatDoorKAb
import Derived.Test.YtapikjmijmebpaaGreatDoorProg
set_option linter.all false
set_option linter.unusedVariables false
set_option linter.unusedSimpArgs false
set_option maxHeartbeats 4000000
namespace Go.Proofs.YtapikjmijmebpaaGreatDoorK.NatIr
open Go.Proofs.YtapikjmijmebpaaGreatDoorK.AI
/-- cubit/oper.Of -/
def c55 : IR :=
  (.seq (.reg false [⟨(some 1), .box 30 3 (.t 0), none⟩, ⟨(some 2), .new 84 8 [(.bool false), .nils, .nils, .nils, (.int .i64 0), (.int .i64 0), .nils, .nils], none⟩] [])
  (.seq (.seq (.reg false [⟨(some 5), .load true 3 (.t 1), none⟩, ⟨(some 6), .call 24 [(.t 5)], none⟩, ⟨(some 7), .not (.t 6), none⟩] [])
  (.cond (.t 7)
    (.reg false [⟨(some 8), .build [(.bool false), .nils, (.int .i64 0)] [], none⟩, ⟨none, .store 3 (.t 1) (.t 8), none⟩] [])
    .skip))
  (.seq (.reg false [⟨(some 9), .faddr 0 (.t 1), none⟩, ⟨none, .store 1 (.t 9) (.c (.bool false)), none⟩] [])
  (.seq (.reg false [⟨(some 10), .load true 3 (.t 1), none⟩, ⟨(some 11), .call 30 [(.t 10)], none⟩, ⟨(some 3), .mv (.t 11), none⟩] [])
  (.seq (.reg false [⟨(some 12), .load true 3 (.t 1), none⟩, ⟨(some 13), .call 39 [(.t 12)], none⟩, ⟨(some 14), .call 30 [(.t 13)], none⟩, ⟨(some 4), .mv (.t 14), none⟩] [])
  (.seq (.reg true [⟨(some 15), .load true 3 (.t 1), none⟩, ⟨(some 16), .call 34 [(.t 15)], none⟩, ⟨(some 17), .load true 3 (.t 1), none⟩, ⟨(some 18), .call 50 [(.t 17)], none⟩, ⟨(some 19), .mv (.t 3), none⟩, ⟨(some 20), .lenS (.t 19), none⟩, ⟨(some 21), .mv (.t 4), none⟩, ⟨(some 22), .lenS (.t 21), none⟩, ⟨(some 23), .mv (.t 3), none⟩, ⟨(some 24), .call 125 [(.t 23)], none⟩, ⟨(some 25), .mv (.t 4), none⟩, ⟨(some 26), .call 125 [(.t 25)], none⟩, ⟨(some 27), .build [(.bool false), .nils, .nils, .nils, (.int .i64 0), (.int .i64 0), .nils, .nils] [(0, 3, (.t 16)), (3, 1, (.t 18)), (4, 1, (.t 20)), (5, 1, (.t 22)), (6, 1, (.t 24)), (7, 1, (.t 26))], none⟩, ⟨none, .store 8 (.t 2) (.t 27), none⟩] [0, 1, 0, 7, 0, 16, 0, 64, 0, 271, 0, 1807, 4095, 8191])
  .ret))))))
theorem ok55 : (Go.Proofs.Tryz.f55.body).bind (comp Go.Proofs.Tryz.prog) = some c55 := by kernel_rfl
/-- cubit/oper.Value -/
def c56 : IR :=
  (.seq (.reg false [⟨(some 2), .box 84 8 (.t 0), none⟩, ⟨(some 4), .new 28 3 [(.bool false), .nils, .nils], none⟩, ⟨(some 5), .mv (.c (.bool false)), none⟩] [])
  (.seq (.seq (.reg false [⟨(some 6), .mv (.t 1), none⟩] [])
  (.block 0 (.seq (.reg false [⟨(some 8), .bin .eql (.t 6) (.c (.int .u8 110)), none⟩, ⟨(some 7), .mv (.t 8), none⟩] [])
    (.cond (.t 7)
      (.seq (.reg false [⟨(some 9), .faddr 0 (.t 2), none⟩, ⟨(some 10), .load true 3 (.t 9), none⟩, ⟨none, .store 3 (.t 4) (.t 10), none⟩, ⟨(some 5), .mv (.c (.bool true)), none⟩] [])
      .ret)
      (.seq (.reg false [⟨(some 12), .bin .eql (.t 6) (.c (.int .u8 105)), none⟩, ⟨(some 11), .mv (.t 12), none⟩] [])
      (.cond (.t 11)
        (.seq (.reg false [⟨(some 13), .faddr 3 (.t 2), none⟩, ⟨(some 14), .load true 1 (.t 13), none⟩, ⟨(some 15), .call 126 [(.t 14)], none⟩, ⟨none, .store 3 (.t 4) (.t 15), none⟩, ⟨(some 5), .mv (.c (.bool true)), none⟩] [])
        .ret)
        (.seq (.reg false [⟨(some 17), .bin .eql (.t 6) (.c (.int .u8 118)), none⟩, ⟨(some 16), .mv (.t 17), none⟩] [])
        (.cond (.t 16)
          (.seq (.reg false [⟨(some 18), .faddr 4 (.t 2), none⟩, ⟨(some 19), .load false 1 (.t 18), none⟩, ⟨(some 20), .call 65 [(.t 19)], none⟩, ⟨none, .store 3 (.t 4) (.t 20), none⟩, ⟨(some 5), .mv (.c (.bool true)), none⟩] [])
          .ret)
          (.seq (.reg false [⟨(some 22), .bin .eql (.t 6) (.c (.int .u8 119)), none⟩, ⟨(some 21), .mv (.t 22), none⟩] [])
          (.cond (.t 21)
            (.seq (.reg false [⟨(some 23), .faddr 5 (.t 2), none⟩, ⟨(some 24), .load false 1 (.t 23), none⟩, ⟨(some 25), .call 65 [(.t 24)], none⟩, ⟨none, .store 3 (.t 4) (.t 25), none⟩, ⟨(some 5), .mv (.c (.bool true)), none⟩] [])
            .ret)
            (.seq (.reg false [⟨(some 27), .bin .eql (.t 6) (.c (.int .u8 102)), none⟩, ⟨(some 26), .mv (.t 27), none⟩] [])
            (.cond (.t 26)
              (.seq (.reg false [⟨(some 28), .faddr 6 (.t 2), none⟩, ⟨(some 29), .load true 1 (.t 28), none⟩, ⟨(some 30), .call 126 [(.t 29)], none⟩, ⟨none, .store 3 (.t 4) (.t 30), none⟩, ⟨(some 5), .mv (.c (.bool true)), none⟩] [])
              .ret)
              (.seq (.reg false [⟨(some 32), .bin .eql (.t 6) (.c (.int .u8 116)), none⟩, ⟨(some 31), .mv (.t 32), none⟩] [])
              (.cond (.t 31)
                (.seq (.reg false [⟨(some 33), .faddr 7 (.t 2), none⟩, ⟨(some 34), .load true 1 (.t 33), none⟩, ⟨(some 35), .call 126 [(.t 34)], none⟩, ⟨none, .store 3 (.t 4) (.t 35), none⟩, ⟨(some 5), .mv (.c (.bool true)), none⟩] [])
                .ret)
                (.seq (.reg false [⟨(some 37), .bin .eql (.t 6) (.c (.int .u8 101)), none⟩, ⟨(some 36), .mv (.t 37), none⟩] [])
                (.cond (.t 36)
                  (.seq (.reg false [⟨(some 38), .call 65 [(.c (.int .i64 0))], none⟩, ⟨none, .store 3 (.t 4) (.t 38), none⟩, ⟨(some 5), .mv (.c (.bool true)), none⟩] [])
                  .ret)
                  .skip))))))))))))))))
  (.seq (.reg false [⟨(some 39), .call 65 [(.c (.int .i64 0))], none⟩, ⟨none, .store 3 (.t 4) (.t 39), none⟩, ⟨(some 5), .mv (.c (.bool false)), none⟩] [])
  .ret)))
theorem ok56 : (Go.Proofs.Tryz.f56.body).bind (comp Go.Proofs.Tryz.prog) = some c56 := by kernel_rfl
/-- cubit/oper.number -/
def c125 : IR :=
  (.seq (.reg false [⟨(some 2), .new 24 1 [.nils], none⟩] [])
  (.seq (.reg false [⟨(some 6), .mv (.t 0), none⟩, ⟨(some 7), .call 108 [(.t 6)], none⟩, ⟨(some 5), .mv (.t 7), none⟩, ⟨(some 8), .ext (.t 5) 0, none⟩, ⟨(some 9), .ext (.t 5) 1, none⟩, ⟨(some 3), .new 24 1 [.nils], none⟩, ⟨none, .store 1 (.t 3) (.t 8), none⟩, ⟨(some 4), .mv (.t 9), none⟩] [])
  (.seq (.reg false [⟨(some 10), .load true 1 (.t 3), none⟩, ⟨none, .store 1 (.t 2) (.t 10), none⟩] [])
  .ret)))
theorem ok125 : (Go.Proofs.Tryz.f125.body).bind (comp Go.Proofs.Tryz.prog) = some c125 := by kernel_rfl
/-- cubit/oper.whole -/
def c126 : IR :=
  (.seq (.reg false [⟨(some 1), .box 24 1 (.t 0), none⟩, ⟨(some 2), .new 28 3 [(.bool false), .nils, .nils], none⟩] [])
  (.seq (.reg false [⟨(some 4), .call 65 [(.c (.int .i64 0))], none⟩, ⟨(some 3), .new 28 3 [(.bool false), .nils, .nils], none⟩, ⟨none, .store 3 (.t 3) (.t 4), none⟩] [])
  (.seq (.reg false [⟨(some 5), .load true 1 (.t 1), none⟩, ⟨(some 6), .faddr 0 (.t 3), none⟩, ⟨(some 7), .faddr 1 (.t 6), none⟩, ⟨none, .store 1 (.t 7) (.t 5), none⟩] [])
  (.seq (.reg false [⟨(some 8), .load true 3 (.t 3), none⟩, ⟨none, .store 3 (.t 2) (.t 8), none⟩] [])
  .ret))))
theorem ok126 : (Go.Proofs.Tryz.f126.body).bind (comp Go.Proofs.Tryz.prog) = some c126 := by kernel_rfl
end Go.Proofs.YtapikjmijmebpaaGreatDoorK.NatIr
