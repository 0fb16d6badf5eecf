/-
  The compiled bodies, printed: IrNum.
-/
import Derived.Test.YtapikjmijmebpaaGreatDoorKAb
import Derived.Test.YtapikjmijmebpaaGreatDoorProg
set_option linter.all false
set_option linter.unusedVariables false
set_option linter.unusedSimpArgs false
set_option maxHeartbeats 4000000
namespace Go.Proofs.YtapikjmijmebpaaGreatDoorK.NatIr
open Go.Proofs.YtapikjmijmebpaaGreatDoorK.AI
def c37 : IR :=
  (.seq (.reg false [⟨(some 2), .new 26 2 [(.bool false), .nils], none⟩] [])
  (.seq (.seq (.reg false [⟨(some 3), .mv (.t 0), none⟩, ⟨(some 4), .bin .lss (.t 3) (.c (.int .i64 0)), none⟩] [])
  (.cond (.t 4)
    (.seq (.reg false [⟨(some 5), .mv (.t 0), none⟩, ⟨(some 6), .conv .u64 (.t 5), none⟩, ⟨(some 7), .neg (.t 6), none⟩, ⟨(some 8), .call 38 [(.t 7)], none⟩, ⟨(some 9), .call 119 [(.c (.bool true)), (.t 8)], none⟩, ⟨none, .store 2 (.t 2) (.t 9), none⟩] [])
    .ret)
    .skip))
  (.seq (.reg false [⟨(some 10), .mv (.t 0), none⟩, ⟨(some 11), .conv .u64 (.t 10), none⟩, ⟨(some 12), .call 38 [(.t 11)], none⟩, ⟨(some 13), .call 119 [(.c (.bool false)), (.t 12)], none⟩, ⟨none, .store 2 (.t 2) (.t 13), none⟩] [])
  .ret)))
theorem ok37 : (Go.Proofs.Tryz.f37.body).bind (comp Go.Proofs.Tryz.prog) = some c37 := by kernel_rfl
def c77 : IR :=
  (.seq (.reg false [⟨(some 2), .box 26 2 (.t 0), none⟩, ⟨(some 3), .box 26 2 (.t 1), none⟩, ⟨(some 4), .new 26 2 [(.bool false), .nils], none⟩] [])
  (.seq (.seq (.reg false [⟨(some 9), .faddr 0 (.t 2), none⟩, ⟨(some 10), .load false 1 (.t 9), none⟩, ⟨(some 11), .faddr 0 (.t 3), none⟩, ⟨(some 12), .load false 1 (.t 11), none⟩, ⟨(some 13), .beq false (.t 10) (.t 12), none⟩] [])
  (.cond (.t 13)
    (.seq (.reg true [⟨(some 14), .faddr 0 (.t 2), none⟩, ⟨(some 15), .load false 1 (.t 14), none⟩, ⟨(some 16), .faddr 1 (.t 2), none⟩, ⟨(some 17), .load true 1 (.t 16), none⟩, ⟨(some 18), .faddr 1 (.t 3), none⟩, ⟨(some 19), .load true 1 (.t 18), none⟩, ⟨(some 20), .call 137 [(.t 17), (.t 19)], none⟩, ⟨(some 21), .call 119 [(.t 15), (.t 20)], none⟩, ⟨none, .store 2 (.t 4) (.t 21), none⟩] [0, 1, 0, 4, 0, 16, 60, 127, 255])
    .ret)
    .skip))
  (.seq (.seq (.reg false [⟨(some 23), .faddr 1 (.t 2), none⟩, ⟨(some 24), .load true 1 (.t 23), none⟩, ⟨(some 25), .faddr 1 (.t 3), none⟩, ⟨(some 26), .load true 1 (.t 25), none⟩, ⟨(some 27), .call 138 [(.t 24), (.t 26)], none⟩, ⟨(some 22), .mv (.t 27), none⟩, ⟨(some 28), .ext (.t 22) 0, none⟩, ⟨(some 29), .ext (.t 22) 1, none⟩, ⟨(some 5), .new 24 1 [.nils], none⟩, ⟨none, .store 1 (.t 5) (.t 28), none⟩, ⟨(some 6), .mv (.t 29), none⟩] [])
  (.seq (.reg false [⟨(some 30), .mv (.t 6), none⟩] [])
  (.cond (.t 30)
    (.seq (.reg false [⟨(some 31), .faddr 0 (.t 2), none⟩, ⟨(some 32), .load false 1 (.t 31), none⟩, ⟨(some 33), .load true 1 (.t 5), none⟩, ⟨(some 34), .call 119 [(.t 32), (.t 33)], none⟩, ⟨none, .store 2 (.t 4) (.t 34), none⟩] [])
    .ret)
    .skip)))
  (.seq (.reg false [⟨(some 36), .faddr 1 (.t 3), none⟩, ⟨(some 37), .load true 1 (.t 36), none⟩, ⟨(some 38), .faddr 1 (.t 2), none⟩, ⟨(some 39), .load true 1 (.t 38), none⟩, ⟨(some 40), .call 138 [(.t 37), (.t 39)], none⟩, ⟨(some 35), .mv (.t 40), none⟩, ⟨(some 41), .ext (.t 35) 0, none⟩, ⟨(some 42), .ext (.t 35) 1, none⟩, ⟨(some 7), .new 24 1 [.nils], none⟩, ⟨none, .store 1 (.t 7) (.t 41), none⟩, ⟨(some 8), .mv (.t 42), none⟩] [])
  (.seq (.reg false [⟨(some 43), .faddr 0 (.t 3), none⟩, ⟨(some 44), .load false 1 (.t 43), none⟩, ⟨(some 45), .load true 1 (.t 7), none⟩, ⟨(some 46), .call 119 [(.t 44), (.t 45)], none⟩, ⟨none, .store 2 (.t 4) (.t 46), none⟩] [])
  .ret)))))
theorem ok77 : (Go.Proofs.Tryz.f77.body).bind (comp Go.Proofs.Tryz.prog) = some c77 := by kernel_rfl
def c82 : IR :=
  (.seq (.reg false [⟨(some 2), .box 26 2 (.t 0), none⟩, ⟨(some 3), .box 26 2 (.t 1), none⟩, ⟨(some 4), .new 26 2 [(.bool false), .nils], none⟩] [])
  (.seq (.reg true [⟨(some 5), .faddr 0 (.t 2), none⟩, ⟨(some 6), .load false 1 (.t 5), none⟩, ⟨(some 7), .faddr 0 (.t 3), none⟩, ⟨(some 8), .load false 1 (.t 7), none⟩, ⟨(some 9), .beq true (.t 6) (.t 8), none⟩, ⟨(some 10), .faddr 1 (.t 2), none⟩, ⟨(some 11), .load true 1 (.t 10), none⟩, ⟨(some 12), .faddr 1 (.t 3), none⟩, ⟨(some 13), .load true 1 (.t 12), none⟩, ⟨(some 14), .call 118 [(.t 11), (.t 13)], none⟩, ⟨(some 15), .call 119 [(.t 9), (.t 14)], none⟩, ⟨none, .store 2 (.t 4) (.t 15), none⟩] [0, 1, 0, 4, 15, 0, 32, 0, 128, 480, 1023, 2047])
  .ret))
theorem ok82 : (Go.Proofs.Tryz.f82.body).bind (comp Go.Proofs.Tryz.prog) = some c82 := by kernel_rfl
def c84 : IR :=
  (.seq (.reg false [⟨(some 2), .box 26 2 (.t 0), none⟩, ⟨(some 3), .box 26 2 (.t 1), none⟩, ⟨(some 4), .new 26 2 [(.bool false), .nils], none⟩, ⟨(some 5), .new 26 2 [(.bool false), .nils], none⟩, ⟨(some 6), .mv (.c (.bool false)), none⟩] [])
  (.seq (.reg false [⟨(some 10), .faddr 1 (.t 2), none⟩, ⟨(some 11), .load true 1 (.t 10), none⟩, ⟨(some 12), .faddr 1 (.t 3), none⟩, ⟨(some 13), .load true 1 (.t 12), none⟩, ⟨(some 14), .call 117 [(.t 11), (.t 13)], none⟩, ⟨(some 9), .mv (.t 14), none⟩, ⟨(some 15), .ext (.t 9) 0, none⟩, ⟨(some 16), .ext (.t 9) 1, none⟩, ⟨(some 17), .ext (.t 9) 2, none⟩, ⟨(some 7), .new 24 1 [.nils], none⟩, ⟨(some 8), .new 24 1 [.nils], none⟩, ⟨none, .store 1 (.t 7) (.t 15), none⟩, ⟨none, .store 1 (.t 8) (.t 16), none⟩, ⟨(some 6), .mv (.t 17), none⟩] [])
  (.seq (.seq (.reg false [⟨(some 18), .mv (.t 6), none⟩, ⟨(some 19), .not (.t 18), none⟩] [])
  (.cond (.t 19)
    (.seq (.reg false [⟨(some 20), .build [(.bool false), .nils] [], none⟩, ⟨(some 21), .build [(.bool false), .nils] [], none⟩, ⟨none, .store 2 (.t 4) (.t 20), none⟩, ⟨none, .store 2 (.t 5) (.t 21), none⟩, ⟨(some 6), .mv (.c (.bool false)), none⟩] [])
    .ret)
    .skip))
  (.seq (.seq (.reg false [⟨(some 22), .faddr 0 (.t 2), none⟩, ⟨(some 23), .load false 1 (.t 22), none⟩, ⟨(some 24), .mv (.t 23), none⟩, ⟨(some 25), .load true 1 (.t 8), (some ((some 24), true))⟩, ⟨(some 26), .call 144 [(.t 25)], (some ((some 24), true))⟩, ⟨(some 27), .not (.t 26), (some ((some 24), true))⟩, ⟨(some 28), .pick (.t 24) (.t 27) (.c (.bool false)), none⟩] [])
  (.cond (.t 28)
    (.seq (.reg true [⟨(some 29), .load true 1 (.t 7), none⟩, ⟨(some 30), .call 38 [(.c (.int .u64 1))], none⟩, ⟨(some 31), .call 137 [(.t 29), (.t 30)], none⟩, ⟨none, .store 1 (.t 7) (.t 31), none⟩] [0, 0, 3, 7])
    (.reg false [⟨(some 33), .faddr 1 (.t 3), none⟩, ⟨(some 34), .load true 1 (.t 33), none⟩, ⟨(some 35), .load true 1 (.t 8), none⟩, ⟨(some 36), .call 138 [(.t 34), (.t 35)], none⟩, ⟨(some 32), .mv (.t 36), none⟩, ⟨(some 37), .ext (.t 32) 0, none⟩, ⟨(some 38), .ext (.t 32) 1, none⟩, ⟨none, .store 1 (.t 8) (.t 37), none⟩] []))
    .skip))
  (.seq (.reg true [⟨(some 39), .faddr 0 (.t 2), none⟩, ⟨(some 40), .load false 1 (.t 39), none⟩, ⟨(some 41), .faddr 0 (.t 3), none⟩, ⟨(some 42), .load false 1 (.t 41), none⟩, ⟨(some 43), .beq true (.t 40) (.t 42), none⟩, ⟨(some 44), .load true 1 (.t 7), none⟩, ⟨(some 45), .call 119 [(.t 43), (.t 44)], none⟩, ⟨(some 46), .load true 1 (.t 8), none⟩, ⟨(some 47), .call 119 [(.c (.bool false)), (.t 46)], none⟩, ⟨none, .store 2 (.t 4) (.t 45), none⟩, ⟨none, .store 2 (.t 5) (.t 47), none⟩, ⟨(some 6), .mv (.c (.bool true)), none⟩] [0, 1, 0, 4, 15, 0, 63, 0, 255, 511, 1023, 2047])
  .ret)))))
theorem ok84 : (Go.Proofs.Tryz.f84.body).bind (comp Go.Proofs.Tryz.prog) = some c84 := by kernel_rfl
def c86 : IR :=
  (.seq (.reg false [⟨(some 1), .box 26 2 (.t 0), none⟩, ⟨(some 2), .mv (.c (.bool false)), none⟩] [])
  (.seq (.reg false [⟨(some 3), .faddr 1 (.t 1), none⟩, ⟨(some 4), .load true 1 (.t 3), none⟩, ⟨(some 5), .call 103 [(.t 4)], none⟩, ⟨(some 6), .mv (.t 5), none⟩, ⟨(some 7), .faddr 0 (.t 1), (some ((some 6), true))⟩, ⟨(some 8), .load false 1 (.t 7), (some ((some 6), true))⟩, ⟨(some 9), .mv (.t 8), (some ((some 6), true))⟩, ⟨(some 10), .faddr 1 (.t 1), (some ((some 9), true))⟩, ⟨(some 11), .load true 1 (.t 10), (some ((some 9), true))⟩, ⟨(some 12), .call 144 [(.t 11)], (some ((some 9), true))⟩, ⟨(some 13), .pick (.t 9) (.t 12) (.c (.bool false)), (some ((some 6), true))⟩, ⟨(some 14), .not (.t 13), (some ((some 6), true))⟩, ⟨(some 15), .pick (.t 6) (.t 14) (.c (.bool false)), none⟩, ⟨(some 2), .mv (.t 15), none⟩] [])
  .ret))
theorem ok86 : (Go.Proofs.Tryz.f86.body).bind (comp Go.Proofs.Tryz.prog) = some c86 := by kernel_rfl
def c115 : IR :=
  (.seq (.reg false [⟨(some 1), .box 26 2 (.t 0), none⟩, ⟨(some 2), .mv (.c (.int .i64 0)), none⟩] [])
  (.seq (.block 0 (.seq (.reg false [⟨(some 4), .faddr 1 (.t 1), none⟩, ⟨(some 5), .load true 1 (.t 4), none⟩, ⟨(some 6), .call 144 [(.t 5)], none⟩, ⟨(some 3), .mv (.t 6), none⟩] [])
    (.cond (.t 3)
      (.seq (.reg false [⟨(some 2), .mv (.c (.int .i64 0)), none⟩] [])
      .ret)
      (.seq (.reg false [⟨(some 8), .faddr 0 (.t 1), none⟩, ⟨(some 9), .load false 1 (.t 8), none⟩, ⟨(some 7), .mv (.t 9), none⟩] [])
      (.cond (.t 7)
        (.seq (.reg false [⟨(some 2), .mv (.c (.int .i64 (-1))), none⟩] [])
        .ret)
        .skip)))))
  (.seq (.reg false [⟨(some 2), .mv (.c (.int .i64 1)), none⟩] [])
  .ret)))
theorem ok115 : (Go.Proofs.Tryz.f115.body).bind (comp Go.Proofs.Tryz.prog) = some c115 := by kernel_rfl
def c119 : IR :=
  (.seq (.reg false [⟨(some 3), .box 24 1 (.t 1), none⟩, ⟨(some 4), .new 26 2 [(.bool false), .nils], none⟩] [])
  (.seq (.reg false [⟨(some 5), .load true 1 (.t 3), none⟩, ⟨(some 6), .build [.nils] [], none⟩, ⟨(some 7), .call 137 [(.t 5), (.t 6)], none⟩, ⟨none, .store 1 (.t 3) (.t 7), none⟩] [])
  (.seq (.reg true [⟨(some 8), .mv (.t 0), none⟩, ⟨(some 9), .mv (.t 8), none⟩, ⟨(some 10), .load true 1 (.t 3), (some ((some 9), true))⟩, ⟨(some 11), .call 144 [(.t 10)], (some ((some 9), true))⟩, ⟨(some 12), .not (.t 11), (some ((some 9), true))⟩, ⟨(some 13), .pick (.t 9) (.t 12) (.c (.bool false)), none⟩, ⟨(some 14), .load true 1 (.t 3), none⟩, ⟨(some 15), .build [(.bool false), .nils] [(0, 1, (.t 13)), (1, 1, (.t 14))], none⟩, ⟨none, .store 2 (.t 4) (.t 15), none⟩] [0, 1, 3, 7, 15, 31, 0, 127, 255])
  .ret)))
theorem ok119 : (Go.Proofs.Tryz.f119.body).bind (comp Go.Proofs.Tryz.prog) = some c119 := by kernel_rfl
def c127 : IR :=
  (.seq (.reg false [⟨(some 1), .box 26 2 (.t 0), none⟩, ⟨(some 2), .mv (.c (.str ⟨#[]⟩)), none⟩] [])
  (.seq (.seq (.reg false [⟨(some 3), .load true 2 (.t 1), none⟩, ⟨(some 4), .call 115 [(.t 3)], none⟩, ⟨(some 5), .bin .lss (.t 4) (.c (.int .i64 0)), none⟩] [])
  (.cond (.t 5)
    (.seq (.reg false [⟨(some 6), .faddr 1 (.t 1), none⟩, ⟨(some 7), .load true 1 (.t 6), none⟩, ⟨(some 8), .call 83 [(.t 7)], none⟩, ⟨(some 9), .bin .add (.c (.str ⟨#[45]⟩)) (.t 8), none⟩, ⟨(some 2), .mv (.t 9), none⟩] [])
    .ret)
    .skip))
  (.seq (.reg false [⟨(some 10), .faddr 1 (.t 1), none⟩, ⟨(some 11), .load true 1 (.t 10), none⟩, ⟨(some 12), .call 83 [(.t 11)], none⟩, ⟨(some 2), .mv (.t 12), none⟩] [])
  .ret)))
theorem ok127 : (Go.Proofs.Tryz.f127.body).bind (comp Go.Proofs.Tryz.prog) = some c127 := by kernel_rfl
def c136 : IR :=
  (.seq (.reg false [⟨(some 1), .box 26 2 (.t 0), none⟩, ⟨(some 2), .new 26 2 [(.bool false), .nils], none⟩] [])
  (.seq (.reg false [⟨(some 3), .faddr 0 (.t 1), none⟩, ⟨(some 4), .load false 1 (.t 3), none⟩, ⟨(some 5), .not (.t 4), none⟩, ⟨(some 6), .faddr 1 (.t 1), none⟩, ⟨(some 7), .load true 1 (.t 6), none⟩, ⟨(some 8), .call 119 [(.t 5), (.t 7)], none⟩, ⟨none, .store 2 (.t 2) (.t 8), none⟩] [])
  .ret))
theorem ok136 : (Go.Proofs.Tryz.f136.body).bind (comp Go.Proofs.Tryz.prog) = some c136 := by kernel_rfl
def c144 : IR :=
  (.seq (.reg false [⟨(some 1), .box 24 1 (.t 0), none⟩, ⟨(some 2), .mv (.c (.bool false)), none⟩] [])
  (.seq (.reg false [⟨(some 3), .load true 1 (.t 1), none⟩, ⟨(some 4), .build [.nils] [], none⟩, ⟨(some 5), .call 69 [(.t 3), (.t 4)], none⟩, ⟨(some 6), .bin .eql (.t 5) (.c (.int .i64 0)), none⟩, ⟨(some 2), .mv (.t 6), none⟩] [])
  .ret))
theorem ok144 : (Go.Proofs.Tryz.f144.body).bind (comp Go.Proofs.Tryz.prog) = some c144 := by kernel_rfl
end Go.Proofs.YtapikjmijmebpaaGreatDoorK.NatIr
