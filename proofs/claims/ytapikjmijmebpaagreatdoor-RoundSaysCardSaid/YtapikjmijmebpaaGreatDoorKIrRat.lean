/-
  The compiled bodies, printed: IrRat.
-/
import Derived.Test.YtapikjmijmebpaaGreatDoorKAb
import Derived.Test.YtapikjmijmebpaaGreatDoorProg
set_option linter.all false
set_option linter.unusedVariables false
set_option linter.unusedSimpArgs false
set_option maxHeartbeats 4000000
namespace Go.Proofs.YtapikjmijmebpaaGreatDoorK.NatIr
open Go.Proofs.YtapikjmijmebpaaGreatDoorK.AI
def c33 : IR :=
  (.seq (.reg false [⟨(some 1), .box 28 3 (.t 0), none⟩, ⟨(some 2), .mv (.c (.bool false)), none⟩] [])
  (.seq (.reg false [⟨(some 3), .faddr 0 (.t 1), none⟩, ⟨(some 4), .load true 2 (.t 3), none⟩, ⟨(some 5), .call 86 [(.t 4)], none⟩, ⟨(some 6), .mv (.t 5), none⟩, ⟨(some 7), .faddr 2 (.t 1), (some ((some 6), true))⟩, ⟨(some 8), .load true 1 (.t 7), (some ((some 6), true))⟩, ⟨(some 9), .call 103 [(.t 8)], (some ((some 6), true))⟩, ⟨(some 10), .pick (.t 6) (.t 9) (.c (.bool false)), none⟩, ⟨(some 11), .mv (.t 10), none⟩, ⟨(some 12), .faddr 2 (.t 1), (some ((some 11), true))⟩, ⟨(some 13), .load true 1 (.t 12), (some ((some 11), true))⟩, ⟨(some 14), .call 111 [(.t 13)], (some ((some 11), true))⟩, ⟨(some 15), .not (.t 14), (some ((some 11), true))⟩, ⟨(some 16), .pick (.t 11) (.t 15) (.c (.bool false)), none⟩, ⟨(some 17), .mv (.t 16), none⟩, ⟨(some 18), .faddr 0 (.t 1), (some ((some 17), true))⟩, ⟨(some 19), .faddr 1 (.t 18), (some ((some 17), true))⟩, ⟨(some 20), .load true 1 (.t 19), (some ((some 17), true))⟩, ⟨(some 21), .faddr 2 (.t 1), (some ((some 17), true))⟩, ⟨(some 22), .load true 1 (.t 21), (some ((some 17), true))⟩, ⟨(some 23), .call 112 [(.t 20), (.t 22)], (some ((some 17), true))⟩, ⟨(some 24), .call 113 [], (some ((some 17), true))⟩, ⟨(some 25), .call 69 [(.t 23), (.t 24)], (some ((some 17), true))⟩, ⟨(some 26), .bin .eql (.t 25) (.c (.int .i64 0)), (some ((some 17), true))⟩, ⟨(some 27), .pick (.t 17) (.t 26) (.c (.bool false)), none⟩, ⟨(some 2), .mv (.t 27), none⟩] [])
  .ret))
theorem ok33 : (Go.Proofs.Tryz.f33.body).bind (comp Go.Proofs.Tryz.prog) = some c33 := by kernel_rfl
def c35 : IR :=
  (.seq (.reg false [⟨(some 1), .box 28 3 (.t 0), none⟩, ⟨(some 2), .mv (.c (.int .i64 0)), none⟩] [])
  (.seq (.reg false [⟨(some 3), .load true 3 (.t 1), none⟩, ⟨(some 4), .call 116 [(.t 3)], none⟩, ⟨(some 5), .fld true 0 2 (.t 4), none⟩, ⟨(some 6), .call 115 [(.t 5)], none⟩, ⟨(some 2), .mv (.t 6), none⟩] [])
  .ret))
theorem ok35 : (Go.Proofs.Tryz.f35.body).bind (comp Go.Proofs.Tryz.prog) = some c35 := by kernel_rfl
def c57 : IR :=
  (.seq (.reg false [⟨(some 1), .box 28 3 (.t 0), none⟩, ⟨(some 2), .mv (.c (.str ⟨#[]⟩)), none⟩] [])
  (.seq (.reg false [⟨(some 3), .load true 3 (.t 1), none⟩, ⟨(some 4), .call 116 [(.t 3)], none⟩, ⟨none, .store 3 (.t 1) (.t 4), none⟩] [])
  (.seq (.seq (.reg true [⟨(some 5), .faddr 2 (.t 1), none⟩, ⟨(some 6), .load true 1 (.t 5), none⟩, ⟨(some 7), .call 113 [], none⟩, ⟨(some 8), .call 69 [(.t 6), (.t 7)], none⟩, ⟨(some 9), .bin .eql (.t 8) (.c (.int .i64 0)), none⟩] [0, 1, 0, 7, 15])
  (.cond (.t 9)
    (.seq (.reg false [⟨(some 10), .faddr 0 (.t 1), none⟩, ⟨(some 11), .load true 2 (.t 10), none⟩, ⟨(some 12), .call 127 [(.t 11)], none⟩, ⟨(some 2), .mv (.t 12), none⟩] [])
    .ret)
    .skip))
  (.seq (.reg true [⟨(some 13), .faddr 0 (.t 1), none⟩, ⟨(some 14), .load true 2 (.t 13), none⟩, ⟨(some 15), .call 127 [(.t 14)], none⟩, ⟨(some 16), .bin .add (.t 15) (.c (.str ⟨#[47]⟩)), none⟩, ⟨(some 17), .faddr 2 (.t 1), none⟩, ⟨(some 18), .load true 1 (.t 17), none⟩, ⟨(some 19), .call 83 [(.t 18)], none⟩, ⟨(some 20), .bin .add (.t 16) (.t 19), none⟩, ⟨(some 2), .mv (.t 20), none⟩] [0, 1, 3, 7, 0, 16, 55, 127, 255])
  .ret))))
theorem ok57 : (Go.Proofs.Tryz.f57.body).bind (comp Go.Proofs.Tryz.prog) = some c57 := by kernel_rfl
def c63 : IR :=
  (.seq (.reg false [⟨(some 2), .box 28 3 (.t 0), none⟩, ⟨(some 3), .box 28 3 (.t 1), none⟩, ⟨(some 4), .mv (.c (.int .i64 0)), none⟩] [])
  (.seq (.reg true [⟨(some 5), .load true 3 (.t 2), none⟩, ⟨(some 6), .load true 3 (.t 3), none⟩, ⟨(some 7), .call 75 [(.t 6)], none⟩, ⟨(some 8), .call 67 [(.t 5), (.t 7)], none⟩, ⟨(some 9), .call 35 [(.t 8)], none⟩, ⟨(some 4), .mv (.t 9), none⟩] [0, 0, 2, 7, 15, 31])
  .ret))
theorem ok63 : (Go.Proofs.Tryz.f63.body).bind (comp Go.Proofs.Tryz.prog) = some c63 := by kernel_rfl
def c64 : IR :=
  (.seq (.reg false [⟨(some 2), .box 28 3 (.t 0), none⟩, ⟨(some 4), .new 28 3 [(.bool false), .nils, .nils], none⟩, ⟨(some 5), .mv (.c (.bool false)), none⟩] [])
  (.seq (.reg false [⟨(some 10), .load true 3 (.t 2), none⟩, ⟨(some 11), .call 116 [(.t 10)], none⟩, ⟨none, .store 3 (.t 2) (.t 11), none⟩] [])
  (.seq (.seq (.reg false [⟨(some 12), .mv (.t 1), none⟩, ⟨(some 13), .bin .lss (.t 12) (.c (.int .i64 0)), none⟩] [])
  (.cond (.t 13)
    (.seq (.reg false [⟨(some 15), .load true 3 (.t 2), none⟩, ⟨(some 16), .call 81 [(.t 15)], none⟩, ⟨(some 14), .mv (.t 16), none⟩, ⟨(some 17), .ext (.t 14) 0, none⟩, ⟨(some 18), .ext (.t 14) 1, none⟩, ⟨(some 6), .new 28 3 [(.bool false), .nils, .nils], none⟩, ⟨none, .store 3 (.t 6) (.t 17), none⟩, ⟨(some 7), .mv (.t 18), none⟩] [])
    (.seq (.seq (.reg false [⟨(some 19), .mv (.t 7), none⟩, ⟨(some 20), .not (.t 19), none⟩] [])
    (.cond (.t 20)
      (.seq (.reg false [⟨(some 21), .call 131 [], none⟩, ⟨none, .store 3 (.t 4) (.t 21), none⟩, ⟨(some 5), .mv (.c (.bool false)), none⟩] [])
      .ret)
      .skip))
    (.seq (.reg false [⟨(some 23), .load true 3 (.t 6), none⟩, ⟨(some 24), .mv (.t 1), none⟩, ⟨(some 25), .bin .add (.t 24) (.c (.int .i64 1)), none⟩, ⟨(some 26), .neg (.t 25), none⟩, ⟨(some 27), .call 64 [(.t 23), (.t 26)], none⟩, ⟨(some 22), .mv (.t 27), none⟩, ⟨(some 28), .ext (.t 22) 0, none⟩, ⟨(some 29), .ext (.t 22) 1, none⟩, ⟨(some 8), .new 28 3 [(.bool false), .nils, .nils], none⟩, ⟨none, .store 3 (.t 8) (.t 28), none⟩, ⟨(some 9), .mv (.t 29), none⟩] [])
    (.seq (.reg false [⟨(some 30), .load true 3 (.t 6), none⟩, ⟨(some 31), .load true 3 (.t 8), none⟩, ⟨(some 32), .call 68 [(.t 30), (.t 31)], none⟩, ⟨none, .store 3 (.t 4) (.t 32), none⟩, ⟨(some 5), .mv (.c (.bool true)), none⟩] [])
    .ret))))
    .skip))
  (.seq (.reg true [⟨(some 33), .faddr 0 (.t 2), none⟩, ⟨(some 34), .faddr 0 (.t 33), none⟩, ⟨(some 35), .load false 1 (.t 34), none⟩, ⟨(some 36), .mv (.t 35), none⟩, ⟨(some 37), .mv (.t 1), (some ((some 36), true))⟩, ⟨(some 38), .bin .rem (.t 37) (.c (.int .i64 2)), (some ((some 36), true))⟩, ⟨(some 39), .bin .eql (.t 38) (.c (.int .i64 1)), (some ((some 36), true))⟩, ⟨(some 40), .pick (.t 36) (.t 39) (.c (.bool false)), none⟩, ⟨(some 41), .faddr 0 (.t 2), none⟩, ⟨(some 42), .faddr 1 (.t 41), none⟩, ⟨(some 43), .load true 1 (.t 42), none⟩, ⟨(some 44), .mv (.t 1), none⟩, ⟨(some 45), .call 132 [(.t 43), (.t 44)], none⟩, ⟨(some 46), .build [(.bool false), .nils] [(0, 1, (.t 40)), (1, 1, (.t 45))], none⟩, ⟨(some 47), .faddr 2 (.t 2), none⟩, ⟨(some 48), .load true 1 (.t 47), none⟩, ⟨(some 49), .mv (.t 1), none⟩, ⟨(some 50), .call 132 [(.t 48), (.t 49)], none⟩, ⟨(some 51), .build [(.bool false), .nils, .nils] [(0, 2, (.t 46)), (2, 1, (.t 50))], none⟩, ⟨none, .store 3 (.t 4) (.t 51), none⟩, ⟨(some 5), .mv (.c (.bool true)), none⟩] [0, 1, 3, 7, 15, 31, 63, 127, 0, 256, 768, 0, 3855, 8191, 0, 16384, 0, 122639, 262143, 524287, 1048575])
  .ret))))
theorem ok64 : (Go.Proofs.Tryz.f64.body).bind (comp Go.Proofs.Tryz.prog) = some c64 := by kernel_rfl
def c65 : IR :=
  (.seq (.reg false [⟨(some 2), .new 28 3 [(.bool false), .nils, .nils], none⟩] [])
  (.seq (.reg false [⟨(some 3), .mv (.t 0), none⟩, ⟨(some 4), .call 37 [(.t 3)], none⟩, ⟨(some 5), .call 113 [], none⟩, ⟨(some 6), .build [(.bool false), .nils, .nils] [(0, 2, (.t 4)), (2, 1, (.t 5))], none⟩, ⟨none, .store 3 (.t 2) (.t 6), none⟩] [])
  .ret))
theorem ok65 : (Go.Proofs.Tryz.f65.body).bind (comp Go.Proofs.Tryz.prog) = some c65 := by kernel_rfl
def c66 : IR :=
  (.seq (.reg false [⟨(some 2), .box 26 2 (.t 0), none⟩, ⟨(some 3), .box 24 1 (.t 1), none⟩, ⟨(some 4), .new 28 3 [(.bool false), .nils, .nils], none⟩, ⟨(some 5), .mv (.c (.bool false)), none⟩] [])
  (.seq (.seq (.reg false [⟨(some 13), .load true 1 (.t 3), none⟩, ⟨(some 14), .call 111 [(.t 13)], none⟩] [])
  (.cond (.t 14)
    (.seq (.reg false [⟨(some 15), .call 131 [], none⟩, ⟨none, .store 3 (.t 4) (.t 15), none⟩, ⟨(some 5), .mv (.c (.bool false)), none⟩] [])
    .ret)
    .skip))
  (.seq (.reg false [⟨(some 16), .faddr 1 (.t 2), none⟩, ⟨(some 17), .load true 1 (.t 16), none⟩, ⟨(some 18), .load true 1 (.t 3), none⟩, ⟨(some 19), .call 112 [(.t 17), (.t 18)], none⟩, ⟨(some 6), .new 24 1 [.nils], none⟩, ⟨none, .store 1 (.t 6) (.t 19), none⟩] [])
  (.seq (.reg false [⟨(some 21), .faddr 1 (.t 2), none⟩, ⟨(some 22), .load true 1 (.t 21), none⟩, ⟨(some 23), .load true 1 (.t 6), none⟩, ⟨(some 24), .call 117 [(.t 22), (.t 23)], none⟩, ⟨(some 20), .mv (.t 24), none⟩, ⟨(some 25), .ext (.t 20) 0, none⟩, ⟨(some 26), .ext (.t 20) 1, none⟩, ⟨(some 27), .ext (.t 20) 2, none⟩, ⟨(some 7), .new 24 1 [.nils], none⟩, ⟨(some 8), .new 24 1 [.nils], none⟩, ⟨none, .store 1 (.t 7) (.t 25), none⟩, ⟨none, .store 1 (.t 8) (.t 26), none⟩, ⟨(some 9), .mv (.t 27), none⟩] [])
  (.seq (.reg false [⟨(some 29), .load true 1 (.t 3), none⟩, ⟨(some 30), .load true 1 (.t 6), none⟩, ⟨(some 31), .call 117 [(.t 29), (.t 30)], none⟩, ⟨(some 28), .mv (.t 31), none⟩, ⟨(some 32), .ext (.t 28) 0, none⟩, ⟨(some 33), .ext (.t 28) 1, none⟩, ⟨(some 34), .ext (.t 28) 2, none⟩, ⟨(some 10), .new 24 1 [.nils], none⟩, ⟨(some 11), .new 24 1 [.nils], none⟩, ⟨none, .store 1 (.t 10) (.t 32), none⟩, ⟨none, .store 1 (.t 11) (.t 33), none⟩, ⟨(some 12), .mv (.t 34), none⟩] [])
  (.seq (.reg true [⟨(some 35), .faddr 0 (.t 2), none⟩, ⟨(some 36), .load false 1 (.t 35), none⟩, ⟨(some 37), .mv (.t 36), none⟩, ⟨(some 38), .load true 1 (.t 7), (some ((some 37), true))⟩, ⟨(some 39), .call 111 [(.t 38)], (some ((some 37), true))⟩, ⟨(some 40), .not (.t 39), (some ((some 37), true))⟩, ⟨(some 41), .pick (.t 37) (.t 40) (.c (.bool false)), none⟩, ⟨(some 42), .load true 1 (.t 7), none⟩, ⟨(some 43), .build [(.bool false), .nils] [(0, 1, (.t 41)), (1, 1, (.t 42))], none⟩, ⟨(some 44), .load true 1 (.t 10), none⟩, ⟨(some 45), .build [(.bool false), .nils, .nils] [(0, 2, (.t 43)), (2, 1, (.t 44))], none⟩, ⟨none, .store 3 (.t 4) (.t 45), none⟩, ⟨(some 5), .mv (.c (.bool true)), none⟩] [0, 1, 3, 7, 15, 31, 63, 0, 255, 0, 1023, 2047, 4095])
  .ret))))))
theorem ok66 : (Go.Proofs.Tryz.f66.body).bind (comp Go.Proofs.Tryz.prog) = some c66 := by kernel_rfl
def c67 : IR :=
  (.seq (.reg false [⟨(some 2), .box 28 3 (.t 0), none⟩, ⟨(some 3), .box 28 3 (.t 1), none⟩, ⟨(some 4), .new 28 3 [(.bool false), .nils, .nils], none⟩] [])
  (.seq (.reg true [⟨(some 5), .load true 3 (.t 2), none⟩, ⟨(some 6), .call 116 [(.t 5)], none⟩, ⟨(some 7), .load true 3 (.t 3), none⟩, ⟨(some 8), .call 116 [(.t 7)], none⟩, ⟨none, .store 3 (.t 2) (.t 6), none⟩, ⟨none, .store 3 (.t 3) (.t 8), none⟩] [0, 1, 0, 7, 15, 31])
  (.seq (.reg true [⟨(some 9), .faddr 0 (.t 2), none⟩, ⟨(some 10), .load true 2 (.t 9), none⟩, ⟨(some 11), .faddr 2 (.t 3), none⟩, ⟨(some 12), .load true 1 (.t 11), none⟩, ⟨(some 13), .call 133 [(.t 10), (.t 12)], none⟩, ⟨(some 14), .faddr 0 (.t 3), none⟩, ⟨(some 15), .load true 2 (.t 14), none⟩, ⟨(some 16), .faddr 2 (.t 2), none⟩, ⟨(some 17), .load true 1 (.t 16), none⟩, ⟨(some 18), .call 133 [(.t 15), (.t 17)], none⟩, ⟨(some 19), .call 77 [(.t 13), (.t 18)], none⟩, ⟨(some 20), .faddr 2 (.t 2), none⟩, ⟨(some 21), .load true 1 (.t 20), none⟩, ⟨(some 22), .faddr 2 (.t 3), none⟩, ⟨(some 23), .load true 1 (.t 22), none⟩, ⟨(some 24), .call 118 [(.t 21), (.t 23)], none⟩, ⟨(some 25), .build [(.bool false), .nils, .nils] [(0, 2, (.t 19)), (2, 1, (.t 24))], none⟩, ⟨(some 26), .call 116 [(.t 25)], none⟩, ⟨none, .store 3 (.t 4) (.t 26), none⟩] [0, 1, 0, 4, 15, 0, 32, 0, 128, 511, 1023, 0, 2048, 0, 8192, 32767, 65535, 131071, 262143])
  .ret)))
theorem ok67 : (Go.Proofs.Tryz.f67.body).bind (comp Go.Proofs.Tryz.prog) = some c67 := by kernel_rfl
def c68 : IR :=
  (.seq (.reg false [⟨(some 2), .box 28 3 (.t 0), none⟩, ⟨(some 3), .box 28 3 (.t 1), none⟩, ⟨(some 4), .new 28 3 [(.bool false), .nils, .nils], none⟩] [])
  (.seq (.reg true [⟨(some 5), .load true 3 (.t 2), none⟩, ⟨(some 6), .call 116 [(.t 5)], none⟩, ⟨(some 7), .load true 3 (.t 3), none⟩, ⟨(some 8), .call 116 [(.t 7)], none⟩, ⟨none, .store 3 (.t 2) (.t 6), none⟩, ⟨none, .store 3 (.t 3) (.t 8), none⟩] [0, 1, 0, 7, 15, 31])
  (.seq (.reg true [⟨(some 9), .faddr 0 (.t 2), none⟩, ⟨(some 10), .load true 2 (.t 9), none⟩, ⟨(some 11), .faddr 0 (.t 3), none⟩, ⟨(some 12), .load true 2 (.t 11), none⟩, ⟨(some 13), .call 82 [(.t 10), (.t 12)], none⟩, ⟨(some 14), .faddr 2 (.t 2), none⟩, ⟨(some 15), .load true 1 (.t 14), none⟩, ⟨(some 16), .faddr 2 (.t 3), none⟩, ⟨(some 17), .load true 1 (.t 16), none⟩, ⟨(some 18), .call 118 [(.t 15), (.t 17)], none⟩, ⟨(some 19), .build [(.bool false), .nils, .nils] [(0, 2, (.t 13)), (2, 1, (.t 18))], none⟩, ⟨(some 20), .call 116 [(.t 19)], none⟩, ⟨none, .store 3 (.t 4) (.t 20), none⟩] [0, 1, 0, 4, 15, 0, 32, 0, 128, 511, 1023, 2047, 4095])
  .ret)))
theorem ok68 : (Go.Proofs.Tryz.f68.body).bind (comp Go.Proofs.Tryz.prog) = some c68 := by kernel_rfl
def c74 : IR :=
  (.seq (.reg false [⟨(some 1), .box 28 3 (.t 0), none⟩, ⟨(some 2), .new 26 2 [(.bool false), .nils], none⟩] [])
  (.seq (.reg false [⟨(some 6), .load true 3 (.t 1), none⟩, ⟨(some 7), .call 116 [(.t 6)], none⟩, ⟨none, .store 3 (.t 1) (.t 7), none⟩] [])
  (.seq (.reg false [⟨(some 9), .faddr 0 (.t 1), none⟩, ⟨(some 10), .load true 2 (.t 9), none⟩, ⟨(some 11), .faddr 2 (.t 1), none⟩, ⟨(some 12), .load true 1 (.t 11), none⟩, ⟨(some 13), .build [(.bool false), .nils] [(1, 1, (.t 12))], none⟩, ⟨(some 14), .call 84 [(.t 10), (.t 13)], none⟩, ⟨(some 8), .mv (.t 14), none⟩, ⟨(some 15), .ext (.t 8) 0, none⟩, ⟨(some 16), .ext (.t 8) 1, none⟩, ⟨(some 17), .ext (.t 8) 2, none⟩, ⟨(some 3), .new 26 2 [(.bool false), .nils], none⟩, ⟨(some 4), .new 26 2 [(.bool false), .nils], none⟩, ⟨none, .store 2 (.t 3) (.t 15), none⟩, ⟨none, .store 2 (.t 4) (.t 16), none⟩, ⟨(some 5), .mv (.t 17), none⟩] [])
  (.seq (.reg false [⟨(some 18), .load true 2 (.t 3), none⟩, ⟨none, .store 2 (.t 2) (.t 18), none⟩] [])
  .ret))))
theorem ok74 : (Go.Proofs.Tryz.f74.body).bind (comp Go.Proofs.Tryz.prog) = some c74 := by kernel_rfl
def c75 : IR :=
  (.seq (.reg false [⟨(some 1), .box 28 3 (.t 0), none⟩, ⟨(some 2), .new 28 3 [(.bool false), .nils, .nils], none⟩] [])
  (.seq (.reg false [⟨(some 3), .load true 3 (.t 1), none⟩, ⟨(some 4), .call 116 [(.t 3)], none⟩, ⟨none, .store 3 (.t 1) (.t 4), none⟩] [])
  (.seq (.reg true [⟨(some 5), .faddr 0 (.t 1), none⟩, ⟨(some 6), .load true 2 (.t 5), none⟩, ⟨(some 7), .call 136 [(.t 6)], none⟩, ⟨(some 8), .faddr 2 (.t 1), none⟩, ⟨(some 9), .load true 1 (.t 8), none⟩, ⟨(some 10), .build [(.bool false), .nils, .nils] [(0, 2, (.t 7)), (2, 1, (.t 9))], none⟩, ⟨none, .store 3 (.t 2) (.t 10), none⟩] [0, 1, 3, 0, 8, 31, 63])
  .ret)))
theorem ok75 : (Go.Proofs.Tryz.f75.body).bind (comp Go.Proofs.Tryz.prog) = some c75 := by kernel_rfl
def c81 : IR :=
  (.seq (.reg false [⟨(some 1), .box 28 3 (.t 0), none⟩, ⟨(some 2), .new 28 3 [(.bool false), .nils, .nils], none⟩, ⟨(some 3), .mv (.c (.bool false)), none⟩] [])
  (.seq (.reg false [⟨(some 4), .load true 3 (.t 1), none⟩, ⟨(some 5), .call 116 [(.t 4)], none⟩, ⟨none, .store 3 (.t 1) (.t 5), none⟩] [])
  (.seq (.reg false [⟨(some 6), .faddr 0 (.t 1), none⟩, ⟨(some 7), .faddr 0 (.t 6), none⟩, ⟨(some 8), .load false 1 (.t 7), none⟩, ⟨(some 9), .faddr 2 (.t 1), none⟩, ⟨(some 10), .load true 1 (.t 9), none⟩, ⟨(some 11), .build [(.bool false), .nils] [(0, 1, (.t 8)), (1, 1, (.t 10))], none⟩, ⟨(some 12), .faddr 0 (.t 1), none⟩, ⟨(some 13), .faddr 1 (.t 12), none⟩, ⟨(some 14), .load true 1 (.t 13), none⟩, ⟨(some 15), .call 66 [(.t 11), (.t 14)], none⟩, ⟨(some 16), .ext (.t 15) 0, none⟩, ⟨(some 17), .ext (.t 15) 1, none⟩, ⟨none, .store 3 (.t 2) (.t 16), none⟩, ⟨(some 3), .mv (.t 17), none⟩] [])
  .ret)))
theorem ok81 : (Go.Proofs.Tryz.f81.body).bind (comp Go.Proofs.Tryz.prog) = some c81 := by kernel_rfl
def c111 : IR :=
  (.seq (.reg false [⟨(some 1), .box 24 1 (.t 0), none⟩, ⟨(some 2), .mv (.c (.bool false)), none⟩] [])
  (.seq (.reg false [⟨(some 3), .load true 1 (.t 1), none⟩, ⟨(some 4), .build [.nils] [], none⟩, ⟨(some 5), .call 69 [(.t 3), (.t 4)], none⟩, ⟨(some 6), .bin .eql (.t 5) (.c (.int .i64 0)), none⟩, ⟨(some 2), .mv (.t 6), none⟩] [])
  .ret))
theorem ok111 : (Go.Proofs.Tryz.f111.body).bind (comp Go.Proofs.Tryz.prog) = some c111 := by kernel_rfl
def c113 : IR :=
  (.seq (.reg false [⟨(some 0), .new 24 1 [.nils], none⟩] [])
  (.seq (.reg false [⟨(some 1), .call 38 [(.c (.int .u64 1))], none⟩, ⟨none, .store 1 (.t 0) (.t 1), none⟩] [])
  .ret))
theorem ok113 : (Go.Proofs.Tryz.f113.body).bind (comp Go.Proofs.Tryz.prog) = some c113 := by kernel_rfl
def c116 : IR :=
  (.seq (.reg false [⟨(some 1), .box 28 3 (.t 0), none⟩, ⟨(some 2), .new 28 3 [(.bool false), .nils, .nils], none⟩] [])
  (.seq (.reg false [⟨(some 6), .faddr 0 (.t 1), none⟩, ⟨(some 7), .load true 2 (.t 6), none⟩, ⟨(some 8), .faddr 2 (.t 1), none⟩, ⟨(some 9), .load true 1 (.t 8), none⟩, ⟨(some 10), .call 66 [(.t 7), (.t 9)], none⟩, ⟨(some 5), .mv (.t 10), none⟩, ⟨(some 11), .ext (.t 5) 0, none⟩, ⟨(some 12), .ext (.t 5) 1, none⟩, ⟨(some 3), .new 28 3 [(.bool false), .nils, .nils], none⟩, ⟨none, .store 3 (.t 3) (.t 11), none⟩, ⟨(some 4), .mv (.t 12), none⟩] [])
  (.seq (.reg false [⟨(some 13), .load true 3 (.t 3), none⟩, ⟨none, .store 3 (.t 2) (.t 13), none⟩] [])
  .ret)))
theorem ok116 : (Go.Proofs.Tryz.f116.body).bind (comp Go.Proofs.Tryz.prog) = some c116 := by kernel_rfl
def c131 : IR :=
  (.seq (.reg false [⟨(some 0), .new 28 3 [(.bool false), .nils, .nils], none⟩] [])
  (.seq (.reg false [⟨(some 1), .call 113 [], none⟩, ⟨(some 2), .build [(.bool false), .nils, .nils] [(2, 1, (.t 1))], none⟩, ⟨none, .store 3 (.t 0) (.t 2), none⟩] [])
  .ret))
theorem ok131 : (Go.Proofs.Tryz.f131.body).bind (comp Go.Proofs.Tryz.prog) = some c131 := by kernel_rfl
def c133 : IR :=
  (.seq (.reg false [⟨(some 2), .box 26 2 (.t 0), none⟩, ⟨(some 3), .box 24 1 (.t 1), none⟩, ⟨(some 4), .new 26 2 [(.bool false), .nils], none⟩] [])
  (.seq (.reg false [⟨(some 5), .load true 2 (.t 2), none⟩, ⟨(some 6), .load true 1 (.t 3), none⟩, ⟨(some 7), .build [(.bool false), .nils] [(1, 1, (.t 6))], none⟩, ⟨(some 8), .call 82 [(.t 5), (.t 7)], none⟩, ⟨none, .store 2 (.t 4) (.t 8), none⟩] [])
  .ret))
theorem ok133 : (Go.Proofs.Tryz.f133.body).bind (comp Go.Proofs.Tryz.prog) = some c133 := by kernel_rfl
end Go.Proofs.YtapikjmijmebpaaGreatDoorK.NatIr
