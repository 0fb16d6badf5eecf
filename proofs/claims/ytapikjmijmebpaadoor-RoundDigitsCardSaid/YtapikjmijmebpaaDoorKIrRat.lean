/-
  The compiled bodies, printed: IrRat.
-/
import Derived.Test.YtapikjmijmebpaaDoorKAb
import Derived.Test.YtapikjmijmebpaaDoorProg
set_option linter.all false
set_option linter.unusedVariables false
set_option linter.unusedSimpArgs false
set_option maxHeartbeats 4000000
namespace Go.Proofs.YtapikjmijmebpaaDoorK.NatIr
open Go.Proofs.YtapikjmijmebpaaDoorK.AI
/-- cubit/rat.Good -/
def c10 : IR :=
  (.seq (.reg false [⟨(some 1), .box 28 3 (.t 0), none⟩, ⟨(some 2), .mv (.c (.bool false)), none⟩] [])
  (.seq (.reg false [⟨(some 3), .faddr 0 (.t 1), none⟩, ⟨(some 4), .load true 2 (.t 3), none⟩, ⟨(some 5), .call 33 [(.t 4)], none⟩, ⟨(some 6), .mv (.t 5), none⟩, ⟨(some 7), .faddr 2 (.t 1), (some ((some 6), true))⟩, ⟨(some 8), .load true 1 (.t 7), (some ((some 6), true))⟩, ⟨(some 9), .call 34 [(.t 8)], (some ((some 6), true))⟩, ⟨(some 10), .pick (.t 6) (.t 9) (.c (.bool false)), none⟩, ⟨(some 11), .mv (.t 10), none⟩, ⟨(some 12), .faddr 2 (.t 1), (some ((some 11), true))⟩, ⟨(some 13), .load true 1 (.t 12), (some ((some 11), true))⟩, ⟨(some 14), .call 35 [(.t 13)], (some ((some 11), true))⟩, ⟨(some 15), .not (.t 14), (some ((some 11), true))⟩, ⟨(some 16), .pick (.t 11) (.t 15) (.c (.bool false)), none⟩, ⟨(some 17), .mv (.t 16), none⟩, ⟨(some 18), .faddr 0 (.t 1), (some ((some 17), true))⟩, ⟨(some 19), .faddr 1 (.t 18), (some ((some 17), true))⟩, ⟨(some 20), .load true 1 (.t 19), (some ((some 17), true))⟩, ⟨(some 21), .faddr 2 (.t 1), (some ((some 17), true))⟩, ⟨(some 22), .load true 1 (.t 21), (some ((some 17), true))⟩, ⟨(some 23), .call 36 [(.t 20), (.t 22)], (some ((some 17), true))⟩, ⟨(some 24), .call 37 [], (some ((some 17), true))⟩, ⟨(some 25), .call 31 [(.t 23), (.t 24)], (some ((some 17), true))⟩, ⟨(some 26), .bin .eql (.t 25) (.c (.int .i64 0)), (some ((some 17), true))⟩, ⟨(some 27), .pick (.t 17) (.t 26) (.c (.bool false)), none⟩, ⟨(some 2), .mv (.t 27), none⟩] [])
  .ret))
theorem ok10 : (Go.Proofs.Tryd.f10.body).bind (comp Go.Proofs.Tryd.prog) = some c10 := by kernel_rfl
/-- cubit/rat.Sign -/
def c11 : IR :=
  (.seq (.reg false [⟨(some 1), .box 28 3 (.t 0), none⟩, ⟨(some 2), .mv (.c (.int .i64 0)), none⟩] [])
  (.seq (.reg false [⟨(some 3), .load true 3 (.t 1), none⟩, ⟨(some 4), .call 39 [(.t 3)], none⟩, ⟨(some 5), .fld true 0 2 (.t 4), none⟩, ⟨(some 6), .call 38 [(.t 5)], none⟩, ⟨(some 2), .mv (.t 6), none⟩] [])
  .ret))
theorem ok11 : (Go.Proofs.Tryd.f11.body).bind (comp Go.Proofs.Tryd.prog) = some c11 := by kernel_rfl
/-- cubit/rat.Of -/
def c16 : IR :=
  (.seq (.reg false [⟨(some 2), .box 26 2 (.t 0), none⟩, ⟨(some 3), .box 24 1 (.t 1), none⟩, ⟨(some 4), .new 28 3 [(.bool false), .nils, .nils], none⟩, ⟨(some 5), .mv (.c (.bool false)), none⟩] [])
  (.seq (.seq (.reg false [⟨(some 13), .load true 1 (.t 3), none⟩, ⟨(some 14), .call 35 [(.t 13)], none⟩] [])
  (.cond (.t 14)
    (.seq (.reg false [⟨(some 15), .call 57 [], none⟩, ⟨none, .store 3 (.t 4) (.t 15), none⟩, ⟨(some 5), .mv (.c (.bool false)), none⟩] [])
    .ret)
    .skip))
  (.seq (.reg false [⟨(some 16), .faddr 1 (.t 2), none⟩, ⟨(some 17), .load true 1 (.t 16), none⟩, ⟨(some 18), .load true 1 (.t 3), none⟩, ⟨(some 19), .call 36 [(.t 17), (.t 18)], none⟩, ⟨(some 6), .new 24 1 [.nils], none⟩, ⟨none, .store 1 (.t 6) (.t 19), none⟩] [])
  (.seq (.reg false [⟨(some 21), .faddr 1 (.t 2), none⟩, ⟨(some 22), .load true 1 (.t 21), none⟩, ⟨(some 23), .load true 1 (.t 6), none⟩, ⟨(some 24), .call 30 [(.t 22), (.t 23)], none⟩, ⟨(some 20), .mv (.t 24), none⟩, ⟨(some 25), .ext (.t 20) 0, none⟩, ⟨(some 26), .ext (.t 20) 1, none⟩, ⟨(some 27), .ext (.t 20) 2, none⟩, ⟨(some 7), .new 24 1 [.nils], none⟩, ⟨(some 8), .new 24 1 [.nils], none⟩, ⟨none, .store 1 (.t 7) (.t 25), none⟩, ⟨none, .store 1 (.t 8) (.t 26), none⟩, ⟨(some 9), .mv (.t 27), none⟩] [])
  (.seq (.reg false [⟨(some 29), .load true 1 (.t 3), none⟩, ⟨(some 30), .load true 1 (.t 6), none⟩, ⟨(some 31), .call 30 [(.t 29), (.t 30)], none⟩, ⟨(some 28), .mv (.t 31), none⟩, ⟨(some 32), .ext (.t 28) 0, none⟩, ⟨(some 33), .ext (.t 28) 1, none⟩, ⟨(some 34), .ext (.t 28) 2, none⟩, ⟨(some 10), .new 24 1 [.nils], none⟩, ⟨(some 11), .new 24 1 [.nils], none⟩, ⟨none, .store 1 (.t 10) (.t 32), none⟩, ⟨none, .store 1 (.t 11) (.t 33), none⟩, ⟨(some 12), .mv (.t 34), none⟩] [])
  (.seq (.reg true [⟨(some 35), .faddr 0 (.t 2), none⟩, ⟨(some 36), .load false 1 (.t 35), none⟩, ⟨(some 37), .mv (.t 36), none⟩, ⟨(some 38), .load true 1 (.t 7), (some ((some 37), true))⟩, ⟨(some 39), .call 35 [(.t 38)], (some ((some 37), true))⟩, ⟨(some 40), .not (.t 39), (some ((some 37), true))⟩, ⟨(some 41), .pick (.t 37) (.t 40) (.c (.bool false)), none⟩, ⟨(some 42), .load true 1 (.t 7), none⟩, ⟨(some 43), .build [(.bool false), .nils] [(0, 1, (.t 41)), (1, 1, (.t 42))], none⟩, ⟨(some 44), .load true 1 (.t 10), none⟩, ⟨(some 45), .build [(.bool false), .nils, .nils] [(0, 2, (.t 43)), (2, 1, (.t 44))], none⟩, ⟨none, .store 3 (.t 4) (.t 45), none⟩, ⟨(some 5), .mv (.c (.bool true)), none⟩] [0, 1, 3, 7, 15, 31, 63, 0, 255, 0, 1023, 2047, 4095])
  .ret))))))
theorem ok16 : (Go.Proofs.Tryd.f16.body).bind (comp Go.Proofs.Tryd.prog) = some c16 := by kernel_rfl
/-- cubit/rat.Cmp -/
def c18 : IR :=
  (.seq (.reg false [⟨(some 2), .box 28 3 (.t 0), none⟩, ⟨(some 3), .box 28 3 (.t 1), none⟩, ⟨(some 4), .mv (.c (.int .i64 0)), none⟩] [])
  (.seq (.reg true [⟨(some 5), .load true 3 (.t 2), none⟩, ⟨(some 6), .load true 3 (.t 3), none⟩, ⟨(some 7), .call 26 [(.t 6)], none⟩, ⟨(some 8), .call 24 [(.t 5), (.t 7)], none⟩, ⟨(some 9), .call 11 [(.t 8)], none⟩, ⟨(some 4), .mv (.t 9), none⟩] [0, 0, 2, 7, 15, 31])
  .ret))
theorem ok18 : (Go.Proofs.Tryd.f18.body).bind (comp Go.Proofs.Tryd.prog) = some c18 := by kernel_rfl
/-- cubit/rat.Floor -/
def c20 : IR :=
  (.seq (.reg false [⟨(some 1), .box 28 3 (.t 0), none⟩, ⟨(some 2), .new 26 2 [(.bool false), .nils], none⟩] [])
  (.seq (.reg false [⟨(some 6), .load true 3 (.t 1), none⟩, ⟨(some 7), .call 39 [(.t 6)], none⟩, ⟨none, .store 3 (.t 1) (.t 7), none⟩] [])
  (.seq (.reg false [⟨(some 9), .faddr 0 (.t 1), none⟩, ⟨(some 10), .load true 2 (.t 9), none⟩, ⟨(some 11), .faddr 2 (.t 1), none⟩, ⟨(some 12), .load true 1 (.t 11), none⟩, ⟨(some 13), .build [(.bool false), .nils] [(1, 1, (.t 12))], none⟩, ⟨(some 14), .call 47 [(.t 10), (.t 13)], none⟩, ⟨(some 8), .mv (.t 14), none⟩, ⟨(some 15), .ext (.t 8) 0, none⟩, ⟨(some 16), .ext (.t 8) 1, none⟩, ⟨(some 17), .ext (.t 8) 2, none⟩, ⟨(some 3), .new 26 2 [(.bool false), .nils], none⟩, ⟨(some 4), .new 26 2 [(.bool false), .nils], none⟩, ⟨none, .store 2 (.t 3) (.t 15), none⟩, ⟨none, .store 2 (.t 4) (.t 16), none⟩, ⟨(some 5), .mv (.t 17), none⟩] [])
  (.seq (.reg false [⟨(some 18), .load true 2 (.t 3), none⟩, ⟨none, .store 2 (.t 2) (.t 18), none⟩] [])
  .ret))))
theorem ok20 : (Go.Proofs.Tryd.f20.body).bind (comp Go.Proofs.Tryd.prog) = some c20 := by kernel_rfl
/-- cubit/rat.Pow -/
def c22 : IR :=
  (.seq (.reg false [⟨(some 2), .box 28 3 (.t 0), none⟩, ⟨(some 4), .new 28 3 [(.bool false), .nils, .nils], none⟩, ⟨(some 5), .mv (.c (.bool false)), none⟩] [])
  (.seq (.reg false [⟨(some 10), .load true 3 (.t 2), none⟩, ⟨(some 11), .call 39 [(.t 10)], none⟩, ⟨none, .store 3 (.t 2) (.t 11), none⟩] [])
  (.seq (.seq (.reg false [⟨(some 12), .mv (.t 1), none⟩, ⟨(some 13), .bin .lss (.t 12) (.c (.int .i64 0)), none⟩] [])
  (.cond (.t 13)
    (.seq (.reg false [⟨(some 15), .load true 3 (.t 2), none⟩, ⟨(some 16), .call 44 [(.t 15)], none⟩, ⟨(some 14), .mv (.t 16), none⟩, ⟨(some 17), .ext (.t 14) 0, none⟩, ⟨(some 18), .ext (.t 14) 1, none⟩, ⟨(some 6), .new 28 3 [(.bool false), .nils, .nils], none⟩, ⟨none, .store 3 (.t 6) (.t 17), none⟩, ⟨(some 7), .mv (.t 18), none⟩] [])
    (.seq (.seq (.reg false [⟨(some 19), .mv (.t 7), none⟩, ⟨(some 20), .not (.t 19), none⟩] [])
    (.cond (.t 20)
      (.seq (.reg false [⟨(some 21), .call 57 [], none⟩, ⟨none, .store 3 (.t 4) (.t 21), none⟩, ⟨(some 5), .mv (.c (.bool false)), none⟩] [])
      .ret)
      .skip))
    (.seq (.reg false [⟨(some 23), .load true 3 (.t 6), none⟩, ⟨(some 24), .mv (.t 1), none⟩, ⟨(some 25), .bin .add (.t 24) (.c (.int .i64 1)), none⟩, ⟨(some 26), .neg (.t 25), none⟩, ⟨(some 27), .call 22 [(.t 23), (.t 26)], none⟩, ⟨(some 22), .mv (.t 27), none⟩, ⟨(some 28), .ext (.t 22) 0, none⟩, ⟨(some 29), .ext (.t 22) 1, none⟩, ⟨(some 8), .new 28 3 [(.bool false), .nils, .nils], none⟩, ⟨none, .store 3 (.t 8) (.t 28), none⟩, ⟨(some 9), .mv (.t 29), none⟩] [])
    (.seq (.reg false [⟨(some 30), .load true 3 (.t 6), none⟩, ⟨(some 31), .load true 3 (.t 8), none⟩, ⟨(some 32), .call 43 [(.t 30), (.t 31)], none⟩, ⟨none, .store 3 (.t 4) (.t 32), none⟩, ⟨(some 5), .mv (.c (.bool true)), none⟩] [])
    .ret))))
    .skip))
  (.seq (.reg true [⟨(some 33), .faddr 0 (.t 2), none⟩, ⟨(some 34), .faddr 0 (.t 33), none⟩, ⟨(some 35), .load false 1 (.t 34), none⟩, ⟨(some 36), .mv (.t 35), none⟩, ⟨(some 37), .mv (.t 1), (some ((some 36), true))⟩, ⟨(some 38), .bin .rem (.t 37) (.c (.int .i64 2)), (some ((some 36), true))⟩, ⟨(some 39), .bin .eql (.t 38) (.c (.int .i64 1)), (some ((some 36), true))⟩, ⟨(some 40), .pick (.t 36) (.t 39) (.c (.bool false)), none⟩, ⟨(some 41), .faddr 0 (.t 2), none⟩, ⟨(some 42), .faddr 1 (.t 41), none⟩, ⟨(some 43), .load true 1 (.t 42), none⟩, ⟨(some 44), .mv (.t 1), none⟩, ⟨(some 45), .call 59 [(.t 43), (.t 44)], none⟩, ⟨(some 46), .build [(.bool false), .nils] [(0, 1, (.t 40)), (1, 1, (.t 45))], none⟩, ⟨(some 47), .faddr 2 (.t 2), none⟩, ⟨(some 48), .load true 1 (.t 47), none⟩, ⟨(some 49), .mv (.t 1), none⟩, ⟨(some 50), .call 59 [(.t 48), (.t 49)], none⟩, ⟨(some 51), .build [(.bool false), .nils, .nils] [(0, 2, (.t 46)), (2, 1, (.t 50))], none⟩, ⟨none, .store 3 (.t 4) (.t 51), none⟩, ⟨(some 5), .mv (.c (.bool true)), none⟩] [0, 1, 3, 7, 15, 31, 63, 127, 0, 256, 768, 0, 3855, 8191, 0, 16384, 0, 122639, 262143, 524287, 1048575])
  .ret))))
theorem ok22 : (Go.Proofs.Tryd.f22.body).bind (comp Go.Proofs.Tryd.prog) = some c22 := by kernel_rfl
/-- cubit/rat.Add -/
def c24 : IR :=
  (.seq (.reg false [⟨(some 2), .box 28 3 (.t 0), none⟩, ⟨(some 3), .box 28 3 (.t 1), none⟩, ⟨(some 4), .new 28 3 [(.bool false), .nils, .nils], none⟩] [])
  (.seq (.reg true [⟨(some 5), .load true 3 (.t 2), none⟩, ⟨(some 6), .call 39 [(.t 5)], none⟩, ⟨(some 7), .load true 3 (.t 3), none⟩, ⟨(some 8), .call 39 [(.t 7)], none⟩, ⟨none, .store 3 (.t 2) (.t 6), none⟩, ⟨none, .store 3 (.t 3) (.t 8), none⟩] [0, 1, 0, 7, 15, 31])
  (.seq (.reg true [⟨(some 9), .faddr 0 (.t 2), none⟩, ⟨(some 10), .load true 2 (.t 9), none⟩, ⟨(some 11), .faddr 2 (.t 3), none⟩, ⟨(some 12), .load true 1 (.t 11), none⟩, ⟨(some 13), .call 60 [(.t 10), (.t 12)], none⟩, ⟨(some 14), .faddr 0 (.t 3), none⟩, ⟨(some 15), .load true 2 (.t 14), none⟩, ⟨(some 16), .faddr 2 (.t 2), none⟩, ⟨(some 17), .load true 1 (.t 16), none⟩, ⟨(some 18), .call 60 [(.t 15), (.t 17)], none⟩, ⟨(some 19), .call 56 [(.t 13), (.t 18)], none⟩, ⟨(some 20), .faddr 2 (.t 2), none⟩, ⟨(some 21), .load true 1 (.t 20), none⟩, ⟨(some 22), .faddr 2 (.t 3), none⟩, ⟨(some 23), .load true 1 (.t 22), none⟩, ⟨(some 24), .call 61 [(.t 21), (.t 23)], none⟩, ⟨(some 25), .build [(.bool false), .nils, .nils] [(0, 2, (.t 19)), (2, 1, (.t 24))], none⟩, ⟨(some 26), .call 39 [(.t 25)], none⟩, ⟨none, .store 3 (.t 4) (.t 26), none⟩] [0, 1, 0, 4, 15, 0, 32, 0, 128, 511, 1023, 0, 2048, 0, 8192, 32767, 65535, 131071, 262143])
  .ret)))
theorem ok24 : (Go.Proofs.Tryd.f24.body).bind (comp Go.Proofs.Tryd.prog) = some c24 := by kernel_rfl
/-- cubit/rat.Neg -/
def c26 : IR :=
  (.seq (.reg false [⟨(some 1), .box 28 3 (.t 0), none⟩, ⟨(some 2), .new 28 3 [(.bool false), .nils, .nils], none⟩] [])
  (.seq (.reg false [⟨(some 3), .load true 3 (.t 1), none⟩, ⟨(some 4), .call 39 [(.t 3)], none⟩, ⟨none, .store 3 (.t 1) (.t 4), none⟩] [])
  (.seq (.reg true [⟨(some 5), .faddr 0 (.t 1), none⟩, ⟨(some 6), .load true 2 (.t 5), none⟩, ⟨(some 7), .call 58 [(.t 6)], none⟩, ⟨(some 8), .faddr 2 (.t 1), none⟩, ⟨(some 9), .load true 1 (.t 8), none⟩, ⟨(some 10), .build [(.bool false), .nils, .nils] [(0, 2, (.t 7)), (2, 1, (.t 9))], none⟩, ⟨none, .store 3 (.t 2) (.t 10), none⟩] [0, 1, 3, 0, 8, 31, 63])
  .ret)))
theorem ok26 : (Go.Proofs.Tryd.f26.body).bind (comp Go.Proofs.Tryd.prog) = some c26 := by kernel_rfl
/-- cubit/rat.zero -/
def c35 : IR :=
  (.seq (.reg false [⟨(some 1), .box 24 1 (.t 0), none⟩, ⟨(some 2), .mv (.c (.bool false)), none⟩] [])
  (.seq (.reg false [⟨(some 3), .load true 1 (.t 1), none⟩, ⟨(some 4), .build [.nils] [], none⟩, ⟨(some 5), .call 31 [(.t 3), (.t 4)], none⟩, ⟨(some 6), .bin .eql (.t 5) (.c (.int .i64 0)), none⟩, ⟨(some 2), .mv (.t 6), none⟩] [])
  .ret))
theorem ok35 : (Go.Proofs.Tryd.f35.body).bind (comp Go.Proofs.Tryd.prog) = some c35 := by kernel_rfl
/-- cubit/rat.one -/
def c37 : IR :=
  (.seq (.reg false [⟨(some 0), .new 24 1 [.nils], none⟩] [])
  (.seq (.reg false [⟨(some 1), .call 17 [(.c (.int .u64 1))], none⟩, ⟨none, .store 1 (.t 0) (.t 1), none⟩] [])
  .ret))
theorem ok37 : (Go.Proofs.Tryd.f37.body).bind (comp Go.Proofs.Tryd.prog) = some c37 := by kernel_rfl
/-- cubit/rat.plain -/
def c39 : IR :=
  (.seq (.reg false [⟨(some 1), .box 28 3 (.t 0), none⟩, ⟨(some 2), .new 28 3 [(.bool false), .nils, .nils], none⟩] [])
  (.seq (.reg false [⟨(some 6), .faddr 0 (.t 1), none⟩, ⟨(some 7), .load true 2 (.t 6), none⟩, ⟨(some 8), .faddr 2 (.t 1), none⟩, ⟨(some 9), .load true 1 (.t 8), none⟩, ⟨(some 10), .call 16 [(.t 7), (.t 9)], none⟩, ⟨(some 5), .mv (.t 10), none⟩, ⟨(some 11), .ext (.t 5) 0, none⟩, ⟨(some 12), .ext (.t 5) 1, none⟩, ⟨(some 3), .new 28 3 [(.bool false), .nils, .nils], none⟩, ⟨none, .store 3 (.t 3) (.t 11), none⟩, ⟨(some 4), .mv (.t 12), none⟩] [])
  (.seq (.reg false [⟨(some 13), .load true 3 (.t 3), none⟩, ⟨none, .store 3 (.t 2) (.t 13), none⟩] [])
  .ret)))
theorem ok39 : (Go.Proofs.Tryd.f39.body).bind (comp Go.Proofs.Tryd.prog) = some c39 := by kernel_rfl
/-- cubit/rat.Int -/
def c40 : IR :=
  (.seq (.reg false [⟨(some 2), .new 28 3 [(.bool false), .nils, .nils], none⟩] [])
  (.seq (.reg false [⟨(some 3), .mv (.t 0), none⟩, ⟨(some 4), .call 48 [(.t 3)], none⟩, ⟨(some 5), .call 37 [], none⟩, ⟨(some 6), .build [(.bool false), .nils, .nils] [(0, 2, (.t 4)), (2, 1, (.t 5))], none⟩, ⟨none, .store 3 (.t 2) (.t 6), none⟩] [])
  .ret))
theorem ok40 : (Go.Proofs.Tryd.f40.body).bind (comp Go.Proofs.Tryd.prog) = some c40 := by kernel_rfl
/-- cubit/rat.Mul -/
def c43 : IR :=
  (.seq (.reg false [⟨(some 2), .box 28 3 (.t 0), none⟩, ⟨(some 3), .box 28 3 (.t 1), none⟩, ⟨(some 4), .new 28 3 [(.bool false), .nils, .nils], none⟩] [])
  (.seq (.reg true [⟨(some 5), .load true 3 (.t 2), none⟩, ⟨(some 6), .call 39 [(.t 5)], none⟩, ⟨(some 7), .load true 3 (.t 3), none⟩, ⟨(some 8), .call 39 [(.t 7)], none⟩, ⟨none, .store 3 (.t 2) (.t 6), none⟩, ⟨none, .store 3 (.t 3) (.t 8), none⟩] [0, 1, 0, 7, 15, 31])
  (.seq (.reg true [⟨(some 9), .faddr 0 (.t 2), none⟩, ⟨(some 10), .load true 2 (.t 9), none⟩, ⟨(some 11), .faddr 0 (.t 3), none⟩, ⟨(some 12), .load true 2 (.t 11), none⟩, ⟨(some 13), .call 46 [(.t 10), (.t 12)], none⟩, ⟨(some 14), .faddr 2 (.t 2), none⟩, ⟨(some 15), .load true 1 (.t 14), none⟩, ⟨(some 16), .faddr 2 (.t 3), none⟩, ⟨(some 17), .load true 1 (.t 16), none⟩, ⟨(some 18), .call 61 [(.t 15), (.t 17)], none⟩, ⟨(some 19), .build [(.bool false), .nils, .nils] [(0, 2, (.t 13)), (2, 1, (.t 18))], none⟩, ⟨(some 20), .call 39 [(.t 19)], none⟩, ⟨none, .store 3 (.t 4) (.t 20), none⟩] [0, 1, 0, 4, 15, 0, 32, 0, 128, 511, 1023, 2047, 4095])
  .ret)))
theorem ok43 : (Go.Proofs.Tryd.f43.body).bind (comp Go.Proofs.Tryd.prog) = some c43 := by kernel_rfl
/-- cubit/rat.Inv -/
def c44 : IR :=
  (.seq (.reg false [⟨(some 1), .box 28 3 (.t 0), none⟩, ⟨(some 2), .new 28 3 [(.bool false), .nils, .nils], none⟩, ⟨(some 3), .mv (.c (.bool false)), none⟩] [])
  (.seq (.reg false [⟨(some 4), .load true 3 (.t 1), none⟩, ⟨(some 5), .call 39 [(.t 4)], none⟩, ⟨none, .store 3 (.t 1) (.t 5), none⟩] [])
  (.seq (.reg false [⟨(some 6), .faddr 0 (.t 1), none⟩, ⟨(some 7), .faddr 0 (.t 6), none⟩, ⟨(some 8), .load false 1 (.t 7), none⟩, ⟨(some 9), .faddr 2 (.t 1), none⟩, ⟨(some 10), .load true 1 (.t 9), none⟩, ⟨(some 11), .build [(.bool false), .nils] [(0, 1, (.t 8)), (1, 1, (.t 10))], none⟩, ⟨(some 12), .faddr 0 (.t 1), none⟩, ⟨(some 13), .faddr 1 (.t 12), none⟩, ⟨(some 14), .load true 1 (.t 13), none⟩, ⟨(some 15), .call 16 [(.t 11), (.t 14)], none⟩, ⟨(some 16), .ext (.t 15) 0, none⟩, ⟨(some 17), .ext (.t 15) 1, none⟩, ⟨none, .store 3 (.t 2) (.t 16), none⟩, ⟨(some 3), .mv (.t 17), none⟩] [])
  .ret)))
theorem ok44 : (Go.Proofs.Tryd.f44.body).bind (comp Go.Proofs.Tryd.prog) = some c44 := by kernel_rfl
/-- cubit/rat.none -/
def c57 : IR :=
  (.seq (.reg false [⟨(some 0), .new 28 3 [(.bool false), .nils, .nils], none⟩] [])
  (.seq (.reg false [⟨(some 1), .call 37 [], none⟩, ⟨(some 2), .build [(.bool false), .nils, .nils] [(2, 1, (.t 1))], none⟩, ⟨none, .store 3 (.t 0) (.t 2), none⟩] [])
  .ret))
theorem ok57 : (Go.Proofs.Tryd.f57.body).bind (comp Go.Proofs.Tryd.prog) = some c57 := by kernel_rfl
/-- cubit/rat.times -/
def c60 : IR :=
  (.seq (.reg false [⟨(some 2), .box 26 2 (.t 0), none⟩, ⟨(some 3), .box 24 1 (.t 1), none⟩, ⟨(some 4), .new 26 2 [(.bool false), .nils], none⟩] [])
  (.seq (.reg false [⟨(some 5), .load true 2 (.t 2), none⟩, ⟨(some 6), .load true 1 (.t 3), none⟩, ⟨(some 7), .build [(.bool false), .nils] [(1, 1, (.t 6))], none⟩, ⟨(some 8), .call 46 [(.t 5), (.t 7)], none⟩, ⟨none, .store 2 (.t 4) (.t 8), none⟩] [])
  .ret))
theorem ok60 : (Go.Proofs.Tryd.f60.body).bind (comp Go.Proofs.Tryd.prog) = some c60 := by kernel_rfl
end Go.Proofs.YtapikjmijmebpaaDoorK.NatIr
