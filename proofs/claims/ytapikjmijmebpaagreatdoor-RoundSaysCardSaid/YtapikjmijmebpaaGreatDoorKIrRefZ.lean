/-
  The compiled bodies, printed: IrRefZ.
-/
import Derived.Test.YtapikjmijmebpaaGreatDoorKAb
import Derived.Test.YtapikjmijmebpaaGreatDoorProg
set_option linter.all false
set_option linter.unusedVariables false
set_option linter.unusedSimpArgs false
set_option maxHeartbeats 4000000
namespace Go.Proofs.YtapikjmijmebpaaGreatDoorK.NatIr
open Go.Proofs.YtapikjmijmebpaaGreatDoorK.AI
def c73 : IR :=
  (.seq (.reg false [⟨(some 4), .new 36 2 [(.bool false), .nils], none⟩] [])
  (.seq (.reg false [⟨(some 5), .mv (.t 0), none⟩, ⟨(some 6), .mv (.t 5), none⟩, ⟨(some 7), .mv (.t 1), (some ((some 6), true))⟩, ⟨(some 8), .lenL (.t 7), (some ((some 6), true))⟩, ⟨(some 9), .bin .gtr (.t 8) (.c (.int .i64 0)), (some ((some 6), true))⟩, ⟨(some 10), .pick (.t 6) (.t 9) (.c (.bool false)), none⟩, ⟨(some 11), .mv (.t 1), none⟩, ⟨(some 12), .build [(.bool false), .nils] [(0, 1, (.t 10)), (1, 1, (.t 11))], none⟩, ⟨none, .store 2 (.t 4) (.t 12), none⟩] [])
  .ret))
theorem ok73 : (Go.Proofs.Tryz.f73.body).bind (comp Go.Proofs.Tryz.prog) = some c73 := by kernel_rfl
def c90 : IR :=
  (.seq (.reg false [⟨(some 2), .box 36 2 (.t 0), none⟩, ⟨(some 3), .box 36 2 (.t 1), none⟩, ⟨(some 4), .new 36 2 [(.bool false), .nils], none⟩] [])
  (.seq (.seq (.reg false [⟨(some 5), .faddr 0 (.t 2), none⟩, ⟨(some 6), .load false 1 (.t 5), none⟩, ⟨(some 7), .faddr 0 (.t 3), none⟩, ⟨(some 8), .load false 1 (.t 7), none⟩, ⟨(some 9), .beq false (.t 6) (.t 8), none⟩] [])
  (.cond (.t 9)
    (.seq (.reg true [⟨(some 10), .faddr 0 (.t 2), none⟩, ⟨(some 11), .load false 1 (.t 10), none⟩, ⟨(some 12), .faddr 1 (.t 2), none⟩, ⟨(some 13), .load false 1 (.t 12), none⟩, ⟨(some 14), .faddr 1 (.t 3), none⟩, ⟨(some 15), .load false 1 (.t 14), none⟩, ⟨(some 16), .call 105 [(.t 13), (.t 15)], none⟩, ⟨(some 17), .call 73 [(.t 11), (.t 16)], none⟩, ⟨none, .store 2 (.t 4) (.t 17), none⟩] [0, 1, 0, 4, 0, 16, 60, 127, 255])
    .ret)
    .skip))
  (.seq (.seq (.reg false [⟨(some 18), .faddr 1 (.t 2), none⟩, ⟨(some 19), .load false 1 (.t 18), none⟩, ⟨(some 20), .faddr 1 (.t 3), none⟩, ⟨(some 21), .load false 1 (.t 20), none⟩, ⟨(some 22), .call 124 [(.t 19), (.t 21)], none⟩, ⟨(some 23), .bin .geq (.t 22) (.c (.int .i64 0)), none⟩] [])
  (.cond (.t 23)
    (.seq (.reg true [⟨(some 24), .faddr 0 (.t 2), none⟩, ⟨(some 25), .load false 1 (.t 24), none⟩, ⟨(some 26), .faddr 1 (.t 2), none⟩, ⟨(some 27), .load false 1 (.t 26), none⟩, ⟨(some 28), .faddr 1 (.t 3), none⟩, ⟨(some 29), .load false 1 (.t 28), none⟩, ⟨(some 30), .call 147 [(.t 27), (.t 29)], none⟩, ⟨(some 31), .call 73 [(.t 25), (.t 30)], none⟩, ⟨none, .store 2 (.t 4) (.t 31), none⟩] [0, 1, 0, 4, 0, 16, 60, 127, 255])
    .ret)
    .skip))
  (.seq (.reg true [⟨(some 32), .faddr 0 (.t 3), none⟩, ⟨(some 33), .load false 1 (.t 32), none⟩, ⟨(some 34), .faddr 1 (.t 3), none⟩, ⟨(some 35), .load false 1 (.t 34), none⟩, ⟨(some 36), .faddr 1 (.t 2), none⟩, ⟨(some 37), .load false 1 (.t 36), none⟩, ⟨(some 38), .call 147 [(.t 35), (.t 37)], none⟩, ⟨(some 39), .call 73 [(.t 33), (.t 38)], none⟩, ⟨none, .store 2 (.t 4) (.t 39), none⟩] [0, 1, 0, 4, 0, 16, 60, 127, 255])
  .ret))))
theorem ok90 : (Go.Proofs.Tryz.f90.body).bind (comp Go.Proofs.Tryz.prog) = some c90 := by kernel_rfl
def c91 : IR :=
  (.seq (.reg false [⟨(some 2), .new 36 2 [(.bool false), .nils], none⟩] [])
  (.seq (.seq (.reg false [⟨(some 3), .mv (.t 0), none⟩, ⟨(some 4), .bin .lss (.t 3) (.c (.int .i64 0)), none⟩] [])
  (.cond (.t 4)
    (.seq (.reg false [⟨(some 5), .mv (.t 0), none⟩, ⟨(some 6), .bin .add (.t 5) (.c (.int .i64 1)), none⟩, ⟨(some 7), .neg (.t 6), none⟩, ⟨(some 8), .conv .u64 (.t 7), none⟩, ⟨(some 9), .call 59 [(.t 8)], none⟩, ⟨(some 10), .call 59 [(.c (.int .u64 1))], none⟩, ⟨(some 11), .call 105 [(.t 9), (.t 10)], none⟩, ⟨(some 12), .build [(.bool false), .nils] [(0, 1, (.c (.bool true))), (1, 1, (.t 11))], none⟩, ⟨none, .store 2 (.t 2) (.t 12), none⟩] [])
    .ret)
    .skip))
  (.seq (.reg false [⟨(some 13), .mv (.t 0), none⟩, ⟨(some 14), .conv .u64 (.t 13), none⟩, ⟨(some 15), .call 59 [(.t 14)], none⟩, ⟨(some 16), .build [(.bool false), .nils] [(0, 1, (.c (.bool false))), (1, 1, (.t 15))], none⟩, ⟨none, .store 2 (.t 2) (.t 16), none⟩] [])
  .ret)))
theorem ok91 : (Go.Proofs.Tryz.f91.body).bind (comp Go.Proofs.Tryz.prog) = some c91 := by kernel_rfl
def c145 : IR :=
  (.seq (.reg false [⟨(some 2), .box 36 2 (.t 0), none⟩, ⟨(some 3), .box 36 2 (.t 1), none⟩, ⟨(some 4), .new 36 2 [(.bool false), .nils], none⟩, ⟨(some 5), .new 36 2 [(.bool false), .nils], none⟩] [])
  (.seq (.reg false [⟨(some 9), .faddr 1 (.t 2), none⟩, ⟨(some 10), .load false 1 (.t 9), none⟩, ⟨(some 11), .faddr 1 (.t 3), none⟩, ⟨(some 12), .load false 1 (.t 11), none⟩, ⟨(some 13), .call 95 [(.t 10), (.t 12)], none⟩, ⟨(some 8), .mv (.t 13), none⟩, ⟨(some 14), .ext (.t 8) 0, none⟩, ⟨(some 15), .ext (.t 8) 1, none⟩, ⟨(some 6), .mv (.t 14), none⟩, ⟨(some 7), .mv (.t 15), none⟩] [])
  (.seq (.seq (.reg false [⟨(some 16), .faddr 0 (.t 2), none⟩, ⟨(some 17), .load false 1 (.t 16), none⟩, ⟨(some 18), .mv (.t 17), none⟩, ⟨(some 19), .mv (.t 7), (some ((some 18), true))⟩, ⟨(some 20), .lenL (.t 19), (some ((some 18), true))⟩, ⟨(some 21), .bin .gtr (.t 20) (.c (.int .i64 0)), (some ((some 18), true))⟩, ⟨(some 22), .pick (.t 18) (.t 21) (.c (.bool false)), none⟩] [])
  (.cond (.t 22)
    (.reg true [⟨(some 23), .mv (.t 6), none⟩, ⟨(some 24), .call 59 [(.c (.int .u64 1))], none⟩, ⟨(some 25), .call 105 [(.t 23), (.t 24)], none⟩, ⟨(some 26), .faddr 1 (.t 3), none⟩, ⟨(some 27), .load false 1 (.t 26), none⟩, ⟨(some 28), .mv (.t 7), none⟩, ⟨(some 29), .call 147 [(.t 27), (.t 28)], none⟩, ⟨(some 6), .mv (.t 25), none⟩, ⟨(some 7), .mv (.t 29), none⟩] [0, 0, 3, 0, 8, 0, 63, 127, 255])
    .skip))
  (.seq (.reg false [⟨(some 30), .faddr 0 (.t 2), none⟩, ⟨(some 31), .load false 1 (.t 30), none⟩, ⟨(some 32), .faddr 0 (.t 3), none⟩, ⟨(some 33), .load false 1 (.t 32), none⟩, ⟨(some 34), .beq true (.t 31) (.t 33), none⟩, ⟨(some 35), .mv (.t 6), none⟩, ⟨(some 36), .call 73 [(.t 34), (.t 35)], none⟩, ⟨(some 37), .mv (.t 7), none⟩, ⟨(some 38), .build [(.bool false), .nils] [(0, 1, (.c (.bool false))), (1, 1, (.t 37))], none⟩, ⟨none, .store 2 (.t 4) (.t 36), none⟩, ⟨none, .store 2 (.t 5) (.t 38), none⟩] [])
  .ret))))
theorem ok145 : (Go.Proofs.Tryz.f145.body).bind (comp Go.Proofs.Tryz.prog) = some c145 := by kernel_rfl
def c148 : IR :=
  (.seq (.reg false [⟨(some 2), .box 36 2 (.t 0), none⟩, ⟨(some 3), .box 36 2 (.t 1), none⟩, ⟨(some 4), .new 36 2 [(.bool false), .nils], none⟩] [])
  (.seq (.reg true [⟨(some 5), .faddr 0 (.t 2), none⟩, ⟨(some 6), .load false 1 (.t 5), none⟩, ⟨(some 7), .faddr 0 (.t 3), none⟩, ⟨(some 8), .load false 1 (.t 7), none⟩, ⟨(some 9), .beq true (.t 6) (.t 8), none⟩, ⟨(some 10), .faddr 1 (.t 2), none⟩, ⟨(some 11), .load false 1 (.t 10), none⟩, ⟨(some 12), .faddr 1 (.t 3), none⟩, ⟨(some 13), .load false 1 (.t 12), none⟩, ⟨(some 14), .call 102 [(.t 11), (.t 13)], none⟩, ⟨(some 15), .call 73 [(.t 9), (.t 14)], none⟩, ⟨none, .store 2 (.t 4) (.t 15), none⟩] [0, 1, 0, 4, 15, 0, 32, 0, 128, 480, 1023, 2047])
  .ret))
theorem ok148 : (Go.Proofs.Tryz.f148.body).bind (comp Go.Proofs.Tryz.prog) = some c148 := by kernel_rfl
def c149 : IR :=
  (.seq (.reg false [⟨(some 1), .box 36 2 (.t 0), none⟩, ⟨(some 2), .new 36 2 [(.bool false), .nils], none⟩] [])
  (.seq (.reg false [⟨(some 3), .faddr 0 (.t 1), none⟩, ⟨(some 4), .load false 1 (.t 3), none⟩, ⟨(some 5), .not (.t 4), none⟩, ⟨(some 6), .faddr 1 (.t 1), none⟩, ⟨(some 7), .load false 1 (.t 6), none⟩, ⟨(some 8), .call 73 [(.t 5), (.t 7)], none⟩, ⟨none, .store 2 (.t 2) (.t 8), none⟩] [])
  .ret))
theorem ok149 : (Go.Proofs.Tryz.f149.body).bind (comp Go.Proofs.Tryz.prog) = some c149 := by kernel_rfl
def c151 : IR :=
  (.seq (.reg false [⟨(some 1), .box 36 2 (.t 0), none⟩, ⟨(some 2), .mv (.c (.int .i64 0)), none⟩] [])
  (.seq (.seq (.reg false [⟨(some 3), .faddr 0 (.t 1), none⟩, ⟨(some 4), .load false 1 (.t 3), none⟩] [])
  (.cond (.t 4)
    (.seq (.reg false [⟨(some 2), .mv (.c (.int .i64 (-1))), none⟩] [])
    .ret)
    .skip))
  (.seq (.seq (.reg false [⟨(some 5), .faddr 1 (.t 1), none⟩, ⟨(some 6), .load false 1 (.t 5), none⟩, ⟨(some 7), .lenL (.t 6), none⟩, ⟨(some 8), .bin .gtr (.t 7) (.c (.int .i64 0)), none⟩] [])
  (.cond (.t 8)
    (.seq (.reg false [⟨(some 2), .mv (.c (.int .i64 1)), none⟩] [])
    .ret)
    .skip))
  (.seq (.reg false [⟨(some 2), .mv (.c (.int .i64 0)), none⟩] [])
  .ret))))
theorem ok151 : (Go.Proofs.Tryz.f151.body).bind (comp Go.Proofs.Tryz.prog) = some c151 := by kernel_rfl
end Go.Proofs.YtapikjmijmebpaaGreatDoorK.NatIr
