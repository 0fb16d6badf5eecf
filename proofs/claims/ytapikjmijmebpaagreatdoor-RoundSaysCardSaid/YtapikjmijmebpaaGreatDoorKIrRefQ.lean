/-
  The compiled bodies, printed: IrRefQ.
-/
import Derived.Test.YtapikjmijmebpaaGreatDoorKAb
import Derived.Test.YtapikjmijmebpaaGreatDoorProg
set_option linter.all false
set_option linter.unusedVariables false
set_option linter.unusedSimpArgs false
set_option maxHeartbeats 4000000
namespace Go.Proofs.YtapikjmijmebpaaGreatDoorK.NatIr
open Go.Proofs.YtapikjmijmebpaaGreatDoorK.AI
def c71 : IR :=
  (.seq (.reg false [⟨(some 2), .new 38 3 [(.bool false), .nils, .nils], none⟩] [])
  (.seq (.reg false [⟨(some 3), .mv (.t 0), none⟩, ⟨(some 4), .call 91 [(.t 3)], none⟩, ⟨(some 5), .call 59 [(.c (.int .u64 1))], none⟩, ⟨(some 6), .build [(.bool false), .nils, .nils] [(0, 2, (.t 4)), (2, 1, (.t 5))], none⟩, ⟨none, .store 3 (.t 2) (.t 6), none⟩] [])
  .ret))
theorem ok71 : (Go.Proofs.Tryz.f71.body).bind (comp Go.Proofs.Tryz.prog) = some c71 := by kernel_rfl
def c72 : IR :=
  (.seq (.reg false [⟨(some 2), .box 36 2 (.t 0), none⟩, ⟨(some 4), .new 38 3 [(.bool false), .nils, .nils], none⟩] [])
  (.seq (.reg false [⟨(some 10), .faddr 1 (.t 2), none⟩, ⟨(some 11), .load false 1 (.t 10), none⟩, ⟨(some 12), .mv (.t 1), none⟩, ⟨(some 13), .call 135 [(.t 11), (.t 12)], none⟩, ⟨(some 5), .mv (.t 13), none⟩] [])
  (.seq (.reg false [⟨(some 15), .faddr 1 (.t 2), none⟩, ⟨(some 16), .load false 1 (.t 15), none⟩, ⟨(some 17), .mv (.t 5), none⟩, ⟨(some 18), .call 95 [(.t 16), (.t 17)], none⟩, ⟨(some 14), .mv (.t 18), none⟩, ⟨(some 19), .ext (.t 14) 0, none⟩, ⟨(some 20), .ext (.t 14) 1, none⟩, ⟨(some 6), .mv (.t 19), none⟩, ⟨(some 7), .mv (.t 20), none⟩] [])
  (.seq (.reg false [⟨(some 22), .mv (.t 1), none⟩, ⟨(some 23), .mv (.t 5), none⟩, ⟨(some 24), .call 95 [(.t 22), (.t 23)], none⟩, ⟨(some 21), .mv (.t 24), none⟩, ⟨(some 25), .ext (.t 21) 0, none⟩, ⟨(some 26), .ext (.t 21) 1, none⟩, ⟨(some 8), .mv (.t 25), none⟩, ⟨(some 9), .mv (.t 26), none⟩] [])
  (.seq (.reg false [⟨(some 27), .faddr 0 (.t 2), none⟩, ⟨(some 28), .load false 1 (.t 27), none⟩, ⟨(some 29), .mv (.t 6), none⟩, ⟨(some 30), .call 73 [(.t 28), (.t 29)], none⟩, ⟨(some 31), .mv (.t 8), none⟩, ⟨(some 32), .build [(.bool false), .nils, .nils] [(0, 2, (.t 30)), (2, 1, (.t 31))], none⟩, ⟨none, .store 3 (.t 4) (.t 32), none⟩] [])
  .ret)))))
theorem ok72 : (Go.Proofs.Tryz.f72.body).bind (comp Go.Proofs.Tryz.prog) = some c72 := by kernel_rfl
def c88 : IR :=
  (.seq (.reg false [⟨(some 1), .box 38 3 (.t 0), none⟩, ⟨(some 2), .new 36 2 [(.bool false), .nils], none⟩] [])
  (.seq (.reg false [⟨(some 6), .faddr 0 (.t 1), none⟩, ⟨(some 7), .load true 2 (.t 6), none⟩, ⟨(some 8), .faddr 2 (.t 1), none⟩, ⟨(some 9), .load false 1 (.t 8), none⟩, ⟨(some 10), .build [(.bool false), .nils] [(0, 1, (.c (.bool false))), (1, 1, (.t 9))], none⟩, ⟨(some 11), .call 145 [(.t 7), (.t 10)], none⟩, ⟨(some 5), .mv (.t 11), none⟩, ⟨(some 12), .ext (.t 5) 0, none⟩, ⟨(some 13), .ext (.t 5) 1, none⟩, ⟨(some 3), .new 36 2 [(.bool false), .nils], none⟩, ⟨(some 4), .new 36 2 [(.bool false), .nils], none⟩, ⟨none, .store 2 (.t 3) (.t 12), none⟩, ⟨none, .store 2 (.t 4) (.t 13), none⟩] [])
  (.seq (.reg false [⟨(some 14), .load true 2 (.t 3), none⟩, ⟨none, .store 2 (.t 2) (.t 14), none⟩] [])
  .ret)))
theorem ok88 : (Go.Proofs.Tryz.f88.body).bind (comp Go.Proofs.Tryz.prog) = some c88 := by kernel_rfl
def c92 : IR :=
  (.seq (.reg false [⟨(some 2), .box 38 3 (.t 0), none⟩, ⟨(some 3), .box 38 3 (.t 1), none⟩, ⟨(some 4), .mv (.c (.int .i64 0)), none⟩] [])
  (.seq (.reg true [⟨(some 5), .load true 3 (.t 2), none⟩, ⟨(some 6), .load true 3 (.t 3), none⟩, ⟨(some 7), .call 94 [(.t 6)], none⟩, ⟨(some 8), .call 93 [(.t 5), (.t 7)], none⟩, ⟨(some 9), .call 97 [(.t 8)], none⟩, ⟨(some 4), .mv (.t 9), none⟩] [0, 0, 2, 7, 15, 31])
  .ret))
theorem ok92 : (Go.Proofs.Tryz.f92.body).bind (comp Go.Proofs.Tryz.prog) = some c92 := by kernel_rfl
def c93 : IR :=
  (.seq (.reg false [⟨(some 2), .box 38 3 (.t 0), none⟩, ⟨(some 3), .box 38 3 (.t 1), none⟩, ⟨(some 4), .new 38 3 [(.bool false), .nils, .nils], none⟩] [])
  (.seq (.reg true [⟨(some 5), .faddr 0 (.t 2), none⟩, ⟨(some 6), .load true 2 (.t 5), none⟩, ⟨(some 7), .faddr 2 (.t 3), none⟩, ⟨(some 8), .load false 1 (.t 7), none⟩, ⟨(some 9), .build [(.bool false), .nils] [(0, 1, (.c (.bool false))), (1, 1, (.t 8))], none⟩, ⟨(some 10), .call 148 [(.t 6), (.t 9)], none⟩, ⟨(some 11), .faddr 0 (.t 3), none⟩, ⟨(some 12), .load true 2 (.t 11), none⟩, ⟨(some 13), .faddr 2 (.t 2), none⟩, ⟨(some 14), .load false 1 (.t 13), none⟩, ⟨(some 15), .build [(.bool false), .nils] [(0, 1, (.c (.bool false))), (1, 1, (.t 14))], none⟩, ⟨(some 16), .call 148 [(.t 12), (.t 15)], none⟩, ⟨(some 17), .call 90 [(.t 10), (.t 16)], none⟩, ⟨(some 18), .faddr 2 (.t 2), none⟩, ⟨(some 19), .load false 1 (.t 18), none⟩, ⟨(some 20), .faddr 2 (.t 3), none⟩, ⟨(some 21), .load false 1 (.t 20), none⟩, ⟨(some 22), .call 102 [(.t 19), (.t 21)], none⟩, ⟨(some 23), .call 72 [(.t 17), (.t 22)], none⟩, ⟨none, .store 3 (.t 4) (.t 23), none⟩] [0, 1, 0, 4, 12, 31, 0, 64, 0, 256, 768, 2047, 4095, 0, 8192, 0, 32768, 131071, 262143, 524287])
  .ret))
theorem ok93 : (Go.Proofs.Tryz.f93.body).bind (comp Go.Proofs.Tryz.prog) = some c93 := by kernel_rfl
def c94 : IR :=
  (.seq (.reg false [⟨(some 1), .box 38 3 (.t 0), none⟩, ⟨(some 2), .new 38 3 [(.bool false), .nils, .nils], none⟩] [])
  (.seq (.reg true [⟨(some 3), .faddr 0 (.t 1), none⟩, ⟨(some 4), .load true 2 (.t 3), none⟩, ⟨(some 5), .call 149 [(.t 4)], none⟩, ⟨(some 6), .faddr 2 (.t 1), none⟩, ⟨(some 7), .load false 1 (.t 6), none⟩, ⟨(some 8), .build [(.bool false), .nils, .nils] [(0, 2, (.t 5)), (2, 1, (.t 7))], none⟩, ⟨none, .store 3 (.t 2) (.t 8), none⟩] [0, 1, 3, 0, 8, 31, 63])
  .ret))
theorem ok94 : (Go.Proofs.Tryz.f94.body).bind (comp Go.Proofs.Tryz.prog) = some c94 := by kernel_rfl
def c97 : IR :=
  (.seq (.reg false [⟨(some 1), .box 38 3 (.t 0), none⟩, ⟨(some 2), .mv (.c (.int .i64 0)), none⟩] [])
  (.seq (.reg false [⟨(some 3), .faddr 0 (.t 1), none⟩, ⟨(some 4), .load true 2 (.t 3), none⟩, ⟨(some 5), .call 151 [(.t 4)], none⟩, ⟨(some 2), .mv (.t 5), none⟩] [])
  .ret))
theorem ok97 : (Go.Proofs.Tryz.f97.body).bind (comp Go.Proofs.Tryz.prog) = some c97 := by kernel_rfl
def c98 : IR :=
  (.seq (.reg false [⟨(some 2), .box 38 3 (.t 0), none⟩, ⟨(some 4), .new 38 3 [(.bool false), .nils, .nils], none⟩, ⟨(some 5), .mv (.c (.bool false)), none⟩] [])
  (.seq (.seq (.reg false [⟨(some 8), .mv (.t 1), none⟩, ⟨(some 9), .bin .lss (.t 8) (.c (.int .i64 0)), none⟩] [])
  (.cond (.t 9)
    (.seq (.seq (.reg false [⟨(some 10), .load true 3 (.t 2), none⟩, ⟨(some 11), .call 97 [(.t 10)], none⟩, ⟨(some 12), .bin .eql (.t 11) (.c (.int .i64 0)), none⟩] [])
    (.cond (.t 12)
      (.seq (.reg false [⟨(some 13), .call 71 [(.c (.int .i64 0))], none⟩, ⟨none, .store 3 (.t 4) (.t 13), none⟩, ⟨(some 5), .mv (.c (.bool false)), none⟩] [])
      .ret)
      .skip))
    (.reg false [⟨(some 14), .load true 3 (.t 2), none⟩, ⟨(some 15), .call 101 [(.t 14)], none⟩, ⟨(some 16), .mv (.t 1), none⟩, ⟨(some 17), .neg (.t 16), none⟩, ⟨none, .store 3 (.t 2) (.t 15), none⟩, ⟨(some 1), .mv (.t 17), none⟩] []))
    .skip))
  (.seq (.reg false [⟨(some 18), .call 71 [(.c (.int .i64 1))], none⟩, ⟨(some 6), .new 38 3 [(.bool false), .nils, .nils], none⟩, ⟨none, .store 3 (.t 6) (.t 18), none⟩] [])
  (.seq (.seq (.reg false [⟨(some 7), .mv (.c (.int .i64 0)), none⟩] [])
  (.block 0 (.loop (.seq (.seq (.reg false [⟨(some 19), .mv (.t 7), none⟩, ⟨(some 20), .mv (.t 1), none⟩, ⟨(some 21), .bin .lss (.t 19) (.t 20), none⟩] [])
      (.cond (.t 21)
        .skip
        (.exit 0)))
      (.seq (.block 1 (.reg false [⟨(some 24), .load true 3 (.t 6), none⟩, ⟨(some 25), .load true 3 (.t 2), none⟩, ⟨(some 26), .call 100 [(.t 24), (.t 25)], none⟩, ⟨none, .store 3 (.t 6) (.t 26), none⟩] []))
      (.reg false [⟨(some 22), .mv (.t 7), none⟩, ⟨(some 23), .bin .add (.t 22) (.c (.int .i64 1)), none⟩, ⟨(some 7), .mv (.t 23), none⟩] []))))))
  (.seq (.reg false [⟨(some 27), .load true 3 (.t 6), none⟩, ⟨none, .store 3 (.t 4) (.t 27), none⟩, ⟨(some 5), .mv (.c (.bool true)), none⟩] [])
  .ret)))))
theorem ok98 : (Go.Proofs.Tryz.f98.body).bind (comp Go.Proofs.Tryz.prog) = some c98 := by kernel_rfl
def c100 : IR :=
  (.seq (.reg false [⟨(some 2), .box 38 3 (.t 0), none⟩, ⟨(some 3), .box 38 3 (.t 1), none⟩, ⟨(some 4), .new 38 3 [(.bool false), .nils, .nils], none⟩] [])
  (.seq (.reg true [⟨(some 5), .faddr 0 (.t 2), none⟩, ⟨(some 6), .load true 2 (.t 5), none⟩, ⟨(some 7), .faddr 0 (.t 3), none⟩, ⟨(some 8), .load true 2 (.t 7), none⟩, ⟨(some 9), .call 148 [(.t 6), (.t 8)], none⟩, ⟨(some 10), .faddr 2 (.t 2), none⟩, ⟨(some 11), .load false 1 (.t 10), none⟩, ⟨(some 12), .faddr 2 (.t 3), none⟩, ⟨(some 13), .load false 1 (.t 12), none⟩, ⟨(some 14), .call 102 [(.t 11), (.t 13)], none⟩, ⟨(some 15), .call 72 [(.t 9), (.t 14)], none⟩, ⟨none, .store 3 (.t 4) (.t 15), none⟩] [0, 1, 0, 4, 15, 0, 32, 0, 128, 511, 1023, 2047])
  .ret))
theorem ok100 : (Go.Proofs.Tryz.f100.body).bind (comp Go.Proofs.Tryz.prog) = some c100 := by kernel_rfl
def c101 : IR :=
  (.seq (.reg false [⟨(some 1), .box 38 3 (.t 0), none⟩, ⟨(some 2), .new 38 3 [(.bool false), .nils, .nils], none⟩] [])
  (.seq (.reg true [⟨(some 3), .faddr 0 (.t 1), none⟩, ⟨(some 4), .faddr 0 (.t 3), none⟩, ⟨(some 5), .load false 1 (.t 4), none⟩, ⟨(some 6), .faddr 2 (.t 1), none⟩, ⟨(some 7), .load false 1 (.t 6), none⟩, ⟨(some 8), .call 73 [(.t 5), (.t 7)], none⟩, ⟨(some 9), .faddr 0 (.t 1), none⟩, ⟨(some 10), .faddr 1 (.t 9), none⟩, ⟨(some 11), .load false 1 (.t 10), none⟩, ⟨(some 12), .build [(.bool false), .nils, .nils] [(0, 2, (.t 8)), (2, 1, (.t 11))], none⟩, ⟨none, .store 3 (.t 2) (.t 12), none⟩] [0, 1, 3, 0, 8, 31, 0, 64, 192, 511, 1023])
  .ret))
theorem ok101 : (Go.Proofs.Tryz.f101.body).bind (comp Go.Proofs.Tryz.prog) = some c101 := by kernel_rfl
end Go.Proofs.YtapikjmijmebpaaGreatDoorK.NatIr
