/-
  The compiled bodies, printed: IrLaw18.
-/
import Derived.Test.YtapikjmijmebpaaGreatDoorKAb
import Derived.Test.YtapikjmijmebpaaGreatDoorProg
set_option linter.all false
set_option linter.unusedVariables false
set_option linter.unusedSimpArgs false
set_option maxHeartbeats 4000000
namespace Go.Proofs.YtapikjmijmebpaaGreatDoorK.NatIr
open Go.Proofs.YtapikjmijmebpaaGreatDoorK.AI
/-- cubit/cubitlaw18.awake -/
def c54 : IR :=
  (.seq (.reg false [⟨(some 0), .mv (.c (.bool false)), none⟩] [])
  (.seq (.reg false [⟨(some 5), .call 29 [(.c (.str ⟨#[49, 46, 53, 48]⟩))], none⟩, ⟨(some 4), .mv (.t 5), none⟩, ⟨(some 6), .ext (.t 4) 0, none⟩, ⟨(some 7), .ext (.t 4) 1, none⟩, ⟨(some 1), .new 30 3 [(.bool false), .nils, (.int .i64 0)], none⟩, ⟨none, .store 3 (.t 1) (.t 6), none⟩, ⟨(some 2), .mv (.t 7), none⟩] [])
  (.seq (.reg false [⟨(some 8), .load true 3 (.t 1), none⟩, ⟨(some 9), .call 55 [(.t 8)], none⟩, ⟨(some 3), .new 84 8 [(.bool false), .nils, .nils, .nils, (.int .i64 0), (.int .i64 0), .nils, .nils], none⟩, ⟨none, .store 8 (.t 3) (.t 9), none⟩] [])
  (.seq (.reg true [⟨(some 10), .mv (.t 2), none⟩, ⟨(some 11), .bin .eql (.t 10) (.c (.int .i64 0)), none⟩, ⟨(some 12), .mv (.t 11), none⟩, ⟨(some 13), .faddr 3 (.t 3), (some ((some 12), true))⟩, ⟨(some 14), .load true 1 (.t 13), (some ((some 12), true))⟩, ⟨(some 15), .call 59 [(.c (.int .u64 1))], (some ((some 12), true))⟩, ⟨(some 16), .call 58 [(.t 14), (.t 15)], (some ((some 12), true))⟩, ⟨(some 17), .pick (.t 12) (.t 16) (.c (.bool false)), none⟩, ⟨(some 18), .mv (.t 17), none⟩, ⟨(some 19), .faddr 4 (.t 3), (some ((some 18), true))⟩, ⟨(some 20), .load false 1 (.t 19), (some ((some 18), true))⟩, ⟨(some 21), .bin .eql (.t 20) (.c (.int .i64 2)), (some ((some 18), true))⟩, ⟨(some 22), .pick (.t 18) (.t 21) (.c (.bool false)), none⟩, ⟨(some 23), .mv (.t 22), none⟩, ⟨(some 24), .faddr 6 (.t 3), (some ((some 23), true))⟩, ⟨(some 25), .load true 1 (.t 24), (some ((some 23), true))⟩, ⟨(some 26), .call 59 [(.c (.int .u64 50))], (some ((some 23), true))⟩, ⟨(some 27), .call 58 [(.t 25), (.t 26)], (some ((some 23), true))⟩, ⟨(some 28), .pick (.t 23) (.t 27) (.c (.bool false)), none⟩, ⟨(some 29), .mv (.t 28), none⟩, ⟨(some 30), .faddr 5 (.t 3), (some ((some 29), true))⟩, ⟨(some 31), .load false 1 (.t 30), (some ((some 29), true))⟩, ⟨(some 32), .bin .eql (.t 31) (.c (.int .i64 1)), (some ((some 29), true))⟩, ⟨(some 33), .pick (.t 29) (.t 32) (.c (.bool false)), none⟩, ⟨(some 34), .mv (.t 33), none⟩, ⟨(some 35), .faddr 7 (.t 3), (some ((some 34), true))⟩, ⟨(some 36), .load true 1 (.t 35), (some ((some 34), true))⟩, ⟨(some 37), .call 59 [(.c (.int .u64 5))], (some ((some 34), true))⟩, ⟨(some 38), .call 58 [(.t 36), (.t 37)], (some ((some 34), true))⟩, ⟨(some 39), .pick (.t 34) (.t 38) (.c (.bool false)), none⟩, ⟨(some 40), .mv (.t 39), none⟩, ⟨(some 41), .faddr 0 (.t 3), (some ((some 40), true))⟩, ⟨(some 42), .load true 3 (.t 41), (some ((some 40), true))⟩, ⟨(some 43), .call 57 [(.t 42)], (some ((some 40), true))⟩, ⟨(some 44), .bin .eql (.t 43) (.c (.str ⟨#[51, 47, 50]⟩)), (some ((some 40), true))⟩, ⟨(some 45), .pick (.t 40) (.t 44) (.c (.bool false)), none⟩, ⟨(some 0), .mv (.t 45), none⟩] [0, 1, 3, 7, 15, 7, 63, 127, 255, 511, 1023, 2047, 4095, 8191, 16383, 32767, 16383, 131071, 262143, 524287, 1048575, 2097151, 4194303, 8388607, 16777215, 33554431, 67108863, 33554431, 268435455, 536870911, 1073741823, 2147483647, 4294967295, 8589934591, 17179869183, 34359738367, 68719476735])
  .ret))))
theorem ok54 : (Go.Proofs.Tryz.f54.body).bind (comp Go.Proofs.Tryz.prog) = some c54 := by kernel_rfl
/-- cubit/cubitlaw18.is -/
def c58 : IR :=
  (.seq (.reg false [⟨(some 2), .box 24 1 (.t 0), none⟩, ⟨(some 4), .mv (.c (.bool false)), none⟩] [])
  (.seq (.reg false [⟨(some 5), .faddr 0 (.t 2), none⟩, ⟨(some 6), .load false 1 (.t 5), none⟩, ⟨(some 7), .lenL (.t 6), none⟩, ⟨(some 8), .bin .lss (.t 7) (.c (.int .i64 4000)), none⟩, ⟨(some 9), .mv (.t 8), none⟩, ⟨(some 10), .load true 1 (.t 2), (some ((some 9), true))⟩, ⟨(some 11), .call 103 [(.t 10)], (some ((some 9), true))⟩, ⟨(some 12), .pick (.t 9) (.t 11) (.c (.bool false)), none⟩, ⟨(some 13), .mv (.t 12), none⟩, ⟨(some 14), .faddr 0 (.t 2), (some ((some 13), true))⟩, ⟨(some 15), .load false 1 (.t 14), (some ((some 13), true))⟩, ⟨(some 16), .call 26 [(.t 15)], (some ((some 13), true))⟩, ⟨(some 17), .mv (.t 1), (some ((some 13), true))⟩, ⟨(some 18), .call 124 [(.t 16), (.t 17)], (some ((some 13), true))⟩, ⟨(some 19), .bin .eql (.t 18) (.c (.int .i64 0)), (some ((some 13), true))⟩, ⟨(some 20), .pick (.t 13) (.t 19) (.c (.bool false)), none⟩, ⟨(some 4), .mv (.t 20), none⟩] [])
  .ret))
theorem ok58 : (Go.Proofs.Tryz.f58.body).bind (comp Go.Proofs.Tryz.prog) = some c58 := by kernel_rfl
/-- cubit/cubitlaw18.raw -/
def c60 : IR :=
  (.seq (.reg false [⟨(some 1), .box 30 3 (.t 0), none⟩, ⟨(some 2), .new 50 3 [(.bool false), .nils, (.int .i64 0)], none⟩] [])
  (.seq (.seq (.reg false [⟨(some 3), .load true 3 (.t 1), none⟩, ⟨(some 4), .call 24 [(.t 3)], none⟩, ⟨(some 5), .not (.t 4), none⟩] [])
  (.cond (.t 5)
    (.seq (.reg false [⟨(some 6), .build [(.bool false), .nils, (.int .i64 0)] [], none⟩, ⟨none, .store 3 (.t 2) (.t 6), none⟩] [])
    .ret)
    .skip))
  (.seq (.reg true [⟨(some 7), .faddr 0 (.t 1), none⟩, ⟨(some 8), .load false 1 (.t 7), none⟩, ⟨(some 9), .faddr 1 (.t 1), none⟩, ⟨(some 10), .faddr 0 (.t 9), none⟩, ⟨(some 11), .load false 1 (.t 10), none⟩, ⟨(some 12), .call 26 [(.t 11)], none⟩, ⟨(some 13), .faddr 2 (.t 1), none⟩, ⟨(some 14), .load false 1 (.t 13), none⟩, ⟨(some 15), .build [(.bool false), .nils, (.int .i64 0)] [(0, 1, (.t 8)), (1, 1, (.t 12)), (2, 1, (.t 14))], none⟩, ⟨none, .store 3 (.t 2) (.t 15), none⟩] [0, 1, 0, 4, 12, 28, 0, 64, 255, 511])
  .ret)))
theorem ok60 : (Go.Proofs.Tryz.f60.body).bind (comp Go.Proofs.Tryz.prog) = some c60 := by kernel_rfl
/-- cubit/cubitlaw18.qis -/
def c62 : IR :=
  (.seq (.reg false [⟨(some 2), .box 28 3 (.t 0), none⟩, ⟨(some 3), .box 38 3 (.t 1), none⟩, ⟨(some 4), .mv (.c (.bool false)), none⟩] [])
  (.seq (.reg false [⟨(some 5), .faddr 0 (.t 2), none⟩, ⟨(some 6), .load true 2 (.t 5), none⟩, ⟨(some 7), .faddr 0 (.t 3), none⟩, ⟨(some 8), .load true 2 (.t 7), none⟩, ⟨(some 9), .call 130 [(.t 6), (.t 8)], none⟩, ⟨(some 10), .mv (.t 9), none⟩, ⟨(some 11), .faddr 2 (.t 2), (some ((some 10), true))⟩, ⟨(some 12), .load true 1 (.t 11), (some ((some 10), true))⟩, ⟨(some 13), .faddr 2 (.t 3), (some ((some 10), true))⟩, ⟨(some 14), .load false 1 (.t 13), (some ((some 10), true))⟩, ⟨(some 15), .call 58 [(.t 12), (.t 14)], (some ((some 10), true))⟩, ⟨(some 16), .pick (.t 10) (.t 15) (.c (.bool false)), none⟩, ⟨(some 4), .mv (.t 16), none⟩] [])
  .ret))
theorem ok62 : (Go.Proofs.Tryz.f62.body).bind (comp Go.Proofs.Tryz.prog) = some c62 := by kernel_rfl
/-- cubit/cubitlaw18.zis -/
def c130 : IR :=
  (.seq (.reg false [⟨(some 2), .box 26 2 (.t 0), none⟩, ⟨(some 3), .box 36 2 (.t 1), none⟩, ⟨(some 4), .mv (.c (.bool false)), none⟩] [])
  (.seq (.reg false [⟨(some 5), .load true 2 (.t 2), none⟩, ⟨(some 6), .call 86 [(.t 5)], none⟩, ⟨(some 7), .mv (.t 6), none⟩, ⟨(some 8), .faddr 0 (.t 2), (some ((some 7), true))⟩, ⟨(some 9), .load false 1 (.t 8), (some ((some 7), true))⟩, ⟨(some 10), .faddr 0 (.t 3), (some ((some 7), true))⟩, ⟨(some 11), .load false 1 (.t 10), (some ((some 7), true))⟩, ⟨(some 12), .beq false (.t 9) (.t 11), (some ((some 7), true))⟩, ⟨(some 13), .pick (.t 7) (.t 12) (.c (.bool false)), none⟩, ⟨(some 14), .mv (.t 13), none⟩, ⟨(some 15), .faddr 1 (.t 2), (some ((some 14), true))⟩, ⟨(some 16), .load true 1 (.t 15), (some ((some 14), true))⟩, ⟨(some 17), .faddr 1 (.t 3), (some ((some 14), true))⟩, ⟨(some 18), .load false 1 (.t 17), (some ((some 14), true))⟩, ⟨(some 19), .call 58 [(.t 16), (.t 18)], (some ((some 14), true))⟩, ⟨(some 20), .pick (.t 14) (.t 19) (.c (.bool false)), none⟩, ⟨(some 4), .mv (.t 20), none⟩] [])
  .ret))
theorem ok130 : (Go.Proofs.Tryz.f130.body).bind (comp Go.Proofs.Tryz.prog) = some c130 := by kernel_rfl
end Go.Proofs.YtapikjmijmebpaaGreatDoorK.NatIr
