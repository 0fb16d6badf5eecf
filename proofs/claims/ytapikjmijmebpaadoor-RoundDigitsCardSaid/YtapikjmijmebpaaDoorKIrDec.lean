/-
  The compiled bodies, printed: IrDec.
-/
import Derived.Test.YtapikjmijmebpaaDoorKAb
import Derived.Test.YtapikjmijmebpaaDoorProg
set_option linter.all false
set_option linter.unusedVariables false
set_option linter.unusedSimpArgs false
set_option maxHeartbeats 4000000
namespace Go.Proofs.YtapikjmijmebpaaDoorK.NatIr
open Go.Proofs.YtapikjmijmebpaaDoorK.AI
/-- cubit/dec.Rat -/
def c25 : IR :=
  (.seq (.reg false [⟨(some 1), .box 33 3 (.t 0), none⟩, ⟨(some 2), .new 28 3 [(.bool false), .nils, .nils], none⟩] [])
  (.seq (.reg false [⟨(some 5), .load true 3 (.t 1), none⟩, ⟨(some 6), .call 62 [(.t 5)], none⟩, ⟨none, .store 3 (.t 1) (.t 6), none⟩] [])
  (.seq (.reg true [⟨(some 8), .faddr 0 (.t 1), none⟩, ⟨(some 9), .load false 1 (.t 8), none⟩, ⟨(some 10), .faddr 1 (.t 1), none⟩, ⟨(some 11), .load true 1 (.t 10), none⟩, ⟨(some 12), .build [(.bool false), .nils] [(0, 1, (.t 9)), (1, 1, (.t 11))], none⟩, ⟨(some 13), .faddr 2 (.t 1), none⟩, ⟨(some 14), .load false 1 (.t 13), none⟩, ⟨(some 15), .call 63 [(.t 14)], none⟩, ⟨(some 16), .call 16 [(.t 12), (.t 15)], none⟩, ⟨(some 7), .mv (.t 16), none⟩, ⟨(some 17), .ext (.t 7) 0, none⟩, ⟨(some 18), .ext (.t 7) 1, none⟩, ⟨(some 3), .new 28 3 [(.bool false), .nils, .nils], none⟩, ⟨none, .store 3 (.t 3) (.t 17), none⟩, ⟨(some 4), .mv (.t 18), none⟩] [0, 1, 0, 4, 15, 0, 32, 96, 255, 511, 1023, 1023, 0, 6143, 16383])
  (.seq (.reg false [⟨(some 19), .load true 3 (.t 3), none⟩, ⟨none, .store 3 (.t 2) (.t 19), none⟩] [])
  .ret))))
theorem ok25 : (Go.Proofs.Tryd.f25.body).bind (comp Go.Proofs.Tryd.prog) = some c25 := by kernel_rfl
/-- cubit/dec.Text -/
def c29 : IR :=
  (.seq (.reg false [⟨(some 1), .box 33 3 (.t 0), none⟩, ⟨(some 2), .mv (.c (.str ⟨#[]⟩)), none⟩] [])
  (.seq (.reg false [⟨(some 5), .load true 3 (.t 1), none⟩, ⟨(some 6), .call 62 [(.t 5)], none⟩, ⟨none, .store 3 (.t 1) (.t 6), none⟩] [])
  (.seq (.reg false [⟨(some 8), .load true 3 (.t 1), none⟩, ⟨(some 9), .call 66 [(.t 8)], none⟩, ⟨(some 7), .mv (.t 9), none⟩, ⟨(some 10), .ext (.t 7) 0, none⟩, ⟨(some 11), .ext (.t 7) 1, none⟩, ⟨(some 3), .mv (.t 10), none⟩, ⟨(some 4), .mv (.t 11), none⟩] [])
  (.seq (.seq (.reg false [⟨(some 12), .mv (.t 4), none⟩, ⟨(some 13), .bin .neq (.t 12) (.c (.str ⟨#[]⟩)), none⟩] [])
  (.cond (.t 13)
    (.reg false [⟨(some 14), .mv (.t 3), none⟩, ⟨(some 15), .mv (.t 4), none⟩, ⟨(some 16), .bin .add (.c (.str ⟨#[46]⟩)) (.t 15), none⟩, ⟨(some 17), .bin .add (.t 14) (.t 16), none⟩, ⟨(some 3), .mv (.t 17), none⟩] [])
    .skip))
  (.seq (.seq (.reg false [⟨(some 18), .faddr 0 (.t 1), none⟩, ⟨(some 19), .load false 1 (.t 18), none⟩] [])
  (.cond (.t 19)
    (.reg false [⟨(some 20), .mv (.t 3), none⟩, ⟨(some 21), .bin .add (.c (.str ⟨#[45]⟩)) (.t 20), none⟩, ⟨(some 3), .mv (.t 21), none⟩] [])
    .skip))
  (.seq (.reg false [⟨(some 22), .mv (.t 3), none⟩, ⟨(some 2), .mv (.t 22), none⟩] [])
  .ret))))))
theorem ok29 : (Go.Proofs.Tryd.f29.body).bind (comp Go.Proofs.Tryd.prog) = some c29 := by kernel_rfl
/-- cubit/dec.plain -/
def c62 : IR :=
  (.seq (.reg false [⟨(some 1), .box 33 3 (.t 0), none⟩, ⟨(some 2), .new 33 3 [(.bool false), .nils, (.int .i64 0)], none⟩] [])
  (.seq (.seq (.reg false [⟨(some 3), .load true 3 (.t 1), none⟩, ⟨(some 4), .call 64 [(.t 3)], none⟩, ⟨(some 5), .not (.t 4), none⟩] [])
  (.cond (.t 5)
    (.seq (.reg false [⟨(some 6), .build [(.bool false), .nils, (.int .i64 0)] [], none⟩, ⟨none, .store 3 (.t 2) (.t 6), none⟩] [])
    .ret)
    .skip))
  (.seq (.reg false [⟨(some 7), .load true 3 (.t 1), none⟩, ⟨none, .store 3 (.t 2) (.t 7), none⟩] [])
  .ret)))
theorem ok62 : (Go.Proofs.Tryd.f62.body).bind (comp Go.Proofs.Tryd.prog) = some c62 := by kernel_rfl
/-- cubit/dec.tens -/
def c63 : IR :=
  (.seq (.reg false [⟨(some 2), .new 24 1 [.nils], none⟩] [])
  (.seq (.reg false [⟨(some 3), .call 17 [(.c (.int .u64 10))], none⟩, ⟨(some 4), .mv (.t 0), none⟩, ⟨(some 5), .call 59 [(.t 3), (.t 4)], none⟩, ⟨none, .store 1 (.t 2) (.t 5), none⟩] [])
  .ret))
theorem ok63 : (Go.Proofs.Tryd.f63.body).bind (comp Go.Proofs.Tryd.prog) = some c63 := by kernel_rfl
/-- cubit/dec.Good -/
def c64 : IR :=
  (.seq (.reg false [⟨(some 1), .box 33 3 (.t 0), none⟩, ⟨(some 2), .mv (.c (.bool false)), none⟩] [])
  (.seq (.reg false [⟨(some 3), .faddr 1 (.t 1), none⟩, ⟨(some 4), .load true 1 (.t 3), none⟩, ⟨(some 5), .call 34 [(.t 4)], none⟩, ⟨(some 6), .mv (.t 5), none⟩, ⟨(some 7), .faddr 2 (.t 1), (some ((some 6), true))⟩, ⟨(some 8), .load false 1 (.t 7), (some ((some 6), true))⟩, ⟨(some 9), .bin .geq (.t 8) (.c (.int .i64 0)), (some ((some 6), true))⟩, ⟨(some 10), .pick (.t 6) (.t 9) (.c (.bool false)), none⟩, ⟨(some 11), .mv (.t 10), none⟩, ⟨(some 12), .faddr 2 (.t 1), (some ((some 11), true))⟩, ⟨(some 13), .load false 1 (.t 12), (some ((some 11), true))⟩, ⟨(some 14), .bin .leq (.t 13) (.c (.int .i64 60)), (some ((some 11), true))⟩, ⟨(some 15), .pick (.t 11) (.t 14) (.c (.bool false)), none⟩, ⟨(some 16), .mv (.t 15), none⟩, ⟨(some 17), .faddr 0 (.t 1), (some ((some 16), true))⟩, ⟨(some 18), .load false 1 (.t 17), (some ((some 16), true))⟩, ⟨(some 19), .mv (.t 18), (some ((some 16), true))⟩, ⟨(some 20), .faddr 1 (.t 1), (some ((some 19), true))⟩, ⟨(some 21), .load true 1 (.t 20), (some ((some 19), true))⟩, ⟨(some 22), .call 84 [(.t 21)], (some ((some 19), true))⟩, ⟨(some 23), .pick (.t 19) (.t 22) (.c (.bool false)), (some ((some 16), true))⟩, ⟨(some 24), .not (.t 23), (some ((some 16), true))⟩, ⟨(some 25), .pick (.t 16) (.t 24) (.c (.bool false)), none⟩, ⟨(some 2), .mv (.t 25), none⟩] [])
  .ret))
theorem ok64 : (Go.Proofs.Tryd.f64.body).bind (comp Go.Proofs.Tryd.prog) = some c64 := by kernel_rfl
/-- cubit/dec.both -/
def c66 : IR :=
  (.seq (.reg false [⟨(some 1), .box 33 3 (.t 0), none⟩, ⟨(some 2), .mv (.c (.str ⟨#[]⟩)), none⟩, ⟨(some 3), .mv (.c (.str ⟨#[]⟩)), none⟩] [])
  (.seq (.reg false [⟨(some 6), .faddr 1 (.t 1), none⟩, ⟨(some 7), .load true 1 (.t 6), none⟩, ⟨(some 8), .call 13 [(.t 7)], none⟩, ⟨(some 4), .mv (.t 8), none⟩] [])
  (.seq (.seq (.reg false [⟨(some 9), .faddr 2 (.t 1), none⟩, ⟨(some 10), .load false 1 (.t 9), none⟩, ⟨(some 11), .bin .add (.t 10) (.c (.int .i64 1)), none⟩, ⟨(some 12), .mv (.t 4), none⟩, ⟨(some 13), .lenS (.t 12), none⟩, ⟨(some 14), .bin .sub (.t 11) (.t 13), none⟩, ⟨(some 5), .mv (.t 14), none⟩] [])
  (.seq (.reg false [⟨(some 15), .mv (.t 5), none⟩, ⟨(some 16), .bin .gtr (.t 15) (.c (.int .i64 0)), none⟩] [])
  (.cond (.t 16)
    (.reg false [⟨(some 17), .mv (.t 5), none⟩, ⟨(some 18), .call 52 [(.c (.str ⟨#[48]⟩)), (.t 17)], none⟩, ⟨(some 19), .mv (.t 4), none⟩, ⟨(some 20), .bin .add (.t 18) (.t 19), none⟩, ⟨(some 4), .mv (.t 20), none⟩] [])
    .skip)))
  (.seq (.reg true [⟨(some 21), .mv (.t 4), none⟩, ⟨(some 22), .mv (.t 4), none⟩, ⟨(some 23), .lenS (.t 22), none⟩, ⟨(some 24), .faddr 2 (.t 1), none⟩, ⟨(some 25), .load false 1 (.t 24), none⟩, ⟨(some 26), .bin .sub (.t 23) (.t 25), none⟩, ⟨(some 27), .slcS (.t 21) none (some (.t 26)), none⟩, ⟨(some 28), .mv (.t 4), none⟩, ⟨(some 29), .mv (.t 4), none⟩, ⟨(some 30), .lenS (.t 29), none⟩, ⟨(some 31), .faddr 2 (.t 1), none⟩, ⟨(some 32), .load false 1 (.t 31), none⟩, ⟨(some 33), .bin .sub (.t 30) (.t 32), none⟩, ⟨(some 34), .slcS (.t 28) (some (.t 33)) none, none⟩, ⟨(some 2), .mv (.t 27), none⟩, ⟨(some 3), .mv (.t 34), none⟩] [0, 0, 2, 0, 8, 30, 63, 0, 0, 256, 0, 1024, 3840, 8064, 127, 32767])
  .ret))))
theorem ok66 : (Go.Proofs.Tryd.f66.body).bind (comp Go.Proofs.Tryd.prog) = some c66 := by kernel_rfl
/-- cubit/dec.zero -/
def c84 : IR :=
  (.seq (.reg false [⟨(some 1), .box 24 1 (.t 0), none⟩, ⟨(some 2), .mv (.c (.bool false)), none⟩] [])
  (.seq (.reg false [⟨(some 3), .load true 1 (.t 1), none⟩, ⟨(some 4), .build [.nils] [], none⟩, ⟨(some 5), .call 31 [(.t 3), (.t 4)], none⟩, ⟨(some 6), .bin .eql (.t 5) (.c (.int .i64 0)), none⟩, ⟨(some 2), .mv (.t 6), none⟩] [])
  .ret))
theorem ok84 : (Go.Proofs.Tryd.f84.body).bind (comp Go.Proofs.Tryd.prog) = some c84 := by kernel_rfl
end Go.Proofs.YtapikjmijmebpaaDoorK.NatIr
