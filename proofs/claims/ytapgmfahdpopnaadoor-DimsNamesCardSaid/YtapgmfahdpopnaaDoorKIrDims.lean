/-
  The compiled bodies, printed: IrDims.
-/
import Derived.Test.YtapgmfahdpopnaaDoorKAb
import Derived.Test.YtapgmfahdpopnaaDoorProg
set_option linter.all false
set_option linter.unusedVariables false
set_option linter.unusedSimpArgs false
set_option maxHeartbeats 4000000
namespace Go.Proofs.YtapgmfahdpopnaaDoorK.NatIr
open Go.Proofs.YtapgmfahdpopnaaDoorK.AI
def c5 : IR :=
  (.seq (.reg false [⟨(some 0), .mv (.c .null), none⟩] [])
  (.seq (.reg false [⟨(some 1), .mkmap 38, none⟩, ⟨(some 2), .build [.nilm, .nils] [(0, 1, (.t 1))], none⟩, ⟨(some 3), .box 40 2 (.t 2), none⟩, ⟨(some 0), .mv (.t 3), none⟩] [])
  .ret))
theorem ok5 : (Go.Proofs.Tryd.f5.body).bind (comp Go.Proofs.Tryd.prog) = some c5 := by kernel_rfl
def c6 : IR :=
  (.seq (.reg false [⟨(some 4), .box 34 8 (.t 1), none⟩, ⟨(some 6), .mv (.c (.bool false)), none⟩] [])
  (.seq (.seq (.reg true [⟨(some 7), .mv (.t 2), none⟩, ⟨(some 8), .bin .eql (.t 7) (.c (.str ⟨#[]⟩)), none⟩, ⟨(some 9), .mv (.t 8), none⟩, ⟨(some 10), .mv (.t 0), (some ((some 9), false))⟩, ⟨(some 11), .nilck (.t 10), (some ((some 9), false))⟩, ⟨(some 12), .faddr 0 (.t 11), (some ((some 9), false))⟩, ⟨(some 13), .load false 1 (.t 12), (some ((some 9), false))⟩, ⟨(some 14), .load true 8 (.t 4), (some ((some 9), false))⟩, ⟨(some 15), .look (some 8) false (.str ⟨#[]⟩) (.t 13) (.t 14), (some ((some 9), false))⟩, ⟨(some 16), .bin .neq (.t 15) (.c (.str ⟨#[]⟩)), (some ((some 9), false))⟩, ⟨(some 17), .pick (.t 9) (.c (.bool true)) (.t 16), none⟩] [0, 1, 3, 7, 15, 31, 63, 7, 255, 511, 1023])
  (.cond (.t 17)
    (.seq (.reg false [⟨(some 6), .mv (.c (.bool false)), none⟩] [])
    .ret)
    .skip))
  (.seq (.reg true [⟨(some 18), .mv (.t 0), none⟩, ⟨(some 19), .nilck (.t 18), none⟩, ⟨(some 20), .faddr 0 (.t 19), none⟩, ⟨(some 21), .load false 1 (.t 20), none⟩, ⟨(some 22), .load true 8 (.t 4), none⟩, ⟨(some 23), .mv (.t 2), none⟩, ⟨none, .mput (some 8) (.t 21) (.t 22) (.t 23), none⟩] [0, 1, 3, 7, 0, 0, 63])
  (.seq (.reg false [⟨(some 24), .mv (.t 0), none⟩, ⟨(some 25), .mv (.t 0), none⟩, ⟨(some 26), .nilck (.t 25), none⟩, ⟨(some 27), .faddr 1 (.t 26), none⟩, ⟨(some 28), .load false 1 (.t 27), none⟩, ⟨(some 29), .mv (.t 2), none⟩, ⟨(some 30), .lit 9 1 1 [(.str ⟨#[]⟩)] [(0, 1, (.t 29))], none⟩, ⟨(some 31), .app 9 1 16 (.t 28) (.t 30), none⟩, ⟨(some 32), .nilck (.t 24), none⟩, ⟨(some 33), .faddr 1 (.t 32), none⟩, ⟨none, .store 1 (.t 33) (.t 31), none⟩] [])
  (.seq (.reg false [⟨(some 6), .mv (.c (.bool true)), none⟩] [])
  .ret)))))
theorem ok6 : (Go.Proofs.Tryd.f6.body).bind (comp Go.Proofs.Tryd.prog) = some c6 := by kernel_rfl
def c7 : IR :=
  (.seq (.reg false [⟨(some 2), .mv (.c .nils), none⟩] [])
  (.seq (.reg false [⟨(some 3), .mv (.t 0), none⟩, ⟨(some 4), .nilck (.t 3), none⟩, ⟨(some 5), .faddr 1 (.t 4), none⟩, ⟨(some 6), .load false 1 (.t 5), none⟩, ⟨(some 7), .call 11 [(.t 6)], none⟩, ⟨(some 2), .mv (.t 7), none⟩] [])
  .ret))
theorem ok7 : (Go.Proofs.Tryd.f7.body).bind (comp Go.Proofs.Tryd.prog) = some c7 := by kernel_rfl
def c8 : IR :=
  (.seq (.reg false [⟨(some 3), .box 34 8 (.t 1), none⟩, ⟨(some 4), .mv (.c (.str ⟨#[]⟩)), none⟩, ⟨(some 5), .mv (.c (.bool false)), none⟩] [])
  (.seq (.reg true [⟨(some 9), .mv (.t 0), none⟩, ⟨(some 10), .nilck (.t 9), none⟩, ⟨(some 11), .faddr 0 (.t 10), none⟩, ⟨(some 12), .load false 1 (.t 11), none⟩, ⟨(some 13), .load true 8 (.t 3), none⟩, ⟨(some 14), .look (some 8) true (.str ⟨#[]⟩) (.t 12) (.t 13), none⟩, ⟨(some 8), .mv (.t 14), none⟩, ⟨(some 15), .ext (.t 8) 0, none⟩, ⟨(some 16), .ext (.t 8) 1, none⟩, ⟨(some 6), .mv (.t 15), none⟩, ⟨(some 7), .mv (.t 16), none⟩] [0, 1, 3, 7, 0, 31, 63, 127, 127, 255, 1023])
  (.seq (.reg false [⟨(some 17), .mv (.t 6), none⟩, ⟨(some 18), .mv (.t 7), none⟩, ⟨(some 4), .mv (.t 17), none⟩, ⟨(some 5), .mv (.t 18), none⟩] [])
  .ret)))
theorem ok8 : (Go.Proofs.Tryd.f8.body).bind (comp Go.Proofs.Tryd.prog) = some c8 := by kernel_rfl
def c9 : IR :=
  (.seq (.reg false [⟨(some 2), .new 34 8 [(.int .i64 0), (.int .i64 0), (.int .i64 0), (.int .i64 0), (.int .i64 0), (.int .i64 0), (.int .i64 0), (.int .i64 0)], none⟩, ⟨(some 3), .mv (.c (.bool false)), none⟩] [])
  (.seq (.reg false [⟨(some 4), .new 34 8 [(.int .i64 0), (.int .i64 0), (.int .i64 0), (.int .i64 0), (.int .i64 0), (.int .i64 0), (.int .i64 0), (.int .i64 0)], none⟩] [])
  (.seq (.seq (.reg false [⟨(some 5), .mv (.t 0), none⟩, ⟨(some 6), .bin .lss (.t 5) (.c (.int .i64 0)), none⟩, ⟨(some 7), .mv (.t 6), none⟩, ⟨(some 8), .mv (.t 0), (some ((some 7), false))⟩, ⟨(some 9), .bin .geq (.t 8) (.c (.int .i64 8)), (some ((some 7), false))⟩, ⟨(some 10), .pick (.t 7) (.c (.bool true)) (.t 9), none⟩] [])
  (.cond (.t 10)
    (.seq (.reg false [⟨(some 11), .load true 8 (.t 4), none⟩, ⟨none, .store 8 (.t 2) (.t 11), none⟩, ⟨(some 3), .mv (.c (.bool false)), none⟩] [])
    .ret)
    .skip))
  (.seq (.reg false [⟨(some 12), .mv (.t 0), none⟩, ⟨(some 13), .iaddrA 8 1 (.t 4) (.t 12), none⟩, ⟨none, .store 1 (.t 13) (.c (.int .i64 1)), none⟩] [])
  (.seq (.reg false [⟨(some 14), .load true 8 (.t 4), none⟩, ⟨none, .store 8 (.t 2) (.t 14), none⟩, ⟨(some 3), .mv (.c (.bool true)), none⟩] [])
  .ret)))))
theorem ok9 : (Go.Proofs.Tryd.f9.body).bind (comp Go.Proofs.Tryd.prog) = some c9 := by kernel_rfl
def c10 : IR :=
  (.seq (.reg false [⟨(some 1), .box 34 8 (.t 0), none⟩, ⟨(some 2), .mv (.c (.str ⟨#[]⟩)), none⟩] [])
  (.seq (.reg false [⟨(some 3), .mv (.c .nils), none⟩] [])
  (.seq (.seq (.reg false [⟨(some 6), .load true 8 (.t 1), none⟩, ⟨(some 7), .mv (.c (.int .i64 0)), none⟩] [])
  (.block 0 (.loop (.seq (.reg false [⟨(some 8), .bin .lss (.t 7) (.c (.int .i64 8)), none⟩] [])
      (.seq (.cond (.t 8)
        .skip
        (.exit 0))
      (.seq (.block 1 (.seq (.reg false [⟨(some 9), .idxA 8 1 false (.t 6) (.t 7), none⟩, ⟨(some 5), .mv (.t 9), none⟩] [])
        (.reg false [⟨(some 10), .mv (.t 3), none⟩, ⟨(some 11), .mv (.t 5), none⟩, ⟨(some 12), .call 12 [(.t 11)], none⟩, ⟨(some 13), .lit 9 1 1 [(.str ⟨#[]⟩)] [(0, 1, (.t 12))], none⟩, ⟨(some 14), .app 9 1 16 (.t 10) (.t 13), none⟩, ⟨(some 3), .mv (.t 14), none⟩] [])))
      (.reg false [⟨(some 15), .bin .add (.t 7) (.c (.int .i64 1)), none⟩, ⟨(some 7), .mv (.t 15), none⟩] [])))))))
  (.seq (.reg false [⟨(some 16), .mv (.t 3), none⟩, ⟨(some 17), .call 13 [(.t 16), (.c (.str ⟨#[44]⟩))], none⟩, ⟨(some 2), .mv (.t 17), none⟩] [])
  .ret))))
theorem ok10 : (Go.Proofs.Tryd.f10.body).bind (comp Go.Proofs.Tryd.prog) = some c10 := by kernel_rfl
end Go.Proofs.YtapgmfahdpopnaaDoorK.NatIr
