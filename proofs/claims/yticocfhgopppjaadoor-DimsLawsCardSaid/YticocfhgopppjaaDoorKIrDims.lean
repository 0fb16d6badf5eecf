/-
  The compiled bodies, printed: IrDims.
-/
import Derived.Test.YticocfhgopppjaaDoorKAb
import Derived.Test.YticocfhgopppjaaDoorProg
set_option linter.all false
set_option linter.unusedVariables false
set_option linter.unusedSimpArgs false
set_option maxHeartbeats 4000000
namespace Go.Proofs.YticocfhgopppjaaDoorK.NatIr
open Go.Proofs.YticocfhgopppjaaDoorK.AI
def c8 : IR :=
  (.seq (.reg false [⟨(some 0), .mv (.c .null), none⟩] [])
  (.seq (.reg false [⟨(some 1), .mkmap 50, none⟩, ⟨(some 2), .build [.nilm, .nils] [(0, 1, (.t 1))], none⟩, ⟨(some 3), .box 52 2 (.t 2), none⟩, ⟨(some 0), .mv (.t 3), none⟩] [])
  .ret))
theorem ok8 : (Go.Proofs.Tryd.f8.body).bind (comp Go.Proofs.Tryd.prog) = some c8 := by kernel_rfl
def c9 : IR :=
  (.seq (.reg false [⟨(some 4), .box 34 8 (.t 1), none⟩, ⟨(some 6), .mv (.c (.bool false)), none⟩] [])
  (.seq (.seq (.reg true [⟨(some 7), .mv (.t 2), none⟩, ⟨(some 8), .bin .eql (.t 7) (.c (.str ⟨#[]⟩)), none⟩, ⟨(some 9), .mv (.t 8), none⟩, ⟨(some 10), .mv (.t 0), (some ((some 9), false))⟩, ⟨(some 11), .nilck (.t 10), (some ((some 9), false))⟩, ⟨(some 12), .faddr 0 (.t 11), (some ((some 9), false))⟩, ⟨(some 13), .load false 1 (.t 12), (some ((some 9), false))⟩, ⟨(some 14), .load true 8 (.t 4), (some ((some 9), false))⟩, ⟨(some 15), .look (some 8) false (.str ⟨#[]⟩) (.t 13) (.t 14), (some ((some 9), false))⟩, ⟨(some 16), .bin .neq (.t 15) (.c (.str ⟨#[]⟩)), (some ((some 9), false))⟩, ⟨(some 17), .pick (.t 9) (.c (.bool true)) (.t 16), none⟩] [0, 1, 3, 7, 15, 31, 63, 7, 255, 511, 1023])
  (.cond (.t 17)
    (.seq (.reg false [⟨(some 6), .mv (.c (.bool false)), none⟩] [])
    .ret)
    .skip))
  (.seq (.reg true [⟨(some 18), .mv (.t 0), none⟩, ⟨(some 19), .nilck (.t 18), none⟩, ⟨(some 20), .faddr 0 (.t 19), none⟩, ⟨(some 21), .load false 1 (.t 20), none⟩, ⟨(some 22), .load true 8 (.t 4), none⟩, ⟨(some 23), .mv (.t 2), none⟩, ⟨none, .mput (some 8) (.t 21) (.t 22) (.t 23), none⟩] [0, 1, 3, 7, 0, 0, 63])
  (.seq (.reg false [⟨(some 24), .mv (.t 0), none⟩, ⟨(some 25), .mv (.t 0), none⟩, ⟨(some 26), .nilck (.t 25), none⟩, ⟨(some 27), .faddr 1 (.t 26), none⟩, ⟨(some 28), .load false 1 (.t 27), none⟩, ⟨(some 29), .mv (.t 2), none⟩, ⟨(some 30), .lit 9 1 1 [(.str ⟨#[]⟩)] [(0, 1, (.t 29))], none⟩, ⟨(some 31), .app 9 1 16 (.t 28) (.t 30), none⟩, ⟨(some 32), .nilck (.t 24), none⟩, ⟨(some 33), .faddr 1 (.t 32), none⟩, ⟨none, .store 1 (.t 33) (.t 31), none⟩] [])
  (.seq (.reg false [⟨(some 6), .mv (.c (.bool true)), none⟩] [])
  .ret)))))
theorem ok9 : (Go.Proofs.Tryd.f9.body).bind (comp Go.Proofs.Tryd.prog) = some c9 := by kernel_rfl
def c10 : IR :=
  (.seq (.reg false [⟨(some 2), .mv (.c .nils), none⟩] [])
  (.seq (.reg false [⟨(some 3), .mv (.t 0), none⟩, ⟨(some 4), .nilck (.t 3), none⟩, ⟨(some 5), .faddr 1 (.t 4), none⟩, ⟨(some 6), .load false 1 (.t 5), none⟩, ⟨(some 7), .call 22 [(.t 6)], none⟩, ⟨(some 2), .mv (.t 7), none⟩] [])
  .ret))
theorem ok10 : (Go.Proofs.Tryd.f10.body).bind (comp Go.Proofs.Tryd.prog) = some c10 := by kernel_rfl
def c11 : IR :=
  (.seq (.reg false [⟨(some 3), .box 34 8 (.t 1), none⟩, ⟨(some 4), .mv (.c (.str ⟨#[]⟩)), none⟩, ⟨(some 5), .mv (.c (.bool false)), none⟩] [])
  (.seq (.reg true [⟨(some 9), .mv (.t 0), none⟩, ⟨(some 10), .nilck (.t 9), none⟩, ⟨(some 11), .faddr 0 (.t 10), none⟩, ⟨(some 12), .load false 1 (.t 11), none⟩, ⟨(some 13), .load true 8 (.t 3), none⟩, ⟨(some 14), .look (some 8) true (.str ⟨#[]⟩) (.t 12) (.t 13), none⟩, ⟨(some 8), .mv (.t 14), none⟩, ⟨(some 15), .ext (.t 8) 0, none⟩, ⟨(some 16), .ext (.t 8) 1, none⟩, ⟨(some 6), .mv (.t 15), none⟩, ⟨(some 7), .mv (.t 16), none⟩] [0, 1, 3, 7, 0, 31, 63, 127, 127, 255, 1023])
  (.seq (.reg false [⟨(some 17), .mv (.t 6), none⟩, ⟨(some 18), .mv (.t 7), none⟩, ⟨(some 4), .mv (.t 17), none⟩, ⟨(some 5), .mv (.t 18), none⟩] [])
  .ret)))
theorem ok11 : (Go.Proofs.Tryd.f11.body).bind (comp Go.Proofs.Tryd.prog) = some c11 := by kernel_rfl
def c12 : IR :=
  (.seq (.reg false [⟨(some 2), .box 34 8 (.t 0), none⟩, ⟨(some 3), .box 34 8 (.t 1), none⟩, ⟨(some 4), .new 34 8 [(.int .i64 0), (.int .i64 0), (.int .i64 0), (.int .i64 0), (.int .i64 0), (.int .i64 0), (.int .i64 0), (.int .i64 0)], none⟩, ⟨(some 5), .mv (.c (.bool false)), none⟩] [])
  (.seq (.seq (.reg false [⟨(some 8), .load true 8 (.t 2), none⟩, ⟨(some 9), .call 23 [(.t 8)], none⟩, ⟨(some 10), .not (.t 9), none⟩, ⟨(some 11), .mv (.t 10), none⟩, ⟨(some 12), .load true 8 (.t 3), (some ((some 11), false))⟩, ⟨(some 13), .call 23 [(.t 12)], (some ((some 11), false))⟩, ⟨(some 14), .not (.t 13), (some ((some 11), false))⟩, ⟨(some 15), .pick (.t 11) (.c (.bool true)) (.t 14), none⟩] [])
  (.cond (.t 15)
    (.seq (.reg false [⟨(some 16), .build [(.int .i64 0), (.int .i64 0), (.int .i64 0), (.int .i64 0), (.int .i64 0), (.int .i64 0), (.int .i64 0), (.int .i64 0)] [], none⟩, ⟨none, .store 8 (.t 4) (.t 16), none⟩, ⟨(some 5), .mv (.c (.bool false)), none⟩] [])
    .ret)
    .skip))
  (.seq (.seq (.reg false [⟨(some 17), .load true 8 (.t 3), none⟩, ⟨(some 18), .mv (.c (.int .i64 0)), none⟩] [])
  (.block 0 (.loop (.seq (.reg false [⟨(some 19), .bin .lss (.t 18) (.c (.int .i64 8)), none⟩] [])
      (.seq (.cond (.t 19)
        .skip
        (.exit 0))
      (.seq (.block 1 (.seq (.reg false [⟨(some 20), .mv (.t 18), none⟩, ⟨(some 21), .idxA 8 1 false (.t 17) (.t 18), none⟩, ⟨(some 6), .mv (.t 20), none⟩, ⟨(some 7), .mv (.t 21), none⟩] [])
        (.reg false [⟨(some 22), .mv (.t 6), none⟩, ⟨(some 23), .iaddrA 8 1 (.t 2) (.t 22), none⟩, ⟨(some 24), .load false 1 (.t 23), none⟩, ⟨(some 25), .mv (.t 7), none⟩, ⟨(some 26), .bin .add (.t 24) (.t 25), none⟩, ⟨(some 27), .iaddrA 8 1 (.t 2) (.t 22), none⟩, ⟨none, .store 1 (.t 27) (.t 26), none⟩] [])))
      (.reg false [⟨(some 28), .bin .add (.t 18) (.c (.int .i64 1)), none⟩, ⟨(some 18), .mv (.t 28), none⟩] [])))))))
  (.seq (.seq (.reg false [⟨(some 29), .load true 8 (.t 2), none⟩, ⟨(some 30), .call 23 [(.t 29)], none⟩, ⟨(some 31), .not (.t 30), none⟩] [])
  (.cond (.t 31)
    (.seq (.reg false [⟨(some 32), .build [(.int .i64 0), (.int .i64 0), (.int .i64 0), (.int .i64 0), (.int .i64 0), (.int .i64 0), (.int .i64 0), (.int .i64 0)] [], none⟩, ⟨none, .store 8 (.t 4) (.t 32), none⟩, ⟨(some 5), .mv (.c (.bool false)), none⟩] [])
    .ret)
    .skip))
  (.seq (.reg false [⟨(some 33), .load true 8 (.t 2), none⟩, ⟨none, .store 8 (.t 4) (.t 33), none⟩, ⟨(some 5), .mv (.c (.bool true)), none⟩] [])
  .ret)))))
theorem ok12 : (Go.Proofs.Tryd.f12.body).bind (comp Go.Proofs.Tryd.prog) = some c12 := by kernel_rfl
def c14 : IR :=
  (.seq (.reg false [⟨(some 2), .box 34 8 (.t 0), none⟩, ⟨(some 4), .new 34 8 [(.int .i64 0), (.int .i64 0), (.int .i64 0), (.int .i64 0), (.int .i64 0), (.int .i64 0), (.int .i64 0), (.int .i64 0)], none⟩, ⟨(some 5), .mv (.c (.bool false)), none⟩] [])
  (.seq (.seq (.reg false [⟨(some 8), .load true 8 (.t 2), none⟩, ⟨(some 9), .call 23 [(.t 8)], none⟩, ⟨(some 10), .not (.t 9), none⟩] [])
  (.cond (.t 10)
    (.seq (.reg false [⟨(some 11), .build [(.int .i64 0), (.int .i64 0), (.int .i64 0), (.int .i64 0), (.int .i64 0), (.int .i64 0), (.int .i64 0), (.int .i64 0)] [], none⟩, ⟨none, .store 8 (.t 4) (.t 11), none⟩, ⟨(some 5), .mv (.c (.bool false)), none⟩] [])
    .ret)
    .skip))
  (.seq (.seq (.reg false [⟨(some 12), .load true 8 (.t 2), none⟩, ⟨(some 13), .mv (.c (.int .i64 0)), none⟩] [])
  (.block 0 (.loop (.seq (.reg false [⟨(some 14), .bin .lss (.t 13) (.c (.int .i64 8)), none⟩] [])
      (.seq (.cond (.t 14)
        .skip
        (.exit 0))
      (.seq (.block 1 (.seq (.reg false [⟨(some 15), .mv (.t 13), none⟩, ⟨(some 16), .idxA 8 1 false (.t 12) (.t 13), none⟩, ⟨(some 6), .mv (.t 15), none⟩, ⟨(some 7), .mv (.t 16), none⟩] [])
        (.seq (.seq (.reg false [⟨(some 17), .mv (.t 7), none⟩, ⟨(some 18), .bin .eql (.t 17) (.c (.int .i64 0)), none⟩] [])
        (.cond (.t 18)
          (.exit 1)
          .skip))
        (.seq (.seq (.reg false [⟨(some 19), .mv (.t 1), none⟩, ⟨(some 20), .call 25 [(.t 19)], none⟩, ⟨(some 21), .not (.t 20), none⟩, ⟨(some 22), .mv (.t 21), none⟩, ⟨(some 23), .mv (.t 7), (some ((some 22), false))⟩, ⟨(some 24), .mv (.t 1), (some ((some 22), false))⟩, ⟨(some 25), .bin .mul (.t 23) (.t 24), (some ((some 22), false))⟩, ⟨(some 26), .call 25 [(.t 25)], (some ((some 22), false))⟩, ⟨(some 27), .not (.t 26), (some ((some 22), false))⟩, ⟨(some 28), .pick (.t 22) (.c (.bool true)) (.t 27), none⟩] [])
        (.cond (.t 28)
          (.seq (.reg false [⟨(some 29), .build [(.int .i64 0), (.int .i64 0), (.int .i64 0), (.int .i64 0), (.int .i64 0), (.int .i64 0), (.int .i64 0), (.int .i64 0)] [], none⟩, ⟨none, .store 8 (.t 4) (.t 29), none⟩, ⟨(some 5), .mv (.c (.bool false)), none⟩] [])
          .ret)
          .skip))
        (.reg false [⟨(some 30), .mv (.t 6), none⟩, ⟨(some 31), .mv (.t 7), none⟩, ⟨(some 32), .mv (.t 1), none⟩, ⟨(some 33), .bin .mul (.t 31) (.t 32), none⟩, ⟨(some 34), .iaddrA 8 1 (.t 2) (.t 30), none⟩, ⟨none, .store 1 (.t 34) (.t 33), none⟩] [])))))
      (.reg false [⟨(some 35), .bin .add (.t 13) (.c (.int .i64 1)), none⟩, ⟨(some 13), .mv (.t 35), none⟩] [])))))))
  (.seq (.reg false [⟨(some 36), .load true 8 (.t 2), none⟩, ⟨none, .store 8 (.t 4) (.t 36), none⟩, ⟨(some 5), .mv (.c (.bool true)), none⟩] [])
  .ret))))
theorem ok14 : (Go.Proofs.Tryd.f14.body).bind (comp Go.Proofs.Tryd.prog) = some c14 := by kernel_rfl
def c16 : IR :=
  (.seq (.reg false [⟨(some 1), .box 34 8 (.t 0), none⟩, ⟨(some 2), .new 34 8 [(.int .i64 0), (.int .i64 0), (.int .i64 0), (.int .i64 0), (.int .i64 0), (.int .i64 0), (.int .i64 0), (.int .i64 0)], none⟩] [])
  (.seq (.reg false [⟨(some 6), .load true 8 (.t 1), none⟩, ⟨(some 7), .call 14 [(.t 6), (.c (.int .i64 (-1)))], none⟩, ⟨(some 5), .mv (.t 7), none⟩, ⟨(some 8), .ext (.t 5) 0, none⟩, ⟨(some 9), .ext (.t 5) 1, none⟩, ⟨(some 3), .new 34 8 [(.int .i64 0), (.int .i64 0), (.int .i64 0), (.int .i64 0), (.int .i64 0), (.int .i64 0), (.int .i64 0), (.int .i64 0)], none⟩, ⟨none, .store 8 (.t 3) (.t 8), none⟩, ⟨(some 4), .mv (.t 9), none⟩] [])
  (.seq (.reg false [⟨(some 10), .load true 8 (.t 3), none⟩, ⟨none, .store 8 (.t 2) (.t 10), none⟩] [])
  .ret)))
theorem ok16 : (Go.Proofs.Tryd.f16.body).bind (comp Go.Proofs.Tryd.prog) = some c16 := by kernel_rfl
def c18 : IR :=
  (.seq (.reg false [⟨(some 2), .box 34 8 (.t 0), none⟩, ⟨(some 3), .box 34 8 (.t 1), none⟩, ⟨(some 4), .mv (.c (.bool false)), none⟩] [])
  (.seq (.reg false [⟨(some 5), .load true 8 (.t 2), none⟩, ⟨(some 6), .load true 8 (.t 3), none⟩, ⟨(some 7), .aeq 8 false (.t 5) (.t 6), none⟩, ⟨(some 4), .mv (.t 7), none⟩] [])
  .ret))
theorem ok18 : (Go.Proofs.Tryd.f18.body).bind (comp Go.Proofs.Tryd.prog) = some c18 := by kernel_rfl
def c19 : IR :=
  (.seq (.reg false [⟨(some 2), .new 34 8 [(.int .i64 0), (.int .i64 0), (.int .i64 0), (.int .i64 0), (.int .i64 0), (.int .i64 0), (.int .i64 0), (.int .i64 0)], none⟩, ⟨(some 3), .mv (.c (.bool false)), none⟩] [])
  (.seq (.reg false [⟨(some 4), .new 34 8 [(.int .i64 0), (.int .i64 0), (.int .i64 0), (.int .i64 0), (.int .i64 0), (.int .i64 0), (.int .i64 0), (.int .i64 0)], none⟩] [])
  (.seq (.seq (.reg false [⟨(some 5), .mv (.t 0), none⟩, ⟨(some 6), .bin .lss (.t 5) (.c (.int .i64 0)), none⟩, ⟨(some 7), .mv (.t 6), none⟩, ⟨(some 8), .mv (.t 0), (some ((some 7), false))⟩, ⟨(some 9), .bin .geq (.t 8) (.c (.int .i64 8)), (some ((some 7), false))⟩, ⟨(some 10), .pick (.t 7) (.c (.bool true)) (.t 9), none⟩] [])
  (.cond (.t 10)
    (.seq (.reg false [⟨(some 11), .load true 8 (.t 4), none⟩, ⟨none, .store 8 (.t 2) (.t 11), none⟩, ⟨(some 3), .mv (.c (.bool false)), none⟩] [])
    .ret)
    .skip))
  (.seq (.reg false [⟨(some 12), .mv (.t 0), none⟩, ⟨(some 13), .iaddrA 8 1 (.t 4) (.t 12), none⟩, ⟨none, .store 1 (.t 13) (.c (.int .i64 1)), none⟩] [])
  (.seq (.reg false [⟨(some 14), .load true 8 (.t 4), none⟩, ⟨none, .store 8 (.t 2) (.t 14), none⟩, ⟨(some 3), .mv (.c (.bool true)), none⟩] [])
  .ret)))))
theorem ok19 : (Go.Proofs.Tryd.f19.body).bind (comp Go.Proofs.Tryd.prog) = some c19 := by kernel_rfl
def c21 : IR :=
  (.seq (.reg false [⟨(some 1), .box 34 8 (.t 0), none⟩, ⟨(some 2), .mv (.c (.str ⟨#[]⟩)), none⟩] [])
  (.seq (.reg false [⟨(some 3), .mv (.c .nils), none⟩] [])
  (.seq (.seq (.reg false [⟨(some 6), .load true 8 (.t 1), none⟩, ⟨(some 7), .mv (.c (.int .i64 0)), none⟩] [])
  (.block 0 (.loop (.seq (.reg false [⟨(some 8), .bin .lss (.t 7) (.c (.int .i64 8)), none⟩] [])
      (.seq (.cond (.t 8)
        .skip
        (.exit 0))
      (.seq (.block 1 (.seq (.reg false [⟨(some 9), .idxA 8 1 false (.t 6) (.t 7), none⟩, ⟨(some 5), .mv (.t 9), none⟩] [])
        (.reg false [⟨(some 10), .mv (.t 3), none⟩, ⟨(some 11), .mv (.t 5), none⟩, ⟨(some 12), .call 26 [(.t 11)], none⟩, ⟨(some 13), .lit 9 1 1 [(.str ⟨#[]⟩)] [(0, 1, (.t 12))], none⟩, ⟨(some 14), .app 9 1 16 (.t 10) (.t 13), none⟩, ⟨(some 3), .mv (.t 14), none⟩] [])))
      (.reg false [⟨(some 15), .bin .add (.t 7) (.c (.int .i64 1)), none⟩, ⟨(some 7), .mv (.t 15), none⟩] [])))))))
  (.seq (.reg false [⟨(some 16), .mv (.t 3), none⟩, ⟨(some 17), .call 27 [(.t 16), (.c (.str ⟨#[44]⟩))], none⟩, ⟨(some 2), .mv (.t 17), none⟩] [])
  .ret))))
theorem ok21 : (Go.Proofs.Tryd.f21.body).bind (comp Go.Proofs.Tryd.prog) = some c21 := by kernel_rfl
def c23 : IR :=
  (.seq (.reg false [⟨(some 1), .box 34 8 (.t 0), none⟩, ⟨(some 2), .mv (.c (.bool false)), none⟩] [])
  (.seq (.reg false [⟨(some 3), .slcA 8 1 (.t 1), none⟩, ⟨(some 4), .call 28 [(.t 3), (.c (.fn 29 []))], none⟩, ⟨(some 5), .not (.t 4), none⟩, ⟨(some 2), .mv (.t 5), none⟩] [])
  .ret))
theorem ok23 : (Go.Proofs.Tryd.f23.body).bind (comp Go.Proofs.Tryd.prog) = some c23 := by kernel_rfl
def c25 : IR :=
  (.seq (.reg false [⟨(some 2), .mv (.c (.bool false)), none⟩] [])
  (.seq (.reg false [⟨(some 3), .mv (.t 0), none⟩, ⟨(some 4), .bin .geq (.t 3) (.c (.int .i64 (-100))), none⟩, ⟨(some 5), .mv (.t 4), none⟩, ⟨(some 6), .mv (.t 0), (some ((some 5), true))⟩, ⟨(some 7), .bin .leq (.t 6) (.c (.int .i64 100)), (some ((some 5), true))⟩, ⟨(some 8), .pick (.t 5) (.t 7) (.c (.bool false)), none⟩, ⟨(some 2), .mv (.t 8), none⟩] [])
  .ret))
theorem ok25 : (Go.Proofs.Tryd.f25.body).bind (comp Go.Proofs.Tryd.prog) = some c25 := by kernel_rfl
def c29 : IR :=
  (.seq (.reg false [⟨(some 2), .mv (.c (.bool false)), none⟩] [])
  (.seq (.reg false [⟨(some 3), .mv (.t 0), none⟩, ⟨(some 4), .call 25 [(.t 3)], none⟩, ⟨(some 5), .not (.t 4), none⟩, ⟨(some 2), .mv (.t 5), none⟩] [])
  .ret))
theorem ok29 : (Go.Proofs.Tryd.f29.body).bind (comp Go.Proofs.Tryd.prog) = some c29 := by kernel_rfl
end Go.Proofs.YticocfhgopppjaaDoorK.NatIr
