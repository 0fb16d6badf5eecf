/-
  The compiled bodies, printed: IrLaw4.
-/
import Derived.Test.YtapikjmijmebpaaGreatDoorKAb
import Derived.Test.YtapikjmijmebpaaGreatDoorProg
set_option linter.all false
set_option linter.unusedVariables false
set_option linter.unusedSimpArgs false
set_option maxHeartbeats 4000000
namespace Go.Proofs.YtapikjmijmebpaaGreatDoorK.NatIr
open Go.Proofs.YtapikjmijmebpaaGreatDoorK.AI
/-- cubit/cubitlaw4.awake -/
def c28 : IR :=
  (.seq (.reg false [⟨(some 0), .mv (.c (.bool false)), none⟩] [])
  (.seq (.reg false [⟨(some 4), .call 29 [(.c (.str ⟨#[48, 49, 46, 53, 48]⟩))], none⟩, ⟨(some 3), .mv (.t 4), none⟩, ⟨(some 5), .ext (.t 3) 0, none⟩, ⟨(some 6), .ext (.t 3) 1, none⟩, ⟨(some 1), .new 30 3 [(.bool false), .nils, (.int .i64 0)], none⟩, ⟨none, .store 3 (.t 1) (.t 5), none⟩, ⟨(some 2), .mv (.t 6), none⟩] [])
  (.seq (.reg false [⟨(some 7), .mv (.t 2), none⟩, ⟨(some 8), .bin .eql (.t 7) (.c (.int .i64 0)), none⟩, ⟨(some 9), .mv (.t 8), none⟩, ⟨(some 10), .load true 3 (.t 1), (some ((some 9), true))⟩, ⟨(some 11), .call 32 [(.t 10)], (some ((some 9), true))⟩, ⟨(some 12), .bin .eql (.t 11) (.c (.str ⟨#[49, 46, 53, 48]⟩)), (some ((some 9), true))⟩, ⟨(some 13), .pick (.t 9) (.t 12) (.c (.bool false)), none⟩, ⟨(some 14), .mv (.t 13), none⟩, ⟨(some 15), .load true 3 (.t 1), (some ((some 14), true))⟩, ⟨(some 16), .call 39 [(.t 15)], (some ((some 14), true))⟩, ⟨(some 17), .call 32 [(.t 16)], (some ((some 14), true))⟩, ⟨(some 18), .bin .eql (.t 17) (.c (.str ⟨#[49, 46, 53]⟩)), (some ((some 14), true))⟩, ⟨(some 19), .pick (.t 14) (.t 18) (.c (.bool false)), none⟩, ⟨(some 20), .mv (.t 19), none⟩, ⟨(some 21), .load true 3 (.t 1), (some ((some 20), true))⟩, ⟨(some 22), .call 30 [(.t 21)], (some ((some 20), true))⟩, ⟨(some 23), .bin .eql (.t 22) (.c (.str ⟨#[53, 48]⟩)), (some ((some 20), true))⟩, ⟨(some 24), .pick (.t 20) (.t 23) (.c (.bool false)), none⟩, ⟨(some 25), .mv (.t 24), none⟩, ⟨(some 26), .load true 3 (.t 1), (some ((some 25), true))⟩, ⟨(some 27), .call 50 [(.t 26)], (some ((some 25), true))⟩, ⟨(some 28), .call 59 [(.c (.int .u64 1))], (some ((some 25), true))⟩, ⟨(some 29), .call 49 [(.t 27), (.t 28)], (some ((some 25), true))⟩, ⟨(some 30), .pick (.t 25) (.t 29) (.c (.bool false)), none⟩, ⟨(some 31), .mv (.t 30), none⟩, ⟨(some 32), .load true 3 (.t 1), (some ((some 31), true))⟩, ⟨(some 33), .call 24 [(.t 32)], (some ((some 31), true))⟩, ⟨(some 34), .pick (.t 31) (.t 33) (.c (.bool false)), none⟩, ⟨(some 0), .mv (.t 34), none⟩] [])
  .ret)))
theorem ok28 : (Go.Proofs.Tryz.f28.body).bind (comp Go.Proofs.Tryz.prog) = some c28 := by kernel_rfl
/-- cubit/cubitlaw4.whole -/
def c31 : IR :=
  (.seq (.reg false [⟨(some 1), .box 30 3 (.t 0), none⟩, ⟨(some 2), .mv (.c (.str ⟨#[]⟩)), none⟩] [])
  (.seq (.reg false [⟨(some 5), .load true 3 (.t 1), none⟩, ⟨(some 6), .call 32 [(.t 5)], none⟩, ⟨(some 3), .mv (.t 6), none⟩] [])
  (.seq (.seq (.reg false [⟨(some 7), .mv (.t 3), none⟩, ⟨(some 8), .lenS (.t 7), none⟩, ⟨(some 9), .bin .gtr (.t 8) (.c (.int .i64 0)), none⟩, ⟨(some 10), .mv (.t 9), none⟩, ⟨(some 11), .mv (.t 3), (some ((some 10), true))⟩, ⟨(some 12), .idxs (.t 11) (.c (.int .i64 0)), (some ((some 10), true))⟩, ⟨(some 13), .bin .eql (.t 12) (.c (.int .u8 45)), (some ((some 10), true))⟩, ⟨(some 14), .pick (.t 10) (.t 13) (.c (.bool false)), none⟩] [])
  (.cond (.t 14)
    (.reg false [⟨(some 15), .mv (.t 3), none⟩, ⟨(some 16), .slcS (.t 15) (some (.c (.int .i64 1))) none, none⟩, ⟨(some 3), .mv (.t 16), none⟩] [])
    .skip))
  (.seq (.seq (.reg false [⟨(some 4), .mv (.c (.int .i64 0)), none⟩] [])
  (.block 0 (.loop (.seq (.seq (.reg false [⟨(some 17), .mv (.t 4), none⟩, ⟨(some 18), .mv (.t 3), none⟩, ⟨(some 19), .lenS (.t 18), none⟩, ⟨(some 20), .bin .lss (.t 17) (.t 19), none⟩] [])
      (.cond (.t 20)
        .skip
        (.exit 0)))
      (.seq (.block 1 (.seq (.reg false [⟨(some 23), .mv (.t 3), none⟩, ⟨(some 24), .mv (.t 4), none⟩, ⟨(some 25), .idxs (.t 23) (.t 24), none⟩, ⟨(some 26), .bin .eql (.t 25) (.c (.int .u8 46)), none⟩] [])
        (.cond (.t 26)
          (.seq (.reg false [⟨(some 27), .mv (.t 3), none⟩, ⟨(some 28), .mv (.t 4), none⟩, ⟨(some 29), .slcS (.t 27) none (some (.t 28)), none⟩, ⟨(some 2), .mv (.t 29), none⟩] [])
          .ret)
          .skip)))
      (.reg false [⟨(some 21), .mv (.t 4), none⟩, ⟨(some 22), .bin .add (.t 21) (.c (.int .i64 1)), none⟩, ⟨(some 4), .mv (.t 22), none⟩] []))))))
  (.seq (.reg false [⟨(some 30), .mv (.t 3), none⟩, ⟨(some 2), .mv (.t 30), none⟩] [])
  .ret)))))
theorem ok31 : (Go.Proofs.Tryz.f31.body).bind (comp Go.Proofs.Tryz.prog) = some c31 := by kernel_rfl
/-- cubit/cubitlaw4.long -/
def c40 : IR :=
  (.seq (.reg false [⟨(some 1), .box 28 3 (.t 0), none⟩, ⟨(some 2), .mv (.c (.bool false)), none⟩] [])
  (.seq (.reg false [⟨(some 3), .faddr 0 (.t 1), none⟩, ⟨(some 4), .faddr 1 (.t 3), none⟩, ⟨(some 5), .faddr 0 (.t 4), none⟩, ⟨(some 6), .load false 1 (.t 5), none⟩, ⟨(some 7), .lenL (.t 6), none⟩, ⟨(some 8), .bin .gtr (.t 7) (.c (.int .i64 12)), none⟩, ⟨(some 9), .mv (.t 8), none⟩, ⟨(some 10), .faddr 2 (.t 1), (some ((some 9), false))⟩, ⟨(some 11), .faddr 0 (.t 10), (some ((some 9), false))⟩, ⟨(some 12), .load false 1 (.t 11), (some ((some 9), false))⟩, ⟨(some 13), .lenL (.t 12), (some ((some 9), false))⟩, ⟨(some 14), .bin .gtr (.t 13) (.c (.int .i64 12)), (some ((some 9), false))⟩, ⟨(some 15), .pick (.t 9) (.c (.bool true)) (.t 14), none⟩, ⟨(some 2), .mv (.t 15), none⟩] [])
  .ret))
theorem ok40 : (Go.Proofs.Tryz.f40.body).bind (comp Go.Proofs.Tryz.prog) = some c40 := by kernel_rfl
/-- cubit/cubitlaw4.dis -/
def c42 : IR :=
  (.seq (.reg false [⟨(some 2), .box 30 3 (.t 0), none⟩, ⟨(some 3), .box 50 3 (.t 1), none⟩, ⟨(some 4), .mv (.c (.bool false)), none⟩] [])
  (.seq (.reg false [⟨(some 5), .load true 3 (.t 2), none⟩, ⟨(some 6), .call 24 [(.t 5)], none⟩, ⟨(some 7), .mv (.t 6), none⟩, ⟨(some 8), .faddr 0 (.t 2), (some ((some 7), true))⟩, ⟨(some 9), .load false 1 (.t 8), (some ((some 7), true))⟩, ⟨(some 10), .faddr 0 (.t 3), (some ((some 7), true))⟩, ⟨(some 11), .load false 1 (.t 10), (some ((some 7), true))⟩, ⟨(some 12), .beq false (.t 9) (.t 11), (some ((some 7), true))⟩, ⟨(some 13), .pick (.t 7) (.t 12) (.c (.bool false)), none⟩, ⟨(some 14), .mv (.t 13), none⟩, ⟨(some 15), .faddr 2 (.t 2), (some ((some 14), true))⟩, ⟨(some 16), .load false 1 (.t 15), (some ((some 14), true))⟩, ⟨(some 17), .faddr 2 (.t 3), (some ((some 14), true))⟩, ⟨(some 18), .load false 1 (.t 17), (some ((some 14), true))⟩, ⟨(some 19), .bin .eql (.t 16) (.t 18), (some ((some 14), true))⟩, ⟨(some 20), .pick (.t 14) (.t 19) (.c (.bool false)), none⟩, ⟨(some 21), .mv (.t 20), none⟩, ⟨(some 22), .faddr 1 (.t 2), (some ((some 21), true))⟩, ⟨(some 23), .load true 1 (.t 22), (some ((some 21), true))⟩, ⟨(some 24), .faddr 1 (.t 3), (some ((some 21), true))⟩, ⟨(some 25), .load false 1 (.t 24), (some ((some 21), true))⟩, ⟨(some 26), .call 49 [(.t 23), (.t 25)], (some ((some 21), true))⟩, ⟨(some 27), .pick (.t 21) (.t 26) (.c (.bool false)), none⟩, ⟨(some 4), .mv (.t 27), none⟩] [])
  .ret))
theorem ok42 : (Go.Proofs.Tryz.f42.body).bind (comp Go.Proofs.Tryz.prog) = some c42 := by kernel_rfl
/-- cubit/cubitlaw4.raw -/
def c43 : IR :=
  (.seq (.reg false [⟨(some 1), .box 30 3 (.t 0), none⟩, ⟨(some 2), .new 50 3 [(.bool false), .nils, (.int .i64 0)], none⟩] [])
  (.seq (.seq (.reg false [⟨(some 3), .load true 3 (.t 1), none⟩, ⟨(some 4), .call 24 [(.t 3)], none⟩, ⟨(some 5), .not (.t 4), none⟩] [])
  (.cond (.t 5)
    (.seq (.reg false [⟨(some 6), .build [(.bool false), .nils, (.int .i64 0)] [], none⟩, ⟨none, .store 3 (.t 2) (.t 6), none⟩] [])
    .ret)
    .skip))
  (.seq (.reg true [⟨(some 7), .faddr 0 (.t 1), none⟩, ⟨(some 8), .load false 1 (.t 7), none⟩, ⟨(some 9), .faddr 1 (.t 1), none⟩, ⟨(some 10), .faddr 0 (.t 9), none⟩, ⟨(some 11), .load false 1 (.t 10), none⟩, ⟨(some 12), .call 26 [(.t 11)], none⟩, ⟨(some 13), .faddr 2 (.t 1), none⟩, ⟨(some 14), .load false 1 (.t 13), none⟩, ⟨(some 15), .build [(.bool false), .nils, (.int .i64 0)] [(0, 1, (.t 8)), (1, 1, (.t 12)), (2, 1, (.t 14))], none⟩, ⟨none, .store 3 (.t 2) (.t 15), none⟩] [0, 1, 0, 4, 12, 28, 0, 64, 255, 511])
  .ret)))
theorem ok43 : (Go.Proofs.Tryz.f43.body).bind (comp Go.Proofs.Tryz.prog) = some c43 := by kernel_rfl
/-- cubit/cubitlaw4.own -/
def c45 : IR :=
  (.seq (.reg false [⟨(some 1), .box 28 3 (.t 0), none⟩, ⟨(some 2), .new 38 3 [(.bool false), .nils, .nils], none⟩] [])
  (.seq (.reg false [⟨(some 4), .faddr 2 (.t 1), none⟩, ⟨(some 5), .faddr 0 (.t 4), none⟩, ⟨(some 6), .load false 1 (.t 5), none⟩, ⟨(some 7), .call 26 [(.t 6)], none⟩, ⟨(some 3), .mv (.t 7), none⟩] [])
  (.seq (.seq (.reg false [⟨(some 8), .mv (.t 3), none⟩, ⟨(some 9), .lenL (.t 8), none⟩, ⟨(some 10), .bin .eql (.t 9) (.c (.int .i64 0)), none⟩] [])
  (.cond (.t 10)
    (.seq (.reg false [⟨(some 11), .call 71 [(.c (.int .i64 0))], none⟩, ⟨none, .store 3 (.t 2) (.t 11), none⟩] [])
    .ret)
    .skip))
  (.seq (.reg true [⟨(some 12), .faddr 0 (.t 1), none⟩, ⟨(some 13), .faddr 0 (.t 12), none⟩, ⟨(some 14), .load false 1 (.t 13), none⟩, ⟨(some 15), .faddr 0 (.t 1), none⟩, ⟨(some 16), .faddr 1 (.t 15), none⟩, ⟨(some 17), .faddr 0 (.t 16), none⟩, ⟨(some 18), .load false 1 (.t 17), none⟩, ⟨(some 19), .call 26 [(.t 18)], none⟩, ⟨(some 20), .call 73 [(.t 14), (.t 19)], none⟩, ⟨(some 21), .mv (.t 3), none⟩, ⟨(some 22), .call 72 [(.t 20), (.t 21)], none⟩, ⟨none, .store 3 (.t 2) (.t 22), none⟩] [0, 1, 3, 0, 8, 24, 56, 120, 255, 0, 1023, 2047])
  .ret))))
theorem ok45 : (Go.Proofs.Tryz.f45.body).bind (comp Go.Proofs.Tryz.prog) = some c45 := by kernel_rfl
/-- cubit/cubitlaw4.qis -/
def c47 : IR :=
  (.seq (.reg false [⟨(some 2), .box 28 3 (.t 0), none⟩, ⟨(some 3), .box 38 3 (.t 1), none⟩, ⟨(some 4), .mv (.c (.bool false)), none⟩] [])
  (.seq (.reg false [⟨(some 5), .faddr 0 (.t 2), none⟩, ⟨(some 6), .load true 2 (.t 5), none⟩, ⟨(some 7), .faddr 0 (.t 3), none⟩, ⟨(some 8), .load true 2 (.t 7), none⟩, ⟨(some 9), .call 123 [(.t 6), (.t 8)], none⟩, ⟨(some 10), .mv (.t 9), none⟩, ⟨(some 11), .faddr 2 (.t 2), (some ((some 10), true))⟩, ⟨(some 12), .load true 1 (.t 11), (some ((some 10), true))⟩, ⟨(some 13), .faddr 2 (.t 3), (some ((some 10), true))⟩, ⟨(some 14), .load false 1 (.t 13), (some ((some 10), true))⟩, ⟨(some 15), .call 49 [(.t 12), (.t 14)], (some ((some 10), true))⟩, ⟨(some 16), .pick (.t 10) (.t 15) (.c (.bool false)), none⟩, ⟨(some 4), .mv (.t 16), none⟩] [])
  .ret))
theorem ok47 : (Go.Proofs.Tryz.f47.body).bind (comp Go.Proofs.Tryz.prog) = some c47 := by kernel_rfl
/-- cubit/cubitlaw4.is -/
def c49 : IR :=
  (.seq (.reg false [⟨(some 2), .box 24 1 (.t 0), none⟩, ⟨(some 4), .mv (.c (.bool false)), none⟩] [])
  (.seq (.reg false [⟨(some 5), .faddr 0 (.t 2), none⟩, ⟨(some 6), .load false 1 (.t 5), none⟩, ⟨(some 7), .lenL (.t 6), none⟩, ⟨(some 8), .bin .lss (.t 7) (.c (.int .i64 4000)), none⟩, ⟨(some 9), .mv (.t 8), none⟩, ⟨(some 10), .load true 1 (.t 2), (some ((some 9), true))⟩, ⟨(some 11), .call 103 [(.t 10)], (some ((some 9), true))⟩, ⟨(some 12), .pick (.t 9) (.t 11) (.c (.bool false)), none⟩, ⟨(some 13), .mv (.t 12), none⟩, ⟨(some 14), .faddr 0 (.t 2), (some ((some 13), true))⟩, ⟨(some 15), .load false 1 (.t 14), (some ((some 13), true))⟩, ⟨(some 16), .call 26 [(.t 15)], (some ((some 13), true))⟩, ⟨(some 17), .mv (.t 1), (some ((some 13), true))⟩, ⟨(some 18), .call 124 [(.t 16), (.t 17)], (some ((some 13), true))⟩, ⟨(some 19), .bin .eql (.t 18) (.c (.int .i64 0)), (some ((some 13), true))⟩, ⟨(some 20), .pick (.t 13) (.t 19) (.c (.bool false)), none⟩, ⟨(some 4), .mv (.t 20), none⟩] [])
  .ret))
theorem ok49 : (Go.Proofs.Tryz.f49.body).bind (comp Go.Proofs.Tryz.prog) = some c49 := by kernel_rfl
/-- cubit/cubitlaw4.zis -/
def c123 : IR :=
  (.seq (.reg false [⟨(some 2), .box 26 2 (.t 0), none⟩, ⟨(some 3), .box 36 2 (.t 1), none⟩, ⟨(some 4), .mv (.c (.bool false)), none⟩] [])
  (.seq (.reg false [⟨(some 5), .load true 2 (.t 2), none⟩, ⟨(some 6), .call 86 [(.t 5)], none⟩, ⟨(some 7), .mv (.t 6), none⟩, ⟨(some 8), .faddr 0 (.t 2), (some ((some 7), true))⟩, ⟨(some 9), .load false 1 (.t 8), (some ((some 7), true))⟩, ⟨(some 10), .faddr 0 (.t 3), (some ((some 7), true))⟩, ⟨(some 11), .load false 1 (.t 10), (some ((some 7), true))⟩, ⟨(some 12), .beq false (.t 9) (.t 11), (some ((some 7), true))⟩, ⟨(some 13), .pick (.t 7) (.t 12) (.c (.bool false)), none⟩, ⟨(some 14), .mv (.t 13), none⟩, ⟨(some 15), .faddr 1 (.t 2), (some ((some 14), true))⟩, ⟨(some 16), .load true 1 (.t 15), (some ((some 14), true))⟩, ⟨(some 17), .faddr 1 (.t 3), (some ((some 14), true))⟩, ⟨(some 18), .load false 1 (.t 17), (some ((some 14), true))⟩, ⟨(some 19), .call 49 [(.t 16), (.t 18)], (some ((some 14), true))⟩, ⟨(some 20), .pick (.t 14) (.t 19) (.c (.bool false)), none⟩, ⟨(some 4), .mv (.t 20), none⟩] [])
  .ret))
theorem ok123 : (Go.Proofs.Tryz.f123.body).bind (comp Go.Proofs.Tryz.prog) = some c123 := by kernel_rfl
end Go.Proofs.YtapikjmijmebpaaGreatDoorK.NatIr
