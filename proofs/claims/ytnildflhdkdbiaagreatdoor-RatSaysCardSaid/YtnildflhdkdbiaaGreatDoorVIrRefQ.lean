/-
  The compiled bodies, printed: IrRefQ.
-/
import Derived.Test.YtnildflhdkdbiaaGreatDoorVAb
import Derived.Test.YtnildflhdkdbiaaGreatDoorProg
set_option linter.all false
set_option linter.unusedVariables false
set_option linter.unusedSimpArgs false
set_option maxHeartbeats 4000000
namespace Go.Proofs.YtnildflhdkdbiaaGreatDoorV.NatIr
open Go.Proofs.YtnildflhdkdbiaaGreatDoorV.AI
/-- cubit/cubitref1.QParse -/
def c70 : IR :=
  (.seq (.reg false [⟨(some 2), .new 92 3 [(.bool false), .nils, .nils], none⟩, ⟨(some 3), .mv (.c (.bool false)), none⟩] [])
  (.seq (.reg false [⟨(some 4), .mv (.c (.int .i64 0)), none⟩] [])
  (.seq (.block 0 (.loop (.seq (.seq (.reg false [⟨(some 9), .mv (.t 4), none⟩, ⟨(some 10), .mv (.t 0), none⟩, ⟨(some 11), .lenS (.t 10), none⟩, ⟨(some 12), .bin .lss (.t 9) (.t 11), none⟩, ⟨(some 13), .mv (.t 12), none⟩, ⟨(some 14), .mv (.t 0), (some ((some 13), true))⟩, ⟨(some 15), .mv (.t 4), (some ((some 13), true))⟩, ⟨(some 16), .idxs (.t 14) (.t 15), (some ((some 13), true))⟩, ⟨(some 17), .bin .neq (.t 16) (.c (.int .u8 47)), (some ((some 13), true))⟩, ⟨(some 18), .pick (.t 13) (.t 17) (.c (.bool false)), none⟩] [])
      (.cond (.t 18)
        .skip
        (.exit 0)))
      (.block 1 (.reg false [⟨(some 19), .mv (.t 4), none⟩, ⟨(some 20), .bin .add (.t 19) (.c (.int .i64 1)), none⟩, ⟨(some 4), .mv (.t 20), none⟩] [])))))
  (.seq (.reg false [⟨(some 22), .mv (.t 0), none⟩, ⟨(some 23), .mv (.t 4), none⟩, ⟨(some 24), .slcS (.t 22) none (some (.t 23)), none⟩, ⟨(some 25), .call 46 [(.t 24)], none⟩, ⟨(some 21), .mv (.t 25), none⟩, ⟨(some 26), .ext (.t 21) 0, none⟩, ⟨(some 27), .ext (.t 21) 1, none⟩, ⟨(some 5), .new 56 2 [(.bool false), .nils], none⟩, ⟨none, .store 2 (.t 5) (.t 26), none⟩, ⟨(some 6), .mv (.t 27), none⟩] [])
  (.seq (.seq (.reg false [⟨(some 28), .mv (.t 6), none⟩, ⟨(some 29), .not (.t 28), none⟩] [])
  (.cond (.t 29)
    (.seq (.reg false [⟨(some 30), .call 83 [(.c (.int .i64 0))], none⟩, ⟨none, .store 3 (.t 2) (.t 30), none⟩, ⟨(some 3), .mv (.c (.bool false)), none⟩] [])
    .ret)
    .skip))
  (.seq (.seq (.reg false [⟨(some 31), .mv (.t 4), none⟩, ⟨(some 32), .mv (.t 0), none⟩, ⟨(some 33), .lenS (.t 32), none⟩, ⟨(some 34), .bin .eql (.t 31) (.t 33), none⟩] [])
  (.cond (.t 34)
    (.seq (.reg true [⟨(some 35), .load true 2 (.t 5), none⟩, ⟨(some 36), .call 85 [(.c (.int .u64 1))], none⟩, ⟨(some 37), .build [(.bool false), .nils, .nils] [(0, 2, (.t 35)), (2, 1, (.t 36))], none⟩, ⟨none, .store 3 (.t 2) (.t 37), none⟩, ⟨(some 3), .mv (.c (.bool true)), none⟩] [0, 0, 3, 7, 15])
    .ret)
    .skip))
  (.seq (.reg false [⟨(some 39), .mv (.t 0), none⟩, ⟨(some 40), .mv (.t 4), none⟩, ⟨(some 41), .bin .add (.t 40) (.c (.int .i64 1)), none⟩, ⟨(some 42), .slcS (.t 39) (some (.t 41)) none, none⟩, ⟨(some 43), .call 107 [(.t 42)], none⟩, ⟨(some 38), .mv (.t 43), none⟩, ⟨(some 44), .ext (.t 38) 0, none⟩, ⟨(some 45), .ext (.t 38) 1, none⟩, ⟨(some 7), .mv (.t 44), none⟩, ⟨(some 8), .mv (.t 45), none⟩] [])
  (.seq (.seq (.reg false [⟨(some 46), .mv (.t 8), none⟩, ⟨(some 47), .not (.t 46), none⟩, ⟨(some 48), .mv (.t 47), none⟩, ⟨(some 49), .mv (.t 7), (some ((some 48), false))⟩, ⟨(some 50), .lenL (.t 49), (some ((some 48), false))⟩, ⟨(some 51), .bin .eql (.t 50) (.c (.int .i64 0)), (some ((some 48), false))⟩, ⟨(some 52), .pick (.t 48) (.c (.bool true)) (.t 51), none⟩] [])
  (.cond (.t 52)
    (.seq (.reg false [⟨(some 53), .call 83 [(.c (.int .i64 0))], none⟩, ⟨none, .store 3 (.t 2) (.t 53), none⟩, ⟨(some 3), .mv (.c (.bool false)), none⟩] [])
    .ret)
    .skip))
  (.seq (.reg false [⟨(some 54), .load true 2 (.t 5), none⟩, ⟨(some 55), .mv (.t 7), none⟩, ⟨(some 56), .call 108 [(.t 54), (.t 55)], none⟩, ⟨none, .store 3 (.t 2) (.t 56), none⟩, ⟨(some 3), .mv (.c (.bool true)), none⟩] [])
  .ret)))))))))
theorem ok70 : (Go.Proofs.Tryz.f70.body).bind (comp Go.Proofs.Tryz.prog) = some c70 := by kernel_rfl
/-- cubit/cubitref1.QPow -/
def c72 : IR :=
  (.seq (.reg false [⟨(some 2), .box 92 3 (.t 0), none⟩, ⟨(some 4), .new 92 3 [(.bool false), .nils, .nils], none⟩, ⟨(some 5), .mv (.c (.bool false)), none⟩] [])
  (.seq (.seq (.reg false [⟨(some 8), .mv (.t 1), none⟩, ⟨(some 9), .bin .lss (.t 8) (.c (.int .i64 0)), none⟩] [])
  (.cond (.t 9)
    (.seq (.seq (.reg false [⟨(some 10), .load true 3 (.t 2), none⟩, ⟨(some 11), .call 73 [(.t 10)], none⟩, ⟨(some 12), .bin .eql (.t 11) (.c (.int .i64 0)), none⟩] [])
    (.cond (.t 12)
      (.seq (.reg false [⟨(some 13), .call 83 [(.c (.int .i64 0))], none⟩, ⟨none, .store 3 (.t 4) (.t 13), none⟩, ⟨(some 5), .mv (.c (.bool false)), none⟩] [])
      .ret)
      .skip))
    (.reg false [⟨(some 14), .load true 3 (.t 2), none⟩, ⟨(some 15), .call 75 [(.t 14)], none⟩, ⟨(some 16), .mv (.t 1), none⟩, ⟨(some 17), .neg (.t 16), none⟩, ⟨none, .store 3 (.t 2) (.t 15), none⟩, ⟨(some 1), .mv (.t 17), none⟩] []))
    .skip))
  (.seq (.reg false [⟨(some 18), .call 83 [(.c (.int .i64 1))], none⟩, ⟨(some 6), .new 92 3 [(.bool false), .nils, .nils], none⟩, ⟨none, .store 3 (.t 6) (.t 18), none⟩] [])
  (.seq (.seq (.reg false [⟨(some 7), .mv (.c (.int .i64 0)), none⟩] [])
  (.block 0 (.loop (.seq (.seq (.reg false [⟨(some 19), .mv (.t 7), none⟩, ⟨(some 20), .mv (.t 1), none⟩, ⟨(some 21), .bin .lss (.t 19) (.t 20), none⟩] [])
      (.cond (.t 21)
        .skip
        (.exit 0)))
      (.seq (.block 1 (.reg false [⟨(some 24), .load true 3 (.t 6), none⟩, ⟨(some 25), .load true 3 (.t 2), none⟩, ⟨(some 26), .call 79 [(.t 24), (.t 25)], none⟩, ⟨none, .store 3 (.t 6) (.t 26), none⟩] []))
      (.reg false [⟨(some 22), .mv (.t 7), none⟩, ⟨(some 23), .bin .add (.t 22) (.c (.int .i64 1)), none⟩, ⟨(some 7), .mv (.t 23), none⟩] []))))))
  (.seq (.reg false [⟨(some 27), .load true 3 (.t 6), none⟩, ⟨none, .store 3 (.t 4) (.t 27), none⟩, ⟨(some 5), .mv (.c (.bool true)), none⟩] [])
  .ret)))))
theorem ok72 : (Go.Proofs.Tryz.f72.body).bind (comp Go.Proofs.Tryz.prog) = some c72 := by kernel_rfl
/-- cubit/cubitref1.QSign -/
def c73 : IR :=
  (.seq (.reg false [⟨(some 1), .box 92 3 (.t 0), none⟩, ⟨(some 2), .mv (.c (.int .i64 0)), none⟩] [])
  (.seq (.reg false [⟨(some 3), .faddr 0 (.t 1), none⟩, ⟨(some 4), .load true 2 (.t 3), none⟩, ⟨(some 5), .call 44 [(.t 4)], none⟩, ⟨(some 2), .mv (.t 5), none⟩] [])
  .ret))
theorem ok73 : (Go.Proofs.Tryz.f73.body).bind (comp Go.Proofs.Tryz.prog) = some c73 := by kernel_rfl
/-- cubit/cubitref1.QInv -/
def c75 : IR :=
  (.seq (.reg false [⟨(some 1), .box 92 3 (.t 0), none⟩, ⟨(some 2), .new 92 3 [(.bool false), .nils, .nils], none⟩] [])
  (.seq (.reg true [⟨(some 3), .faddr 0 (.t 1), none⟩, ⟨(some 4), .faddr 0 (.t 3), none⟩, ⟨(some 5), .load false 1 (.t 4), none⟩, ⟨(some 6), .faddr 2 (.t 1), none⟩, ⟨(some 7), .load false 1 (.t 6), none⟩, ⟨(some 8), .call 106 [(.t 5), (.t 7)], none⟩, ⟨(some 9), .faddr 0 (.t 1), none⟩, ⟨(some 10), .faddr 1 (.t 9), none⟩, ⟨(some 11), .load false 1 (.t 10), none⟩, ⟨(some 12), .build [(.bool false), .nils, .nils] [(0, 2, (.t 8)), (2, 1, (.t 11))], none⟩, ⟨none, .store 3 (.t 2) (.t 12), none⟩] [0, 1, 3, 0, 8, 31, 0, 64, 192, 511, 1023])
  .ret))
theorem ok75 : (Go.Proofs.Tryz.f75.body).bind (comp Go.Proofs.Tryz.prog) = some c75 := by kernel_rfl
/-- cubit/cubitref1.QCmp -/
def c76 : IR :=
  (.seq (.reg false [⟨(some 2), .box 92 3 (.t 0), none⟩, ⟨(some 3), .box 92 3 (.t 1), none⟩, ⟨(some 4), .mv (.c (.int .i64 0)), none⟩] [])
  (.seq (.reg true [⟨(some 5), .load true 3 (.t 2), none⟩, ⟨(some 6), .load true 3 (.t 3), none⟩, ⟨(some 7), .call 77 [(.t 6)], none⟩, ⟨(some 8), .call 78 [(.t 5), (.t 7)], none⟩, ⟨(some 9), .call 73 [(.t 8)], none⟩, ⟨(some 4), .mv (.t 9), none⟩] [0, 0, 2, 7, 15, 31])
  .ret))
theorem ok76 : (Go.Proofs.Tryz.f76.body).bind (comp Go.Proofs.Tryz.prog) = some c76 := by kernel_rfl
/-- cubit/cubitref1.QNeg -/
def c77 : IR :=
  (.seq (.reg false [⟨(some 1), .box 92 3 (.t 0), none⟩, ⟨(some 2), .new 92 3 [(.bool false), .nils, .nils], none⟩] [])
  (.seq (.reg true [⟨(some 3), .faddr 0 (.t 1), none⟩, ⟨(some 4), .load true 2 (.t 3), none⟩, ⟨(some 5), .call 41 [(.t 4)], none⟩, ⟨(some 6), .faddr 2 (.t 1), none⟩, ⟨(some 7), .load false 1 (.t 6), none⟩, ⟨(some 8), .build [(.bool false), .nils, .nils] [(0, 2, (.t 5)), (2, 1, (.t 7))], none⟩, ⟨none, .store 3 (.t 2) (.t 8), none⟩] [0, 1, 3, 0, 8, 31, 63])
  .ret))
theorem ok77 : (Go.Proofs.Tryz.f77.body).bind (comp Go.Proofs.Tryz.prog) = some c77 := by kernel_rfl
/-- cubit/cubitref1.QAdd -/
def c78 : IR :=
  (.seq (.reg false [⟨(some 2), .box 92 3 (.t 0), none⟩, ⟨(some 3), .box 92 3 (.t 1), none⟩, ⟨(some 4), .new 92 3 [(.bool false), .nils, .nils], none⟩] [])
  (.seq (.reg true [⟨(some 5), .faddr 0 (.t 2), none⟩, ⟨(some 6), .load true 2 (.t 5), none⟩, ⟨(some 7), .faddr 2 (.t 3), none⟩, ⟨(some 8), .load false 1 (.t 7), none⟩, ⟨(some 9), .build [(.bool false), .nils] [(0, 1, (.c (.bool false))), (1, 1, (.t 8))], none⟩, ⟨(some 10), .call 51 [(.t 6), (.t 9)], none⟩, ⟨(some 11), .faddr 0 (.t 3), none⟩, ⟨(some 12), .load true 2 (.t 11), none⟩, ⟨(some 13), .faddr 2 (.t 2), none⟩, ⟨(some 14), .load false 1 (.t 13), none⟩, ⟨(some 15), .build [(.bool false), .nils] [(0, 1, (.c (.bool false))), (1, 1, (.t 14))], none⟩, ⟨(some 16), .call 51 [(.t 12), (.t 15)], none⟩, ⟨(some 17), .call 49 [(.t 10), (.t 16)], none⟩, ⟨(some 18), .faddr 2 (.t 2), none⟩, ⟨(some 19), .load false 1 (.t 18), none⟩, ⟨(some 20), .faddr 2 (.t 3), none⟩, ⟨(some 21), .load false 1 (.t 20), none⟩, ⟨(some 22), .call 25 [(.t 19), (.t 21)], none⟩, ⟨(some 23), .call 108 [(.t 17), (.t 22)], none⟩, ⟨none, .store 3 (.t 4) (.t 23), none⟩] [0, 1, 0, 4, 12, 31, 0, 64, 0, 256, 768, 2047, 4095, 0, 8192, 0, 32768, 131071, 262143, 524287])
  .ret))
theorem ok78 : (Go.Proofs.Tryz.f78.body).bind (comp Go.Proofs.Tryz.prog) = some c78 := by kernel_rfl
/-- cubit/cubitref1.QMul -/
def c79 : IR :=
  (.seq (.reg false [⟨(some 2), .box 92 3 (.t 0), none⟩, ⟨(some 3), .box 92 3 (.t 1), none⟩, ⟨(some 4), .new 92 3 [(.bool false), .nils, .nils], none⟩] [])
  (.seq (.reg true [⟨(some 5), .faddr 0 (.t 2), none⟩, ⟨(some 6), .load true 2 (.t 5), none⟩, ⟨(some 7), .faddr 0 (.t 3), none⟩, ⟨(some 8), .load true 2 (.t 7), none⟩, ⟨(some 9), .call 51 [(.t 6), (.t 8)], none⟩, ⟨(some 10), .faddr 2 (.t 2), none⟩, ⟨(some 11), .load false 1 (.t 10), none⟩, ⟨(some 12), .faddr 2 (.t 3), none⟩, ⟨(some 13), .load false 1 (.t 12), none⟩, ⟨(some 14), .call 25 [(.t 11), (.t 13)], none⟩, ⟨(some 15), .call 108 [(.t 9), (.t 14)], none⟩, ⟨none, .store 3 (.t 4) (.t 15), none⟩] [0, 1, 0, 4, 15, 0, 32, 0, 128, 511, 1023, 2047])
  .ret))
theorem ok79 : (Go.Proofs.Tryz.f79.body).bind (comp Go.Proofs.Tryz.prog) = some c79 := by kernel_rfl
/-- cubit/cubitref1.QFloor -/
def c81 : IR :=
  (.seq (.reg false [⟨(some 1), .box 92 3 (.t 0), none⟩, ⟨(some 2), .new 56 2 [(.bool false), .nils], none⟩] [])
  (.seq (.reg false [⟨(some 6), .faddr 0 (.t 1), none⟩, ⟨(some 7), .load true 2 (.t 6), none⟩, ⟨(some 8), .faddr 2 (.t 1), none⟩, ⟨(some 9), .load false 1 (.t 8), none⟩, ⟨(some 10), .build [(.bool false), .nils] [(0, 1, (.c (.bool false))), (1, 1, (.t 9))], none⟩, ⟨(some 11), .call 45 [(.t 7), (.t 10)], none⟩, ⟨(some 5), .mv (.t 11), none⟩, ⟨(some 12), .ext (.t 5) 0, none⟩, ⟨(some 13), .ext (.t 5) 1, none⟩, ⟨(some 3), .new 56 2 [(.bool false), .nils], none⟩, ⟨(some 4), .new 56 2 [(.bool false), .nils], none⟩, ⟨none, .store 2 (.t 3) (.t 12), none⟩, ⟨none, .store 2 (.t 4) (.t 13), none⟩] [])
  (.seq (.reg false [⟨(some 14), .load true 2 (.t 3), none⟩, ⟨none, .store 2 (.t 2) (.t 14), none⟩] [])
  .ret)))
theorem ok81 : (Go.Proofs.Tryz.f81.body).bind (comp Go.Proofs.Tryz.prog) = some c81 := by kernel_rfl
/-- cubit/cubitref1.QText -/
def c82 : IR :=
  (.seq (.reg false [⟨(some 1), .box 92 3 (.t 0), none⟩, ⟨(some 2), .mv (.c (.str ⟨#[]⟩)), none⟩] [])
  (.seq (.seq (.reg false [⟨(some 3), .faddr 2 (.t 1), none⟩, ⟨(some 4), .load false 1 (.t 3), none⟩, ⟨(some 5), .call 27 [(.t 4)], none⟩, ⟨(some 6), .bin .eql (.t 5) (.c (.str ⟨#[49]⟩)), none⟩] [])
  (.cond (.t 6)
    (.seq (.reg false [⟨(some 7), .faddr 0 (.t 1), none⟩, ⟨(some 8), .load true 2 (.t 7), none⟩, ⟨(some 9), .call 52 [(.t 8)], none⟩, ⟨(some 2), .mv (.t 9), none⟩] [])
    .ret)
    .skip))
  (.seq (.reg true [⟨(some 10), .faddr 0 (.t 1), none⟩, ⟨(some 11), .load true 2 (.t 10), none⟩, ⟨(some 12), .call 52 [(.t 11)], none⟩, ⟨(some 13), .bin .add (.t 12) (.c (.str ⟨#[47]⟩)), none⟩, ⟨(some 14), .faddr 2 (.t 1), none⟩, ⟨(some 15), .load false 1 (.t 14), none⟩, ⟨(some 16), .call 27 [(.t 15)], none⟩, ⟨(some 17), .bin .add (.t 13) (.t 16), none⟩, ⟨(some 2), .mv (.t 17), none⟩] [0, 1, 3, 7, 0, 16, 55, 127, 255])
  .ret)))
theorem ok82 : (Go.Proofs.Tryz.f82.body).bind (comp Go.Proofs.Tryz.prog) = some c82 := by kernel_rfl
/-- cubit/cubitref1.QInt -/
def c83 : IR :=
  (.seq (.reg false [⟨(some 2), .new 92 3 [(.bool false), .nils, .nils], none⟩] [])
  (.seq (.reg false [⟨(some 3), .mv (.t 0), none⟩, ⟨(some 4), .call 39 [(.t 3)], none⟩, ⟨(some 5), .call 85 [(.c (.int .u64 1))], none⟩, ⟨(some 6), .build [(.bool false), .nils, .nils] [(0, 2, (.t 4)), (2, 1, (.t 5))], none⟩, ⟨none, .store 3 (.t 2) (.t 6), none⟩] [])
  .ret))
theorem ok83 : (Go.Proofs.Tryz.f83.body).bind (comp Go.Proofs.Tryz.prog) = some c83 := by kernel_rfl
/-- cubit/cubitref1.QOf -/
def c108 : IR :=
  (.seq (.reg false [⟨(some 2), .box 56 2 (.t 0), none⟩, ⟨(some 4), .new 92 3 [(.bool false), .nils, .nils], none⟩] [])
  (.seq (.reg false [⟨(some 10), .faddr 1 (.t 2), none⟩, ⟨(some 11), .load false 1 (.t 10), none⟩, ⟨(some 12), .mv (.t 1), none⟩, ⟨(some 13), .call 29 [(.t 11), (.t 12)], none⟩, ⟨(some 5), .mv (.t 13), none⟩] [])
  (.seq (.reg false [⟨(some 15), .faddr 1 (.t 2), none⟩, ⟨(some 16), .load false 1 (.t 15), none⟩, ⟨(some 17), .mv (.t 5), none⟩, ⟨(some 18), .call 20 [(.t 16), (.t 17)], none⟩, ⟨(some 14), .mv (.t 18), none⟩, ⟨(some 19), .ext (.t 14) 0, none⟩, ⟨(some 20), .ext (.t 14) 1, none⟩, ⟨(some 6), .mv (.t 19), none⟩, ⟨(some 7), .mv (.t 20), none⟩] [])
  (.seq (.reg false [⟨(some 22), .mv (.t 1), none⟩, ⟨(some 23), .mv (.t 5), none⟩, ⟨(some 24), .call 20 [(.t 22), (.t 23)], none⟩, ⟨(some 21), .mv (.t 24), none⟩, ⟨(some 25), .ext (.t 21) 0, none⟩, ⟨(some 26), .ext (.t 21) 1, none⟩, ⟨(some 8), .mv (.t 25), none⟩, ⟨(some 9), .mv (.t 26), none⟩] [])
  (.seq (.reg false [⟨(some 27), .faddr 0 (.t 2), none⟩, ⟨(some 28), .load false 1 (.t 27), none⟩, ⟨(some 29), .mv (.t 6), none⟩, ⟨(some 30), .call 106 [(.t 28), (.t 29)], none⟩, ⟨(some 31), .mv (.t 8), none⟩, ⟨(some 32), .build [(.bool false), .nils, .nils] [(0, 2, (.t 30)), (2, 1, (.t 31))], none⟩, ⟨none, .store 3 (.t 4) (.t 32), none⟩] [])
  .ret)))))
theorem ok108 : (Go.Proofs.Tryz.f108.body).bind (comp Go.Proofs.Tryz.prog) = some c108 := by kernel_rfl
end Go.Proofs.YtnildflhdkdbiaaGreatDoorV.NatIr
