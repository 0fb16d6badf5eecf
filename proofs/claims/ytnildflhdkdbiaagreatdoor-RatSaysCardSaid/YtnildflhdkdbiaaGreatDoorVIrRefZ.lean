/-
  The compiled bodies, printed: IrRefZ.
-/
import Derived.Test.YtnildflhdkdbiaaGreatDoorVAb
import Derived.Test.YtnildflhdkdbiaaGreatDoorProg
set_option linter.all false
set_option linter.unusedVariables false
set_option linter.unusedSimpArgs false
set_option maxHeartbeats 4000000
namespace Go.Proofs.YtnildflhdkdbiaaGreatDoorV.NatIr
open Go.Proofs.YtnildflhdkdbiaaGreatDoorV.AI
/-- cubit/cubitref1.ZInt -/
def c39 : IR :=
  (.seq (.reg false [⟨(some 2), .new 56 2 [(.bool false), .nils], none⟩] [])
  (.seq (.seq (.reg false [⟨(some 3), .mv (.t 0), none⟩, ⟨(some 4), .bin .lss (.t 3) (.c (.int .i64 0)), none⟩] [])
  (.cond (.t 4)
    (.seq (.reg false [⟨(some 5), .mv (.t 0), none⟩, ⟨(some 6), .bin .add (.t 5) (.c (.int .i64 1)), none⟩, ⟨(some 7), .neg (.t 6), none⟩, ⟨(some 8), .conv .u64 (.t 7), none⟩, ⟨(some 9), .call 85 [(.t 8)], none⟩, ⟨(some 10), .call 85 [(.c (.int .u64 1))], none⟩, ⟨(some 11), .call 23 [(.t 9), (.t 10)], none⟩, ⟨(some 12), .build [(.bool false), .nils] [(0, 1, (.c (.bool true))), (1, 1, (.t 11))], none⟩, ⟨none, .store 2 (.t 2) (.t 12), none⟩] [])
    .ret)
    .skip))
  (.seq (.reg false [⟨(some 13), .mv (.t 0), none⟩, ⟨(some 14), .conv .u64 (.t 13), none⟩, ⟨(some 15), .call 85 [(.t 14)], none⟩, ⟨(some 16), .build [(.bool false), .nils] [(0, 1, (.c (.bool false))), (1, 1, (.t 15))], none⟩, ⟨none, .store 2 (.t 2) (.t 16), none⟩] [])
  .ret)))
theorem ok39 : (Go.Proofs.Tryz.f39.body).bind (comp Go.Proofs.Tryz.prog) = some c39 := by kernel_rfl
/-- cubit/cubitref1.ZNeg -/
def c41 : IR :=
  (.seq (.reg false [⟨(some 1), .box 56 2 (.t 0), none⟩, ⟨(some 2), .new 56 2 [(.bool false), .nils], none⟩] [])
  (.seq (.reg false [⟨(some 3), .faddr 0 (.t 1), none⟩, ⟨(some 4), .load false 1 (.t 3), none⟩, ⟨(some 5), .not (.t 4), none⟩, ⟨(some 6), .faddr 1 (.t 1), none⟩, ⟨(some 7), .load false 1 (.t 6), none⟩, ⟨(some 8), .call 106 [(.t 5), (.t 7)], none⟩, ⟨none, .store 2 (.t 2) (.t 8), none⟩] [])
  .ret))
theorem ok41 : (Go.Proofs.Tryz.f41.body).bind (comp Go.Proofs.Tryz.prog) = some c41 := by kernel_rfl
/-- cubit/cubitref1.ZSign -/
def c44 : IR :=
  (.seq (.reg false [⟨(some 1), .box 56 2 (.t 0), none⟩, ⟨(some 2), .mv (.c (.int .i64 0)), none⟩] [])
  (.seq (.seq (.reg false [⟨(some 3), .faddr 0 (.t 1), none⟩, ⟨(some 4), .load false 1 (.t 3), none⟩] [])
  (.cond (.t 4)
    (.seq (.reg false [⟨(some 2), .mv (.c (.int .i64 (-1))), none⟩] [])
    .ret)
    .skip))
  (.seq (.seq (.reg false [⟨(some 5), .faddr 1 (.t 1), none⟩, ⟨(some 6), .load false 1 (.t 5), none⟩, ⟨(some 7), .lenL (.t 6), none⟩, ⟨(some 8), .bin .gtr (.t 7) (.c (.int .i64 0)), none⟩] [])
  (.cond (.t 8)
    (.seq (.reg false [⟨(some 2), .mv (.c (.int .i64 1)), none⟩] [])
    .ret)
    .skip))
  (.seq (.reg false [⟨(some 2), .mv (.c (.int .i64 0)), none⟩] [])
  .ret))))
theorem ok44 : (Go.Proofs.Tryz.f44.body).bind (comp Go.Proofs.Tryz.prog) = some c44 := by kernel_rfl
/-- cubit/cubitref1.ZDiv -/
def c45 : IR :=
  (.seq (.reg false [⟨(some 2), .box 56 2 (.t 0), none⟩, ⟨(some 3), .box 56 2 (.t 1), none⟩, ⟨(some 4), .new 56 2 [(.bool false), .nils], none⟩, ⟨(some 5), .new 56 2 [(.bool false), .nils], none⟩] [])
  (.seq (.reg false [⟨(some 9), .faddr 1 (.t 2), none⟩, ⟨(some 10), .load false 1 (.t 9), none⟩, ⟨(some 11), .faddr 1 (.t 3), none⟩, ⟨(some 12), .load false 1 (.t 11), none⟩, ⟨(some 13), .call 20 [(.t 10), (.t 12)], none⟩, ⟨(some 8), .mv (.t 13), none⟩, ⟨(some 14), .ext (.t 8) 0, none⟩, ⟨(some 15), .ext (.t 8) 1, none⟩, ⟨(some 6), .mv (.t 14), none⟩, ⟨(some 7), .mv (.t 15), none⟩] [])
  (.seq (.seq (.reg false [⟨(some 16), .faddr 0 (.t 2), none⟩, ⟨(some 17), .load false 1 (.t 16), none⟩, ⟨(some 18), .mv (.t 17), none⟩, ⟨(some 19), .mv (.t 7), (some ((some 18), true))⟩, ⟨(some 20), .lenL (.t 19), (some ((some 18), true))⟩, ⟨(some 21), .bin .gtr (.t 20) (.c (.int .i64 0)), (some ((some 18), true))⟩, ⟨(some 22), .pick (.t 18) (.t 21) (.c (.bool false)), none⟩] [])
  (.cond (.t 22)
    (.reg true [⟨(some 23), .mv (.t 6), none⟩, ⟨(some 24), .call 85 [(.c (.int .u64 1))], none⟩, ⟨(some 25), .call 23 [(.t 23), (.t 24)], none⟩, ⟨(some 26), .faddr 1 (.t 3), none⟩, ⟨(some 27), .load false 1 (.t 26), none⟩, ⟨(some 28), .mv (.t 7), none⟩, ⟨(some 29), .call 18 [(.t 27), (.t 28)], none⟩, ⟨(some 6), .mv (.t 25), none⟩, ⟨(some 7), .mv (.t 29), none⟩] [0, 0, 3, 0, 8, 0, 63, 127, 255])
    .skip))
  (.seq (.reg false [⟨(some 30), .faddr 0 (.t 2), none⟩, ⟨(some 31), .load false 1 (.t 30), none⟩, ⟨(some 32), .faddr 0 (.t 3), none⟩, ⟨(some 33), .load false 1 (.t 32), none⟩, ⟨(some 34), .beq true (.t 31) (.t 33), none⟩, ⟨(some 35), .mv (.t 6), none⟩, ⟨(some 36), .call 106 [(.t 34), (.t 35)], none⟩, ⟨(some 37), .mv (.t 7), none⟩, ⟨(some 38), .build [(.bool false), .nils] [(0, 1, (.c (.bool false))), (1, 1, (.t 37))], none⟩, ⟨none, .store 2 (.t 4) (.t 36), none⟩, ⟨none, .store 2 (.t 5) (.t 38), none⟩] [])
  .ret))))
theorem ok45 : (Go.Proofs.Tryz.f45.body).bind (comp Go.Proofs.Tryz.prog) = some c45 := by kernel_rfl
/-- cubit/cubitref1.ZParse -/
def c46 : IR :=
  (.seq (.reg false [⟨(some 2), .new 56 2 [(.bool false), .nils], none⟩, ⟨(some 3), .mv (.c (.bool false)), none⟩] [])
  (.seq (.reg false [⟨(some 7), .mv (.t 0), none⟩, ⟨(some 8), .lenS (.t 7), none⟩, ⟨(some 9), .bin .gtr (.t 8) (.c (.int .i64 0)), none⟩, ⟨(some 10), .mv (.t 9), none⟩, ⟨(some 11), .mv (.t 0), (some ((some 10), true))⟩, ⟨(some 12), .idxs (.t 11) (.c (.int .i64 0)), (some ((some 10), true))⟩, ⟨(some 13), .bin .eql (.t 12) (.c (.int .u8 45)), (some ((some 10), true))⟩, ⟨(some 14), .pick (.t 10) (.t 13) (.c (.bool false)), none⟩, ⟨(some 4), .mv (.t 14), none⟩] [])
  (.seq (.seq (.reg false [⟨(some 15), .mv (.t 4), none⟩] [])
  (.cond (.t 15)
    (.reg false [⟨(some 16), .mv (.t 0), none⟩, ⟨(some 17), .slcS (.t 16) (some (.c (.int .i64 1))) none, none⟩, ⟨(some 0), .mv (.t 17), none⟩] [])
    .skip))
  (.seq (.reg false [⟨(some 19), .mv (.t 0), none⟩, ⟨(some 20), .call 107 [(.t 19)], none⟩, ⟨(some 18), .mv (.t 20), none⟩, ⟨(some 21), .ext (.t 18) 0, none⟩, ⟨(some 22), .ext (.t 18) 1, none⟩, ⟨(some 5), .mv (.t 21), none⟩, ⟨(some 6), .mv (.t 22), none⟩] [])
  (.seq (.seq (.reg false [⟨(some 23), .mv (.t 6), none⟩, ⟨(some 24), .not (.t 23), none⟩] [])
  (.cond (.t 24)
    (.seq (.reg false [⟨(some 25), .build [(.bool false), .nils] [], none⟩, ⟨none, .store 2 (.t 2) (.t 25), none⟩, ⟨(some 3), .mv (.c (.bool false)), none⟩] [])
    .ret)
    .skip))
  (.seq (.reg false [⟨(some 26), .mv (.t 4), none⟩, ⟨(some 27), .mv (.t 5), none⟩, ⟨(some 28), .call 106 [(.t 26), (.t 27)], none⟩, ⟨none, .store 2 (.t 2) (.t 28), none⟩, ⟨(some 3), .mv (.c (.bool true)), none⟩] [])
  .ret))))))
theorem ok46 : (Go.Proofs.Tryz.f46.body).bind (comp Go.Proofs.Tryz.prog) = some c46 := by kernel_rfl
/-- cubit/cubitref1.ZCmp -/
def c47 : IR :=
  (.seq (.reg false [⟨(some 2), .box 56 2 (.t 0), none⟩, ⟨(some 3), .box 56 2 (.t 1), none⟩, ⟨(some 4), .mv (.c (.int .i64 0)), none⟩] [])
  (.seq (.reg true [⟨(some 5), .load true 2 (.t 2), none⟩, ⟨(some 6), .load true 2 (.t 3), none⟩, ⟨(some 7), .call 41 [(.t 6)], none⟩, ⟨(some 8), .call 49 [(.t 5), (.t 7)], none⟩, ⟨(some 9), .call 44 [(.t 8)], none⟩, ⟨(some 4), .mv (.t 9), none⟩] [0, 0, 2, 7, 15, 31])
  .ret))
theorem ok47 : (Go.Proofs.Tryz.f47.body).bind (comp Go.Proofs.Tryz.prog) = some c47 := by kernel_rfl
/-- cubit/cubitref1.ZAdd -/
def c49 : IR :=
  (.seq (.reg false [⟨(some 2), .box 56 2 (.t 0), none⟩, ⟨(some 3), .box 56 2 (.t 1), none⟩, ⟨(some 4), .new 56 2 [(.bool false), .nils], none⟩] [])
  (.seq (.seq (.reg false [⟨(some 5), .faddr 0 (.t 2), none⟩, ⟨(some 6), .load false 1 (.t 5), none⟩, ⟨(some 7), .faddr 0 (.t 3), none⟩, ⟨(some 8), .load false 1 (.t 7), none⟩, ⟨(some 9), .beq false (.t 6) (.t 8), none⟩] [])
  (.cond (.t 9)
    (.seq (.reg true [⟨(some 10), .faddr 0 (.t 2), none⟩, ⟨(some 11), .load false 1 (.t 10), none⟩, ⟨(some 12), .faddr 1 (.t 2), none⟩, ⟨(some 13), .load false 1 (.t 12), none⟩, ⟨(some 14), .faddr 1 (.t 3), none⟩, ⟨(some 15), .load false 1 (.t 14), none⟩, ⟨(some 16), .call 23 [(.t 13), (.t 15)], none⟩, ⟨(some 17), .call 106 [(.t 11), (.t 16)], none⟩, ⟨none, .store 2 (.t 4) (.t 17), none⟩] [0, 1, 0, 4, 0, 16, 60, 127, 255])
    .ret)
    .skip))
  (.seq (.seq (.reg false [⟨(some 18), .faddr 1 (.t 2), none⟩, ⟨(some 19), .load false 1 (.t 18), none⟩, ⟨(some 20), .faddr 1 (.t 3), none⟩, ⟨(some 21), .load false 1 (.t 20), none⟩, ⟨(some 22), .call 16 [(.t 19), (.t 21)], none⟩, ⟨(some 23), .bin .geq (.t 22) (.c (.int .i64 0)), none⟩] [])
  (.cond (.t 23)
    (.seq (.reg true [⟨(some 24), .faddr 0 (.t 2), none⟩, ⟨(some 25), .load false 1 (.t 24), none⟩, ⟨(some 26), .faddr 1 (.t 2), none⟩, ⟨(some 27), .load false 1 (.t 26), none⟩, ⟨(some 28), .faddr 1 (.t 3), none⟩, ⟨(some 29), .load false 1 (.t 28), none⟩, ⟨(some 30), .call 18 [(.t 27), (.t 29)], none⟩, ⟨(some 31), .call 106 [(.t 25), (.t 30)], none⟩, ⟨none, .store 2 (.t 4) (.t 31), none⟩] [0, 1, 0, 4, 0, 16, 60, 127, 255])
    .ret)
    .skip))
  (.seq (.reg true [⟨(some 32), .faddr 0 (.t 3), none⟩, ⟨(some 33), .load false 1 (.t 32), none⟩, ⟨(some 34), .faddr 1 (.t 3), none⟩, ⟨(some 35), .load false 1 (.t 34), none⟩, ⟨(some 36), .faddr 1 (.t 2), none⟩, ⟨(some 37), .load false 1 (.t 36), none⟩, ⟨(some 38), .call 18 [(.t 35), (.t 37)], none⟩, ⟨(some 39), .call 106 [(.t 33), (.t 38)], none⟩, ⟨none, .store 2 (.t 4) (.t 39), none⟩] [0, 1, 0, 4, 0, 16, 60, 127, 255])
  .ret))))
theorem ok49 : (Go.Proofs.Tryz.f49.body).bind (comp Go.Proofs.Tryz.prog) = some c49 := by kernel_rfl
/-- cubit/cubitref1.ZMul -/
def c51 : IR :=
  (.seq (.reg false [⟨(some 2), .box 56 2 (.t 0), none⟩, ⟨(some 3), .box 56 2 (.t 1), none⟩, ⟨(some 4), .new 56 2 [(.bool false), .nils], none⟩] [])
  (.seq (.reg true [⟨(some 5), .faddr 0 (.t 2), none⟩, ⟨(some 6), .load false 1 (.t 5), none⟩, ⟨(some 7), .faddr 0 (.t 3), none⟩, ⟨(some 8), .load false 1 (.t 7), none⟩, ⟨(some 9), .beq true (.t 6) (.t 8), none⟩, ⟨(some 10), .faddr 1 (.t 2), none⟩, ⟨(some 11), .load false 1 (.t 10), none⟩, ⟨(some 12), .faddr 1 (.t 3), none⟩, ⟨(some 13), .load false 1 (.t 12), none⟩, ⟨(some 14), .call 25 [(.t 11), (.t 13)], none⟩, ⟨(some 15), .call 106 [(.t 9), (.t 14)], none⟩, ⟨none, .store 2 (.t 4) (.t 15), none⟩] [0, 1, 0, 4, 15, 0, 32, 0, 128, 480, 1023, 2047])
  .ret))
theorem ok51 : (Go.Proofs.Tryz.f51.body).bind (comp Go.Proofs.Tryz.prog) = some c51 := by kernel_rfl
/-- cubit/cubitref1.ZText -/
def c52 : IR :=
  (.seq (.reg false [⟨(some 1), .box 56 2 (.t 0), none⟩, ⟨(some 2), .mv (.c (.str ⟨#[]⟩)), none⟩] [])
  (.seq (.seq (.reg false [⟨(some 3), .faddr 0 (.t 1), none⟩, ⟨(some 4), .load false 1 (.t 3), none⟩] [])
  (.cond (.t 4)
    (.seq (.reg false [⟨(some 5), .faddr 1 (.t 1), none⟩, ⟨(some 6), .load false 1 (.t 5), none⟩, ⟨(some 7), .call 27 [(.t 6)], none⟩, ⟨(some 8), .bin .add (.c (.str ⟨#[45]⟩)) (.t 7), none⟩, ⟨(some 2), .mv (.t 8), none⟩] [])
    .ret)
    .skip))
  (.seq (.reg false [⟨(some 9), .faddr 1 (.t 1), none⟩, ⟨(some 10), .load false 1 (.t 9), none⟩, ⟨(some 11), .call 27 [(.t 10)], none⟩, ⟨(some 2), .mv (.t 11), none⟩] [])
  .ret)))
theorem ok52 : (Go.Proofs.Tryz.f52.body).bind (comp Go.Proofs.Tryz.prog) = some c52 := by kernel_rfl
/-- cubit/cubitref1.ZOf -/
def c106 : IR :=
  (.seq (.reg false [⟨(some 4), .new 56 2 [(.bool false), .nils], none⟩] [])
  (.seq (.reg false [⟨(some 5), .mv (.t 0), none⟩, ⟨(some 6), .mv (.t 5), none⟩, ⟨(some 7), .mv (.t 1), (some ((some 6), true))⟩, ⟨(some 8), .lenL (.t 7), (some ((some 6), true))⟩, ⟨(some 9), .bin .gtr (.t 8) (.c (.int .i64 0)), (some ((some 6), true))⟩, ⟨(some 10), .pick (.t 6) (.t 9) (.c (.bool false)), none⟩, ⟨(some 11), .mv (.t 1), none⟩, ⟨(some 12), .build [(.bool false), .nils] [(0, 1, (.t 10)), (1, 1, (.t 11))], none⟩, ⟨none, .store 2 (.t 4) (.t 12), none⟩] [])
  .ret))
theorem ok106 : (Go.Proofs.Tryz.f106.body).bind (comp Go.Proofs.Tryz.prog) = some c106 := by kernel_rfl
end Go.Proofs.YtnildflhdkdbiaaGreatDoorV.NatIr
