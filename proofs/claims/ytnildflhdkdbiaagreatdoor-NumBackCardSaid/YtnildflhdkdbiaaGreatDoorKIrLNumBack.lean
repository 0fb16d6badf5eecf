/-
  The compiled bodies, printed: IrLNumBack.
-/
import Derived.Test.YtnildflhdkdbiaaGreatDoorKAb
import Derived.Test.YtnildflhdkdbiaaGreatDoorProg
set_option linter.all false
set_option linter.unusedVariables false
set_option linter.unusedSimpArgs false
set_option maxHeartbeats 4000000
namespace Go.Proofs.YtnildflhdkdbiaaGreatDoorK.NatIr
open Go.Proofs.YtnildflhdkdbiaaGreatDoorK.AI
/-- cubit/cubitlaw2.NumBack -/
def c6 : IR :=
  (.seq (.reg false [⟨(some 2), .box 44 2 (.t 0), none⟩, ⟨(some 3), .box 44 2 (.t 1), none⟩, ⟨(some 4), .mv (.c (.bool false)), none⟩] [])
  (.seq (.seq (.reg false [⟨(some 7), .call 30 [], none⟩, ⟨(some 8), .not (.t 7), none⟩] [])
  (.cond (.t 8)
    (.seq (.reg false [⟨(some 4), .mv (.c (.bool false)), none⟩] [])
    .ret)
    .skip))
  (.seq (.seq (.reg false [⟨(some 9), .load true 2 (.t 2), none⟩, ⟨(some 10), .call 42 [(.t 9)], none⟩, ⟨(some 11), .mv (.t 10), none⟩, ⟨(some 12), .load true 2 (.t 3), (some ((some 11), false))⟩, ⟨(some 13), .call 42 [(.t 12)], (some ((some 11), false))⟩, ⟨(some 14), .pick (.t 11) (.c (.bool true)) (.t 13), none⟩] [])
  (.cond (.t 14)
    (.seq (.reg false [⟨(some 4), .mv (.c (.bool true)), none⟩] [])
    .ret)
    .skip))
  (.seq (.reg false [⟨(some 16), .load true 2 (.t 2), none⟩, ⟨(some 17), .call 37 [(.t 16)], none⟩, ⟨(some 18), .call 31 [(.t 17)], none⟩, ⟨(some 15), .mv (.t 18), none⟩, ⟨(some 19), .ext (.t 15) 0, none⟩, ⟨(some 20), .ext (.t 15) 1, none⟩, ⟨(some 5), .new 44 2 [(.bool false), .nils], none⟩, ⟨none, .store 2 (.t 5) (.t 19), none⟩, ⟨(some 6), .mv (.t 20), none⟩] [])
  (.seq (.reg true [⟨(some 21), .mv (.t 6), none⟩, ⟨(some 22), .mv (.t 21), none⟩, ⟨(some 23), .load true 2 (.t 5), (some ((some 22), true))⟩, ⟨(some 24), .load true 2 (.t 2), (some ((some 22), true))⟩, ⟨(some 25), .call 36 [(.t 23), (.t 24)], (some ((some 22), true))⟩, ⟨(some 26), .bin .eql (.t 25) (.c (.int .i64 0)), (some ((some 22), true))⟩, ⟨(some 27), .pick (.t 22) (.t 26) (.c (.bool false)), none⟩, ⟨(some 28), .mv (.t 27), none⟩, ⟨(some 29), .load true 2 (.t 2), (some ((some 28), true))⟩, ⟨(some 30), .call 40 [(.t 29)], (some ((some 28), true))⟩, ⟨(some 31), .call 40 [(.t 30)], (some ((some 28), true))⟩, ⟨(some 32), .load true 2 (.t 2), (some ((some 28), true))⟩, ⟨(some 33), .call 36 [(.t 31), (.t 32)], (some ((some 28), true))⟩, ⟨(some 34), .bin .eql (.t 33) (.c (.int .i64 0)), (some ((some 28), true))⟩, ⟨(some 35), .pick (.t 28) (.t 34) (.c (.bool false)), none⟩, ⟨(some 36), .mv (.t 35), none⟩, ⟨(some 37), .load true 2 (.t 2), (some ((some 36), true))⟩, ⟨(some 38), .load true 2 (.t 2), (some ((some 36), true))⟩, ⟨(some 39), .call 40 [(.t 38)], (some ((some 36), true))⟩, ⟨(some 40), .call 48 [(.t 37), (.t 39)], (some ((some 36), true))⟩, ⟨(some 41), .call 35 [(.t 40)], (some ((some 36), true))⟩, ⟨(some 42), .bin .eql (.t 41) (.c (.int .i64 0)), (some ((some 36), true))⟩, ⟨(some 43), .pick (.t 36) (.t 42) (.c (.bool false)), none⟩, ⟨(some 44), .mv (.t 43), none⟩, ⟨(some 45), .load true 2 (.t 2), (some ((some 44), true))⟩, ⟨(some 46), .load true 2 (.t 3), (some ((some 44), true))⟩, ⟨(some 47), .call 36 [(.t 45), (.t 46)], (some ((some 44), true))⟩, ⟨(some 48), .load true 2 (.t 3), (some ((some 44), true))⟩, ⟨(some 49), .load true 2 (.t 2), (some ((some 44), true))⟩, ⟨(some 50), .call 36 [(.t 48), (.t 49)], (some ((some 44), true))⟩, ⟨(some 51), .neg (.t 50), (some ((some 44), true))⟩, ⟨(some 52), .bin .eql (.t 47) (.t 51), (some ((some 44), true))⟩, ⟨(some 53), .pick (.t 44) (.t 52) (.c (.bool false)), none⟩, ⟨(some 54), .mv (.t 53), none⟩, ⟨(some 55), .load true 2 (.t 2), (some ((some 54), true))⟩, ⟨(some 56), .load true 2 (.t 3), (some ((some 54), true))⟩, ⟨(some 57), .call 36 [(.t 55), (.t 56)], (some ((some 54), true))⟩, ⟨(some 58), .load true 2 (.t 2), (some ((some 54), true))⟩, ⟨(some 59), .load true 2 (.t 3), (some ((some 54), true))⟩, ⟨(some 60), .call 40 [(.t 59)], (some ((some 54), true))⟩, ⟨(some 61), .call 48 [(.t 58), (.t 60)], (some ((some 54), true))⟩, ⟨(some 62), .call 35 [(.t 61)], (some ((some 54), true))⟩, ⟨(some 63), .bin .eql (.t 57) (.t 62), (some ((some 54), true))⟩, ⟨(some 64), .pick (.t 54) (.t 63) (.c (.bool false)), none⟩, ⟨(some 65), .mv (.t 64), none⟩, ⟨(some 66), .load true 2 (.t 2), (some ((some 65), true))⟩, ⟨(some 67), .load true 2 (.t 3), (some ((some 65), true))⟩, ⟨(some 68), .call 50 [(.t 66), (.t 67)], (some ((some 65), true))⟩, ⟨(some 69), .call 35 [(.t 68)], (some ((some 65), true))⟩, ⟨(some 70), .load true 2 (.t 2), (some ((some 65), true))⟩, ⟨(some 71), .call 35 [(.t 70)], (some ((some 65), true))⟩, ⟨(some 72), .load true 2 (.t 3), (some ((some 65), true))⟩, ⟨(some 73), .call 35 [(.t 72)], (some ((some 65), true))⟩, ⟨(some 74), .bin .mul (.t 71) (.t 73), (some ((some 65), true))⟩, ⟨(some 75), .bin .eql (.t 69) (.t 74), (some ((some 65), true))⟩, ⟨(some 76), .pick (.t 65) (.t 75) (.c (.bool false)), none⟩, ⟨(some 4), .mv (.t 76), none⟩] [0, 1, 3, 3, 15, 31, 63, 127, 255, 511, 1023, 255, 4095, 8191, 16383, 32767, 65535, 65535, 196607, 524287, 1048575, 2097151, 4194303, 8388607, 16777215, 16777215, 67108863, 16777215, 16777215, 536870911, 1073741823, 2147483647, 4294967295, 8589934591, 17179869183, 17179869183, 68719476735, 17179869183, 17179869183, 412316860415, 1099511627775, 2199023255551, 4398046511103, 8796093022207, 17592186044415, 35184372088831, 35184372088831, 140737488355327, 281474976710655, 35184372088831, 1125899906842623, 35184372088831, 4503599627370495, 9007199254740991, 18014398509481983, 36028797018963967, 72057594037927935])
  .ret)))))
theorem ok6 : (Go.Proofs.Tryz.f6.body).bind (comp Go.Proofs.Tryz.prog) = some c6 := by kernel_rfl
end Go.Proofs.YtnildflhdkdbiaaGreatDoorK.NatIr
