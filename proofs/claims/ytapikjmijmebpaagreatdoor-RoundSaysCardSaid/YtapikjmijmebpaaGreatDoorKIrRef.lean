/-
  The compiled bodies, printed: IrRef.
-/
import Derived.Test.YtapikjmijmebpaaGreatDoorKAb
import Derived.Test.YtapikjmijmebpaaGreatDoorProg
set_option linter.all false
set_option linter.unusedVariables false
set_option linter.unusedSimpArgs false
set_option maxHeartbeats 4000000
namespace Go.Proofs.YtapikjmijmebpaaGreatDoorK.NatIr
open Go.Proofs.YtapikjmijmebpaaGreatDoorK.AI
def c26 : IR :=
  (.seq (.reg false [⟨(some 2), .mv (.c .nils), none⟩] [])
  (.seq (.reg false [⟨(some 3), .mv (.c .nils), none⟩] [])
  (.seq (.reg false [⟨(some 6), .call 59 [(.c (.int .u64 4294967296))], none⟩, ⟨(some 4), .mv (.t 6), none⟩] [])
  (.seq (.seq (.reg false [⟨(some 7), .mv (.t 0), none⟩, ⟨(some 8), .lenL (.t 7), none⟩, ⟨(some 9), .bin .sub (.t 8) (.c (.int .i64 1)), none⟩, ⟨(some 5), .mv (.t 9), none⟩] [])
  (.block 0 (.loop (.seq (.seq (.reg false [⟨(some 10), .mv (.t 5), none⟩, ⟨(some 11), .bin .geq (.t 10) (.c (.int .i64 0)), none⟩] [])
      (.cond (.t 11)
        .skip
        (.exit 0)))
      (.seq (.block 1 (.reg true [⟨(some 14), .mv (.t 3), none⟩, ⟨(some 15), .mv (.t 4), none⟩, ⟨(some 16), .call 102 [(.t 14), (.t 15)], none⟩, ⟨(some 17), .mv (.t 0), none⟩, ⟨(some 18), .mv (.t 5), none⟩, ⟨(some 19), .iaddrS 1 (.t 17) (.t 18), none⟩, ⟨(some 20), .load false 1 (.t 19), none⟩, ⟨(some 21), .conv .u64 (.t 20), none⟩, ⟨(some 22), .call 59 [(.t 21)], none⟩, ⟨(some 23), .call 105 [(.t 16), (.t 22)], none⟩, ⟨(some 3), .mv (.t 23), none⟩] [0, 0, 3, 0, 0, 24, 56, 120, 255, 511, 1023]))
      (.reg false [⟨(some 12), .mv (.t 5), none⟩, ⟨(some 13), .bin .sub (.t 12) (.c (.int .i64 1)), none⟩, ⟨(some 5), .mv (.t 13), none⟩] []))))))
  (.seq (.reg false [⟨(some 24), .mv (.t 3), none⟩, ⟨(some 2), .mv (.t 24), none⟩] [])
  .ret)))))
theorem ok26 : (Go.Proofs.Tryz.f26.body).bind (comp Go.Proofs.Tryz.prog) = some c26 := by kernel_rfl
def c59 : IR :=
  (.seq (.reg false [⟨(some 2), .mv (.c .nils), none⟩] [])
  (.seq (.reg false [⟨(some 3), .mv (.c .nils), none⟩] [])
  (.seq (.block 0 (.loop (.seq (.seq (.reg false [⟨(some 4), .mv (.t 0), none⟩, ⟨(some 5), .bin .gtr (.t 4) (.c (.int .u64 0)), none⟩] [])
      (.cond (.t 5)
        .skip
        (.exit 0)))
      (.block 1 (.seq (.reg false [⟨(some 6), .mv (.t 3), none⟩, ⟨(some 7), .mv (.t 0), none⟩, ⟨(some 8), .bin .rem (.t 7) (.c (.int .u64 10000)), none⟩, ⟨(some 9), .conv .i64 (.t 8), none⟩, ⟨(some 10), .lit 3 1 1 [(.int .i64 0)] [(0, 1, (.t 9))], none⟩, ⟨(some 11), .app 3 1 8 (.t 6) (.t 10), none⟩, ⟨(some 3), .mv (.t 11), none⟩] [])
        (.reg false [⟨(some 12), .mv (.t 0), none⟩, ⟨(some 13), .bin .quo (.t 12) (.c (.int .u64 10000)), none⟩, ⟨(some 0), .mv (.t 13), none⟩] []))))))
  (.seq (.reg false [⟨(some 14), .mv (.t 3), none⟩, ⟨(some 2), .mv (.t 14), none⟩] [])
  .ret))))
theorem ok59 : (Go.Proofs.Tryz.f59.body).bind (comp Go.Proofs.Tryz.prog) = some c59 := by kernel_rfl
def c89 : IR :=
  (.seq (.reg false [⟨(some 2), .mv (.c (.str ⟨#[]⟩)), none⟩] [])
  (.seq (.seq (.reg false [⟨(some 5), .mv (.t 0), none⟩, ⟨(some 6), .lenL (.t 5), none⟩, ⟨(some 7), .bin .eql (.t 6) (.c (.int .i64 0)), none⟩] [])
  (.cond (.t 7)
    (.seq (.reg false [⟨(some 2), .mv (.c (.str ⟨#[48]⟩)), none⟩] [])
    .ret)
    .skip))
  (.seq (.reg false [⟨(some 8), .mv (.t 0), none⟩, ⟨(some 9), .mv (.t 0), none⟩, ⟨(some 10), .lenL (.t 9), none⟩, ⟨(some 11), .bin .sub (.t 10) (.c (.int .i64 1)), none⟩, ⟨(some 12), .iaddrS 1 (.t 8) (.t 11), none⟩, ⟨(some 13), .load false 1 (.t 12), none⟩, ⟨(some 14), .call 146 [(.t 13), (.c (.int .i64 1))], none⟩, ⟨(some 3), .mv (.t 14), none⟩] [])
  (.seq (.seq (.reg false [⟨(some 15), .mv (.t 0), none⟩, ⟨(some 16), .lenL (.t 15), none⟩, ⟨(some 17), .bin .sub (.t 16) (.c (.int .i64 2)), none⟩, ⟨(some 4), .mv (.t 17), none⟩] [])
  (.block 0 (.loop (.seq (.seq (.reg false [⟨(some 18), .mv (.t 4), none⟩, ⟨(some 19), .bin .geq (.t 18) (.c (.int .i64 0)), none⟩] [])
      (.cond (.t 19)
        .skip
        (.exit 0)))
      (.seq (.block 1 (.reg false [⟨(some 22), .mv (.t 3), none⟩, ⟨(some 23), .mv (.t 0), none⟩, ⟨(some 24), .mv (.t 4), none⟩, ⟨(some 25), .iaddrS 1 (.t 23) (.t 24), none⟩, ⟨(some 26), .load false 1 (.t 25), none⟩, ⟨(some 27), .call 146 [(.t 26), (.c (.int .i64 4))], none⟩, ⟨(some 28), .bin .add (.t 22) (.t 27), none⟩, ⟨(some 3), .mv (.t 28), none⟩] []))
      (.reg false [⟨(some 20), .mv (.t 4), none⟩, ⟨(some 21), .bin .sub (.t 20) (.c (.int .i64 1)), none⟩, ⟨(some 4), .mv (.t 21), none⟩] []))))))
  (.seq (.reg false [⟨(some 29), .mv (.t 3), none⟩, ⟨(some 2), .mv (.t 29), none⟩] [])
  .ret)))))
theorem ok89 : (Go.Proofs.Tryz.f89.body).bind (comp Go.Proofs.Tryz.prog) = some c89 := by kernel_rfl
def c95 : IR :=
  (.seq (.reg false [⟨(some 4), .mv (.c .nils), none⟩, ⟨(some 5), .mv (.c .nils), none⟩] [])
  (.seq (.reg false [⟨(some 13), .mv (.t 0), none⟩, ⟨(some 14), .lenL (.t 13), none⟩, ⟨(some 15), .make 3 1 8 [(.int .i64 0)] (.t 14), none⟩, ⟨(some 6), .mv (.t 15), none⟩] [])
  (.seq (.reg false [⟨(some 16), .mv (.t 0), none⟩, ⟨(some 17), .lenL (.t 16), none⟩, ⟨(some 18), .mv (.t 1), none⟩, ⟨(some 19), .lenL (.t 18), none⟩, ⟨(some 20), .bin .sub (.t 17) (.t 19), none⟩, ⟨(some 21), .bin .add (.t 20) (.c (.int .i64 1)), none⟩, ⟨(some 7), .mv (.t 21), none⟩] [])
  (.seq (.seq (.reg false [⟨(some 22), .mv (.t 7), none⟩, ⟨(some 23), .bin .lss (.t 22) (.c (.int .i64 0)), none⟩, ⟨(some 24), .mv (.t 23), none⟩, ⟨(some 25), .mv (.t 7), (some ((some 24), false))⟩, ⟨(some 26), .mv (.t 0), (some ((some 24), false))⟩, ⟨(some 27), .lenL (.t 26), (some ((some 24), false))⟩, ⟨(some 28), .bin .gtr (.t 25) (.t 27), (some ((some 24), false))⟩, ⟨(some 29), .pick (.t 24) (.c (.bool true)) (.t 28), none⟩] [])
  (.cond (.t 29)
    (.seq (.reg false [⟨(some 30), .mv (.t 0), none⟩, ⟨(some 4), .mv (.c .nils), none⟩, ⟨(some 5), .mv (.t 30), none⟩] [])
    .ret)
    .skip))
  (.seq (.reg false [⟨(some 31), .lit 3 1 0 [] [], none⟩, ⟨(some 32), .mv (.t 0), none⟩, ⟨(some 33), .mv (.t 7), none⟩, ⟨(some 34), .slcL 1 (.t 32) (some (.t 33)) none, none⟩, ⟨(some 35), .app 3 1 8 (.t 31) (.t 34), none⟩, ⟨(some 8), .mv (.t 35), none⟩] [])
  (.seq (.reg false [⟨(some 36), .mv (.t 8), none⟩, ⟨(some 37), .call 150 [(.t 36)], none⟩, ⟨(some 8), .mv (.t 37), none⟩] [])
  (.seq (.seq (.reg false [⟨(some 38), .mv (.t 7), none⟩, ⟨(some 39), .bin .sub (.t 38) (.c (.int .i64 1)), none⟩, ⟨(some 9), .mv (.t 39), none⟩] [])
  (.block 0 (.loop (.seq (.seq (.reg false [⟨(some 40), .mv (.t 9), none⟩, ⟨(some 41), .bin .geq (.t 40) (.c (.int .i64 0)), none⟩] [])
      (.cond (.t 41)
        .skip
        (.exit 0)))
      (.seq (.block 1 (.seq (.reg false [⟨(some 44), .mv (.t 0), none⟩, ⟨(some 45), .mv (.t 9), none⟩, ⟨(some 46), .iaddrS 1 (.t 44) (.t 45), none⟩, ⟨(some 47), .load false 1 (.t 46), none⟩, ⟨(some 48), .lit 3 1 1 [(.int .i64 0)] [(0, 1, (.t 47))], none⟩, ⟨(some 49), .mv (.t 8), none⟩, ⟨(some 50), .app 3 1 8 (.t 48) (.t 49), none⟩, ⟨(some 51), .call 150 [(.t 50)], none⟩, ⟨(some 8), .mv (.t 51), none⟩] [])
        (.seq (.reg false [⟨(some 10), .mv (.c (.int .i64 0)), none⟩, ⟨(some 11), .mv (.c (.int .i64 9999)), none⟩] [])
        (.seq (.block 2 (.loop (.seq (.seq (.reg false [⟨(some 52), .mv (.t 10), none⟩, ⟨(some 53), .mv (.t 11), none⟩, ⟨(some 54), .bin .lss (.t 52) (.t 53), none⟩] [])
            (.cond (.t 54)
              .skip
              (.exit 2)))
            (.block 3 (.seq (.reg false [⟨(some 55), .mv (.t 10), none⟩, ⟨(some 56), .mv (.t 11), none⟩, ⟨(some 57), .bin .add (.t 55) (.t 56), none⟩, ⟨(some 58), .bin .add (.t 57) (.c (.int .i64 1)), none⟩, ⟨(some 59), .bin .quo (.t 58) (.c (.int .i64 2)), none⟩, ⟨(some 12), .mv (.t 59), none⟩] [])
              (.seq (.reg false [⟨(some 60), .mv (.t 1), none⟩, ⟨(some 61), .mv (.t 12), none⟩, ⟨(some 62), .conv .u64 (.t 61), none⟩, ⟨(some 63), .call 59 [(.t 62)], none⟩, ⟨(some 64), .call 102 [(.t 60), (.t 63)], none⟩, ⟨(some 65), .mv (.t 8), none⟩, ⟨(some 66), .call 124 [(.t 64), (.t 65)], none⟩, ⟨(some 67), .bin .leq (.t 66) (.c (.int .i64 0)), none⟩] [])
              (.cond (.t 67)
                (.reg false [⟨(some 68), .mv (.t 12), none⟩, ⟨(some 10), .mv (.t 68), none⟩] [])
                (.reg false [⟨(some 69), .mv (.t 12), none⟩, ⟨(some 70), .bin .sub (.t 69) (.c (.int .i64 1)), none⟩, ⟨(some 11), .mv (.t 70), none⟩] []))))))))
        (.seq (.reg false [⟨(some 71), .mv (.t 6), none⟩, ⟨(some 72), .mv (.t 9), none⟩, ⟨(some 73), .mv (.t 10), none⟩, ⟨(some 74), .iaddrS 1 (.t 71) (.t 72), none⟩, ⟨none, .store 1 (.t 74) (.t 73), none⟩] [])
        (.reg false [⟨(some 75), .mv (.t 8), none⟩, ⟨(some 76), .mv (.t 1), none⟩, ⟨(some 77), .mv (.t 10), none⟩, ⟨(some 78), .conv .u64 (.t 77), none⟩, ⟨(some 79), .call 59 [(.t 78)], none⟩, ⟨(some 80), .call 102 [(.t 76), (.t 79)], none⟩, ⟨(some 81), .call 147 [(.t 75), (.t 80)], none⟩, ⟨(some 8), .mv (.t 81), none⟩] []))))))
      (.reg false [⟨(some 42), .mv (.t 9), none⟩, ⟨(some 43), .bin .sub (.t 42) (.c (.int .i64 1)), none⟩, ⟨(some 9), .mv (.t 43), none⟩] []))))))
  (.seq (.reg false [⟨(some 82), .mv (.t 6), none⟩, ⟨(some 83), .call 150 [(.t 82)], none⟩, ⟨(some 84), .mv (.t 8), none⟩, ⟨(some 4), .mv (.t 83), none⟩, ⟨(some 5), .mv (.t 84), none⟩] [])
  .ret))))))))
theorem ok95 : (Go.Proofs.Tryz.f95.body).bind (comp Go.Proofs.Tryz.prog) = some c95 := by kernel_rfl
def c99 : IR :=
  (.seq (.reg false [⟨(some 2), .mv (.c .nils), none⟩] [])
  (.seq (.reg false [⟨(some 3), .call 59 [(.c (.int .u64 10))], none⟩, ⟨(some 4), .mv (.t 0), none⟩, ⟨(some 5), .call 152 [(.t 3), (.t 4)], none⟩, ⟨(some 2), .mv (.t 5), none⟩] [])
  .ret))
theorem ok99 : (Go.Proofs.Tryz.f99.body).bind (comp Go.Proofs.Tryz.prog) = some c99 := by kernel_rfl
def c102 : IR :=
  (.seq (.reg false [⟨(some 4), .mv (.c .nils), none⟩] [])
  (.seq (.reg false [⟨(some 10), .mv (.t 0), none⟩, ⟨(some 11), .lenL (.t 10), none⟩, ⟨(some 12), .mv (.t 1), none⟩, ⟨(some 13), .lenL (.t 12), none⟩, ⟨(some 14), .bin .add (.t 11) (.t 13), none⟩, ⟨(some 15), .bin .add (.t 14) (.c (.int .i64 1)), none⟩, ⟨(some 16), .make 3 1 8 [(.int .i64 0)] (.t 15), none⟩, ⟨(some 5), .mv (.t 16), none⟩] [])
  (.seq (.seq (.reg false [⟨(some 6), .mv (.c (.int .i64 0)), none⟩] [])
  (.block 0 (.loop (.seq (.seq (.reg false [⟨(some 17), .mv (.t 6), none⟩, ⟨(some 18), .mv (.t 0), none⟩, ⟨(some 19), .lenL (.t 18), none⟩, ⟨(some 20), .bin .lss (.t 17) (.t 19), none⟩] [])
      (.cond (.t 20)
        .skip
        (.exit 0)))
      (.seq (.block 1 (.seq (.reg false [⟨(some 7), .mv (.c (.int .i64 0)), none⟩] [])
        (.seq (.reg false [⟨(some 8), .mv (.c (.int .i64 0)), none⟩] [])
        (.block 2 (.loop (.seq (.seq (.reg false [⟨(some 23), .mv (.t 8), none⟩, ⟨(some 24), .mv (.t 1), none⟩, ⟨(some 25), .lenL (.t 24), none⟩, ⟨(some 26), .bin .lss (.t 23) (.t 25), none⟩, ⟨(some 27), .mv (.t 26), none⟩, ⟨(some 28), .mv (.t 7), (some ((some 27), false))⟩, ⟨(some 29), .bin .gtr (.t 28) (.c (.int .i64 0)), (some ((some 27), false))⟩, ⟨(some 30), .pick (.t 27) (.c (.bool true)) (.t 29), none⟩] [])
            (.cond (.t 30)
              .skip
              (.exit 2)))
            (.seq (.block 3 (.seq (.reg true [⟨(some 33), .mv (.t 5), none⟩, ⟨(some 34), .mv (.t 6), none⟩, ⟨(some 35), .mv (.t 8), none⟩, ⟨(some 36), .bin .add (.t 34) (.t 35), none⟩, ⟨(some 37), .iaddrS 1 (.t 33) (.t 36), none⟩, ⟨(some 38), .load false 1 (.t 37), none⟩, ⟨(some 39), .mv (.t 0), none⟩, ⟨(some 40), .mv (.t 6), none⟩, ⟨(some 41), .iaddrS 1 (.t 39) (.t 40), none⟩, ⟨(some 42), .load false 1 (.t 41), none⟩, ⟨(some 43), .mv (.t 1), none⟩, ⟨(some 44), .mv (.t 8), none⟩, ⟨(some 45), .call 153 [(.t 43), (.t 44)], none⟩, ⟨(some 46), .bin .mul (.t 42) (.t 45), none⟩, ⟨(some 47), .bin .add (.t 38) (.t 46), none⟩, ⟨(some 48), .mv (.t 7), none⟩, ⟨(some 49), .bin .add (.t 47) (.t 48), none⟩, ⟨(some 9), .mv (.t 49), none⟩] [0, 0, 0, 6, 15, 31, 0, 0, 192, 448, 0, 0, 3072, 8128, 16383, 0, 65535, 131071])
              (.seq (.reg false [⟨(some 50), .mv (.t 5), none⟩, ⟨(some 51), .mv (.t 6), none⟩, ⟨(some 52), .mv (.t 8), none⟩, ⟨(some 53), .bin .add (.t 51) (.t 52), none⟩, ⟨(some 54), .mv (.t 9), none⟩, ⟨(some 55), .bin .rem (.t 54) (.c (.int .i64 10000)), none⟩, ⟨(some 56), .iaddrS 1 (.t 50) (.t 53), none⟩, ⟨none, .store 1 (.t 56) (.t 55), none⟩] [])
              (.reg false [⟨(some 57), .mv (.t 9), none⟩, ⟨(some 58), .bin .quo (.t 57) (.c (.int .i64 10000)), none⟩, ⟨(some 7), .mv (.t 58), none⟩] []))))
            (.reg false [⟨(some 31), .mv (.t 8), none⟩, ⟨(some 32), .bin .add (.t 31) (.c (.int .i64 1)), none⟩, ⟨(some 8), .mv (.t 32), none⟩] []))))))))
      (.reg false [⟨(some 21), .mv (.t 6), none⟩, ⟨(some 22), .bin .add (.t 21) (.c (.int .i64 1)), none⟩, ⟨(some 6), .mv (.t 22), none⟩] []))))))
  (.seq (.reg false [⟨(some 59), .mv (.t 5), none⟩, ⟨(some 60), .call 150 [(.t 59)], none⟩, ⟨(some 4), .mv (.t 60), none⟩] [])
  .ret))))
theorem ok102 : (Go.Proofs.Tryz.f102.body).bind (comp Go.Proofs.Tryz.prog) = some c102 := by kernel_rfl
def c105 : IR :=
  (.seq (.reg false [⟨(some 4), .mv (.c .nils), none⟩] [])
  (.seq (.reg false [⟨(some 5), .mv (.c .nils), none⟩] [])
  (.seq (.reg false [⟨(some 6), .mv (.c (.int .i64 0)), none⟩] [])
  (.seq (.seq (.reg false [⟨(some 7), .mv (.c (.int .i64 0)), none⟩] [])
  (.block 0 (.loop (.seq (.seq (.reg false [⟨(some 9), .mv (.t 7), none⟩, ⟨(some 10), .mv (.t 0), none⟩, ⟨(some 11), .lenL (.t 10), none⟩, ⟨(some 12), .bin .lss (.t 9) (.t 11), none⟩, ⟨(some 13), .mv (.t 12), none⟩, ⟨(some 14), .mv (.t 7), (some ((some 13), false))⟩, ⟨(some 15), .mv (.t 1), (some ((some 13), false))⟩, ⟨(some 16), .lenL (.t 15), (some ((some 13), false))⟩, ⟨(some 17), .bin .lss (.t 14) (.t 16), (some ((some 13), false))⟩, ⟨(some 18), .pick (.t 13) (.c (.bool true)) (.t 17), none⟩, ⟨(some 19), .mv (.t 18), none⟩, ⟨(some 20), .mv (.t 6), (some ((some 19), false))⟩, ⟨(some 21), .bin .gtr (.t 20) (.c (.int .i64 0)), (some ((some 19), false))⟩, ⟨(some 22), .pick (.t 19) (.c (.bool true)) (.t 21), none⟩] [])
      (.cond (.t 22)
        .skip
        (.exit 0)))
      (.seq (.block 1 (.seq (.reg false [⟨(some 25), .mv (.t 0), none⟩, ⟨(some 26), .mv (.t 7), none⟩, ⟨(some 27), .call 153 [(.t 25), (.t 26)], none⟩, ⟨(some 28), .mv (.t 1), none⟩, ⟨(some 29), .mv (.t 7), none⟩, ⟨(some 30), .call 153 [(.t 28), (.t 29)], none⟩, ⟨(some 31), .bin .add (.t 27) (.t 30), none⟩, ⟨(some 32), .mv (.t 6), none⟩, ⟨(some 33), .bin .add (.t 31) (.t 32), none⟩, ⟨(some 8), .mv (.t 33), none⟩] [])
        (.seq (.reg false [⟨(some 34), .mv (.t 5), none⟩, ⟨(some 35), .mv (.t 8), none⟩, ⟨(some 36), .bin .rem (.t 35) (.c (.int .i64 10000)), none⟩, ⟨(some 37), .lit 3 1 1 [(.int .i64 0)] [(0, 1, (.t 36))], none⟩, ⟨(some 38), .app 3 1 8 (.t 34) (.t 37), none⟩, ⟨(some 5), .mv (.t 38), none⟩] [])
        (.reg false [⟨(some 39), .mv (.t 8), none⟩, ⟨(some 40), .bin .quo (.t 39) (.c (.int .i64 10000)), none⟩, ⟨(some 6), .mv (.t 40), none⟩] []))))
      (.reg false [⟨(some 23), .mv (.t 7), none⟩, ⟨(some 24), .bin .add (.t 23) (.c (.int .i64 1)), none⟩, ⟨(some 7), .mv (.t 24), none⟩] []))))))
  (.seq (.reg false [⟨(some 41), .mv (.t 5), none⟩, ⟨(some 42), .call 150 [(.t 41)], none⟩, ⟨(some 4), .mv (.t 42), none⟩] [])
  .ret)))))
theorem ok105 : (Go.Proofs.Tryz.f105.body).bind (comp Go.Proofs.Tryz.prog) = some c105 := by kernel_rfl
def c121 : IR :=
  (.seq (.reg false [⟨(some 2), .mv (.c .nils), none⟩, ⟨(some 3), .mv (.c (.bool false)), none⟩] [])
  (.seq (.reg false [⟨(some 4), .mv (.c .nils), none⟩] [])
  (.seq (.seq (.reg false [⟨(some 5), .mv (.c (.int .i64 0)), none⟩] [])
  (.block 0 (.loop (.seq (.seq (.reg false [⟨(some 10), .mv (.t 5), none⟩, ⟨(some 11), .mv (.t 0), none⟩, ⟨(some 12), .lenS (.t 11), none⟩, ⟨(some 13), .bin .lss (.t 10) (.t 12), none⟩] [])
      (.cond (.t 13)
        .skip
        (.exit 0)))
      (.seq (.block 1 (.seq (.reg false [⟨(some 16), .mv (.t 0), none⟩, ⟨(some 17), .mv (.t 5), none⟩, ⟨(some 18), .idxs (.t 16) (.t 17), none⟩, ⟨(some 19), .bin .lss (.t 18) (.c (.int .u8 48)), none⟩, ⟨(some 20), .mv (.t 19), none⟩, ⟨(some 21), .mv (.t 0), (some ((some 20), false))⟩, ⟨(some 22), .mv (.t 5), (some ((some 20), false))⟩, ⟨(some 23), .idxs (.t 21) (.t 22), (some ((some 20), false))⟩, ⟨(some 24), .bin .gtr (.t 23) (.c (.int .u8 57)), (some ((some 20), false))⟩, ⟨(some 25), .pick (.t 20) (.c (.bool true)) (.t 24), none⟩] [])
        (.cond (.t 25)
          (.seq (.reg false [⟨(some 2), .mv (.c .nils), none⟩, ⟨(some 3), .mv (.c (.bool false)), none⟩] [])
          .ret)
          .skip)))
      (.reg false [⟨(some 14), .mv (.t 5), none⟩, ⟨(some 15), .bin .add (.t 14) (.c (.int .i64 1)), none⟩, ⟨(some 5), .mv (.t 15), none⟩] []))))))
  (.seq (.seq (.reg false [⟨(some 26), .mv (.t 0), none⟩, ⟨(some 27), .lenS (.t 26), none⟩, ⟨(some 6), .mv (.t 27), none⟩] [])
  (.block 2 (.loop (.seq (.seq (.reg false [⟨(some 28), .mv (.t 6), none⟩, ⟨(some 29), .bin .gtr (.t 28) (.c (.int .i64 0)), none⟩] [])
      (.cond (.t 29)
        .skip
        (.exit 2)))
      (.seq (.block 3 (.seq (.reg false [⟨(some 7), .mv (.c (.int .i64 0)), none⟩] [])
        (.seq (.reg false [⟨(some 32), .mv (.t 6), none⟩, ⟨(some 33), .bin .sub (.t 32) (.c (.int .i64 4)), none⟩, ⟨(some 8), .mv (.t 33), none⟩] [])
        (.seq (.seq (.reg false [⟨(some 34), .mv (.t 8), none⟩, ⟨(some 35), .bin .lss (.t 34) (.c (.int .i64 0)), none⟩] [])
        (.cond (.t 35)
          (.reg false [⟨(some 8), .mv (.c (.int .i64 0)), none⟩] [])
          .skip))
        (.seq (.seq (.reg false [⟨(some 36), .mv (.t 8), none⟩, ⟨(some 9), .mv (.t 36), none⟩] [])
        (.block 4 (.loop (.seq (.seq (.reg false [⟨(some 37), .mv (.t 9), none⟩, ⟨(some 38), .mv (.t 6), none⟩, ⟨(some 39), .bin .lss (.t 37) (.t 38), none⟩] [])
            (.cond (.t 39)
              .skip
              (.exit 4)))
            (.seq (.block 5 (.reg false [⟨(some 42), .mv (.t 7), none⟩, ⟨(some 43), .bin .mul (.c (.int .i64 10)) (.t 42), none⟩, ⟨(some 44), .mv (.t 0), none⟩, ⟨(some 45), .mv (.t 9), none⟩, ⟨(some 46), .idxs (.t 44) (.t 45), none⟩, ⟨(some 47), .bin .sub (.t 46) (.c (.int .u8 48)), none⟩, ⟨(some 48), .conv .i64 (.t 47), none⟩, ⟨(some 49), .bin .add (.t 43) (.t 48), none⟩, ⟨(some 7), .mv (.t 49), none⟩] []))
            (.reg false [⟨(some 40), .mv (.t 9), none⟩, ⟨(some 41), .bin .add (.t 40) (.c (.int .i64 1)), none⟩, ⟨(some 9), .mv (.t 41), none⟩] []))))))
        (.reg false [⟨(some 50), .mv (.t 4), none⟩, ⟨(some 51), .mv (.t 7), none⟩, ⟨(some 52), .lit 3 1 1 [(.int .i64 0)] [(0, 1, (.t 51))], none⟩, ⟨(some 53), .app 3 1 8 (.t 50) (.t 52), none⟩, ⟨(some 4), .mv (.t 53), none⟩] []))))))
      (.reg false [⟨(some 30), .mv (.t 6), none⟩, ⟨(some 31), .bin .sub (.t 30) (.c (.int .i64 4)), none⟩, ⟨(some 6), .mv (.t 31), none⟩] []))))))
  (.seq (.reg false [⟨(some 54), .mv (.t 4), none⟩, ⟨(some 55), .call 150 [(.t 54)], none⟩, ⟨(some 56), .mv (.t 0), none⟩, ⟨(some 57), .bin .neq (.t 56) (.c (.str ⟨#[]⟩)), none⟩, ⟨(some 2), .mv (.t 55), none⟩, ⟨(some 3), .mv (.t 57), none⟩] [])
  .ret)))))
theorem ok121 : (Go.Proofs.Tryz.f121.body).bind (comp Go.Proofs.Tryz.prog) = some c121 := by kernel_rfl
def c124 : IR :=
  (.seq (.reg false [⟨(some 4), .mv (.c (.int .i64 0)), none⟩] [])
  (.seq (.seq (.reg false [⟨(some 6), .mv (.t 0), none⟩, ⟨(some 7), .lenL (.t 6), none⟩, ⟨(some 8), .mv (.t 1), none⟩, ⟨(some 9), .lenL (.t 8), none⟩, ⟨(some 10), .bin .neq (.t 7) (.t 9), none⟩] [])
  (.cond (.t 10)
    (.seq (.seq (.reg false [⟨(some 11), .mv (.t 0), none⟩, ⟨(some 12), .lenL (.t 11), none⟩, ⟨(some 13), .mv (.t 1), none⟩, ⟨(some 14), .lenL (.t 13), none⟩, ⟨(some 15), .bin .lss (.t 12) (.t 14), none⟩] [])
    (.cond (.t 15)
      (.seq (.reg false [⟨(some 4), .mv (.c (.int .i64 (-1))), none⟩] [])
      .ret)
      .skip))
    (.seq (.reg false [⟨(some 4), .mv (.c (.int .i64 1)), none⟩] [])
    .ret))
    .skip))
  (.seq (.seq (.reg false [⟨(some 16), .mv (.t 0), none⟩, ⟨(some 17), .lenL (.t 16), none⟩, ⟨(some 18), .bin .sub (.t 17) (.c (.int .i64 1)), none⟩, ⟨(some 5), .mv (.t 18), none⟩] [])
  (.block 0 (.loop (.seq (.seq (.reg false [⟨(some 19), .mv (.t 5), none⟩, ⟨(some 20), .bin .geq (.t 19) (.c (.int .i64 0)), none⟩] [])
      (.cond (.t 20)
        .skip
        (.exit 0)))
      (.seq (.block 1 (.seq (.seq (.reg true [⟨(some 23), .mv (.t 0), none⟩, ⟨(some 24), .mv (.t 5), none⟩, ⟨(some 25), .iaddrS 1 (.t 23) (.t 24), none⟩, ⟨(some 26), .load false 1 (.t 25), none⟩, ⟨(some 27), .mv (.t 1), none⟩, ⟨(some 28), .mv (.t 5), none⟩, ⟨(some 29), .iaddrS 1 (.t 27) (.t 28), none⟩, ⟨(some 30), .load false 1 (.t 29), none⟩, ⟨(some 31), .bin .lss (.t 26) (.t 30), none⟩] [0, 0, 3, 7, 0, 0, 48, 112, 255])
        (.cond (.t 31)
          (.seq (.reg false [⟨(some 4), .mv (.c (.int .i64 (-1))), none⟩] [])
          .ret)
          .skip))
        (.seq (.reg true [⟨(some 32), .mv (.t 0), none⟩, ⟨(some 33), .mv (.t 5), none⟩, ⟨(some 34), .iaddrS 1 (.t 32) (.t 33), none⟩, ⟨(some 35), .load false 1 (.t 34), none⟩, ⟨(some 36), .mv (.t 1), none⟩, ⟨(some 37), .mv (.t 5), none⟩, ⟨(some 38), .iaddrS 1 (.t 36) (.t 37), none⟩, ⟨(some 39), .load false 1 (.t 38), none⟩, ⟨(some 40), .bin .gtr (.t 35) (.t 39), none⟩] [0, 0, 3, 7, 0, 0, 48, 112, 255])
        (.cond (.t 40)
          (.seq (.reg false [⟨(some 4), .mv (.c (.int .i64 1)), none⟩] [])
          .ret)
          .skip))))
      (.reg false [⟨(some 21), .mv (.t 5), none⟩, ⟨(some 22), .bin .sub (.t 21) (.c (.int .i64 1)), none⟩, ⟨(some 5), .mv (.t 22), none⟩] []))))))
  (.seq (.reg false [⟨(some 4), .mv (.c (.int .i64 0)), none⟩] [])
  .ret))))
theorem ok124 : (Go.Proofs.Tryz.f124.body).bind (comp Go.Proofs.Tryz.prog) = some c124 := by kernel_rfl
def c135 : IR :=
  (.seq (.reg false [⟨(some 4), .mv (.c .nils), none⟩] [])
  (.seq (.block 0 (.loop (.seq (.seq (.reg false [⟨(some 7), .mv (.t 1), none⟩, ⟨(some 8), .lenL (.t 7), none⟩, ⟨(some 9), .bin .gtr (.t 8) (.c (.int .i64 0)), none⟩] [])
      (.cond (.t 9)
        .skip
        (.exit 0)))
      (.block 1 (.seq (.reg false [⟨(some 11), .mv (.t 0), none⟩, ⟨(some 12), .mv (.t 1), none⟩, ⟨(some 13), .call 95 [(.t 11), (.t 12)], none⟩, ⟨(some 10), .mv (.t 13), none⟩, ⟨(some 14), .ext (.t 10) 0, none⟩, ⟨(some 15), .ext (.t 10) 1, none⟩, ⟨(some 5), .mv (.t 14), none⟩, ⟨(some 6), .mv (.t 15), none⟩] [])
        (.reg false [⟨(some 16), .mv (.t 1), none⟩, ⟨(some 17), .mv (.t 6), none⟩, ⟨(some 0), .mv (.t 16), none⟩, ⟨(some 1), .mv (.t 17), none⟩] []))))))
  (.seq (.reg false [⟨(some 18), .mv (.t 0), none⟩, ⟨(some 4), .mv (.t 18), none⟩] [])
  .ret)))
theorem ok135 : (Go.Proofs.Tryz.f135.body).bind (comp Go.Proofs.Tryz.prog) = some c135 := by kernel_rfl
def c146 : IR :=
  (.seq (.reg false [⟨(some 4), .mv (.c (.str ⟨#[]⟩)), none⟩] [])
  (.seq (.reg false [⟨(some 5), .mv (.c (.str ⟨#[]⟩)), none⟩] [])
  (.seq (.block 0 (.loop (.seq (.seq (.reg false [⟨(some 6), .mv (.t 0), none⟩, ⟨(some 7), .bin .gtr (.t 6) (.c (.int .i64 0)), none⟩, ⟨(some 8), .mv (.t 7), none⟩, ⟨(some 9), .mv (.t 5), (some ((some 8), false))⟩, ⟨(some 10), .lenS (.t 9), (some ((some 8), false))⟩, ⟨(some 11), .mv (.t 1), (some ((some 8), false))⟩, ⟨(some 12), .bin .lss (.t 10) (.t 11), (some ((some 8), false))⟩, ⟨(some 13), .pick (.t 8) (.c (.bool true)) (.t 12), none⟩] [])
      (.cond (.t 13)
        .skip
        (.exit 0)))
      (.block 1 (.seq (.reg false [⟨(some 14), .mv (.t 0), none⟩, ⟨(some 15), .bin .rem (.t 14) (.c (.int .i64 10)), none⟩, ⟨(some 16), .bin .add (.c (.int .i64 48)) (.t 15), none⟩, ⟨(some 17), .conv .u8 (.t 16), none⟩, ⟨(some 18), .lit 5 1 1 [(.int .u8 0)] [(0, 1, (.t 17))], none⟩, ⟨(some 19), .bstr (.t 18), none⟩, ⟨(some 20), .mv (.t 5), none⟩, ⟨(some 21), .bin .add (.t 19) (.t 20), none⟩, ⟨(some 5), .mv (.t 21), none⟩] [])
        (.reg false [⟨(some 22), .mv (.t 0), none⟩, ⟨(some 23), .bin .quo (.t 22) (.c (.int .i64 10)), none⟩, ⟨(some 0), .mv (.t 23), none⟩] []))))))
  (.seq (.reg false [⟨(some 24), .mv (.t 5), none⟩, ⟨(some 4), .mv (.t 24), none⟩] [])
  .ret))))
theorem ok146 : (Go.Proofs.Tryz.f146.body).bind (comp Go.Proofs.Tryz.prog) = some c146 := by kernel_rfl
def c147 : IR :=
  (.seq (.reg false [⟨(some 4), .mv (.c .nils), none⟩] [])
  (.seq (.reg false [⟨(some 5), .mv (.c .nils), none⟩] [])
  (.seq (.reg false [⟨(some 6), .mv (.c (.int .i64 0)), none⟩] [])
  (.seq (.seq (.reg false [⟨(some 7), .mv (.c (.int .i64 0)), none⟩] [])
  (.block 0 (.loop (.seq (.seq (.reg false [⟨(some 9), .mv (.t 7), none⟩, ⟨(some 10), .mv (.t 0), none⟩, ⟨(some 11), .lenL (.t 10), none⟩, ⟨(some 12), .bin .lss (.t 9) (.t 11), none⟩] [])
      (.cond (.t 12)
        .skip
        (.exit 0)))
      (.seq (.block 1 (.seq (.reg false [⟨(some 15), .mv (.t 0), none⟩, ⟨(some 16), .mv (.t 7), none⟩, ⟨(some 17), .call 153 [(.t 15), (.t 16)], none⟩, ⟨(some 18), .mv (.t 1), none⟩, ⟨(some 19), .mv (.t 7), none⟩, ⟨(some 20), .call 153 [(.t 18), (.t 19)], none⟩, ⟨(some 21), .bin .sub (.t 17) (.t 20), none⟩, ⟨(some 22), .mv (.t 6), none⟩, ⟨(some 23), .bin .sub (.t 21) (.t 22), none⟩, ⟨(some 8), .mv (.t 23), none⟩] [])
        (.seq (.reg false [⟨(some 6), .mv (.c (.int .i64 0)), none⟩] [])
        (.seq (.seq (.reg false [⟨(some 24), .mv (.t 8), none⟩, ⟨(some 25), .bin .lss (.t 24) (.c (.int .i64 0)), none⟩] [])
        (.cond (.t 25)
          (.reg false [⟨(some 26), .mv (.t 8), none⟩, ⟨(some 27), .bin .add (.t 26) (.c (.int .i64 10000)), none⟩, ⟨(some 8), .mv (.t 27), none⟩, ⟨(some 6), .mv (.c (.int .i64 1)), none⟩] [])
          .skip))
        (.reg false [⟨(some 28), .mv (.t 5), none⟩, ⟨(some 29), .mv (.t 8), none⟩, ⟨(some 30), .lit 3 1 1 [(.int .i64 0)] [(0, 1, (.t 29))], none⟩, ⟨(some 31), .app 3 1 8 (.t 28) (.t 30), none⟩, ⟨(some 5), .mv (.t 31), none⟩] [])))))
      (.reg false [⟨(some 13), .mv (.t 7), none⟩, ⟨(some 14), .bin .add (.t 13) (.c (.int .i64 1)), none⟩, ⟨(some 7), .mv (.t 14), none⟩] []))))))
  (.seq (.reg false [⟨(some 32), .mv (.t 5), none⟩, ⟨(some 33), .call 150 [(.t 32)], none⟩, ⟨(some 4), .mv (.t 33), none⟩] [])
  .ret)))))
theorem ok147 : (Go.Proofs.Tryz.f147.body).bind (comp Go.Proofs.Tryz.prog) = some c147 := by kernel_rfl
def c150 : IR :=
  (.seq (.reg false [⟨(some 2), .mv (.c .nils), none⟩] [])
  (.seq (.block 0 (.loop (.seq (.seq (.reg false [⟨(some 3), .mv (.t 0), none⟩, ⟨(some 4), .lenL (.t 3), none⟩, ⟨(some 5), .bin .gtr (.t 4) (.c (.int .i64 0)), none⟩, ⟨(some 6), .mv (.t 5), none⟩, ⟨(some 7), .mv (.t 0), (some ((some 6), true))⟩, ⟨(some 8), .mv (.t 0), (some ((some 6), true))⟩, ⟨(some 9), .lenL (.t 8), (some ((some 6), true))⟩, ⟨(some 10), .bin .sub (.t 9) (.c (.int .i64 1)), (some ((some 6), true))⟩, ⟨(some 11), .iaddrS 1 (.t 7) (.t 10), (some ((some 6), true))⟩, ⟨(some 12), .load false 1 (.t 11), (some ((some 6), true))⟩, ⟨(some 13), .bin .eql (.t 12) (.c (.int .i64 0)), (some ((some 6), true))⟩, ⟨(some 14), .pick (.t 6) (.t 13) (.c (.bool false)), none⟩] [])
      (.cond (.t 14)
        .skip
        (.exit 0)))
      (.block 1 (.reg false [⟨(some 15), .mv (.t 0), none⟩, ⟨(some 16), .mv (.t 0), none⟩, ⟨(some 17), .lenL (.t 16), none⟩, ⟨(some 18), .bin .sub (.t 17) (.c (.int .i64 1)), none⟩, ⟨(some 19), .slcL 1 (.t 15) none (some (.t 18)), none⟩, ⟨(some 0), .mv (.t 19), none⟩] [])))))
  (.seq (.reg false [⟨(some 20), .mv (.t 0), none⟩, ⟨(some 2), .mv (.t 20), none⟩] [])
  .ret)))
theorem ok150 : (Go.Proofs.Tryz.f150.body).bind (comp Go.Proofs.Tryz.prog) = some c150 := by kernel_rfl
def c152 : IR :=
  (.seq (.reg false [⟨(some 4), .mv (.c .nils), none⟩] [])
  (.seq (.reg false [⟨(some 7), .call 59 [(.c (.int .u64 1))], none⟩, ⟨(some 5), .mv (.t 7), none⟩] [])
  (.seq (.seq (.reg false [⟨(some 6), .mv (.c (.int .i64 0)), none⟩] [])
  (.block 0 (.loop (.seq (.seq (.reg false [⟨(some 8), .mv (.t 6), none⟩, ⟨(some 9), .mv (.t 1), none⟩, ⟨(some 10), .bin .lss (.t 8) (.t 9), none⟩] [])
      (.cond (.t 10)
        .skip
        (.exit 0)))
      (.seq (.block 1 (.reg false [⟨(some 13), .mv (.t 5), none⟩, ⟨(some 14), .mv (.t 0), none⟩, ⟨(some 15), .call 102 [(.t 13), (.t 14)], none⟩, ⟨(some 5), .mv (.t 15), none⟩] []))
      (.reg false [⟨(some 11), .mv (.t 6), none⟩, ⟨(some 12), .bin .add (.t 11) (.c (.int .i64 1)), none⟩, ⟨(some 6), .mv (.t 12), none⟩] []))))))
  (.seq (.reg false [⟨(some 16), .mv (.t 5), none⟩, ⟨(some 4), .mv (.t 16), none⟩] [])
  .ret))))
theorem ok152 : (Go.Proofs.Tryz.f152.body).bind (comp Go.Proofs.Tryz.prog) = some c152 := by kernel_rfl
def c153 : IR :=
  (.seq (.reg false [⟨(some 4), .mv (.c (.int .i64 0)), none⟩] [])
  (.seq (.seq (.reg false [⟨(some 5), .mv (.t 1), none⟩, ⟨(some 6), .mv (.t 0), none⟩, ⟨(some 7), .lenL (.t 6), none⟩, ⟨(some 8), .bin .lss (.t 5) (.t 7), none⟩] [])
  (.cond (.t 8)
    (.seq (.reg false [⟨(some 9), .mv (.t 0), none⟩, ⟨(some 10), .mv (.t 1), none⟩, ⟨(some 11), .iaddrS 1 (.t 9) (.t 10), none⟩, ⟨(some 12), .load false 1 (.t 11), none⟩, ⟨(some 4), .mv (.t 12), none⟩] [])
    .ret)
    .skip))
  (.seq (.reg false [⟨(some 4), .mv (.c (.int .i64 0)), none⟩] [])
  .ret)))
theorem ok153 : (Go.Proofs.Tryz.f153.body).bind (comp Go.Proofs.Tryz.prog) = some c153 := by kernel_rfl
end Go.Proofs.YtapikjmijmebpaaGreatDoorK.NatIr
