/-
  The compiled bodies, printed: IrCubitref18.
-/
import Derived.Test.YtapikjmijmebpaaGreatDoorKAb
import Derived.Test.YtapikjmijmebpaaGreatDoorProg
set_option linter.all false
set_option linter.unusedVariables false
set_option linter.unusedSimpArgs false
set_option maxHeartbeats 4000000
namespace Go.Proofs.YtapikjmijmebpaaGreatDoorK.NatIr
open Go.Proofs.YtapikjmijmebpaaGreatDoorK.AI
/-- cubit/cubitref18.Value -/
def c61 : IR :=
  (.seq (.reg false [⟨(some 2), .box 50 3 (.t 0), none⟩, ⟨(some 4), .new 38 3 [(.bool false), .nils, .nils], none⟩, ⟨(some 5), .mv (.c (.bool false)), none⟩] [])
  (.seq (.reg false [⟨(some 11), .faddr 1 (.t 2), none⟩, ⟨(some 12), .load false 1 (.t 11), none⟩, ⟨(some 13), .faddr 2 (.t 2), none⟩, ⟨(some 14), .load false 1 (.t 13), none⟩, ⟨(some 15), .build [(.bool false), .nils, (.int .i64 0)] [(1, 1, (.t 12)), (2, 1, (.t 14))], none⟩, ⟨(some 16), .call 53 [(.t 15)], none⟩, ⟨(some 6), .new 50 3 [(.bool false), .nils, (.int .i64 0)], none⟩, ⟨none, .store 3 (.t 6) (.t 16), none⟩] [])
  (.seq (.seq (.reg false [⟨(some 17), .mv (.t 1), none⟩] [])
  (.block 0 (.seq (.reg false [⟨(some 19), .bin .eql (.t 17) (.c (.int .u8 110)), none⟩, ⟨(some 18), .mv (.t 19), none⟩] [])
    (.cond (.t 18)
      (.seq (.reg false [⟨(some 20), .load true 3 (.t 2), none⟩, ⟨(some 21), .call 48 [(.t 20)], none⟩, ⟨(some 22), .call 128 [(.t 21)], none⟩, ⟨none, .store 3 (.t 4) (.t 22), none⟩, ⟨(some 5), .mv (.c (.bool true)), none⟩] [])
      .ret)
      (.seq (.reg false [⟨(some 24), .bin .eql (.t 17) (.c (.int .u8 105)), none⟩, ⟨(some 23), .mv (.t 24), none⟩] [])
      (.cond (.t 23)
        (.seq (.reg false [⟨(some 25), .load true 3 (.t 2), none⟩, ⟨(some 26), .call 51 [(.t 25)], none⟩, ⟨(some 27), .call 129 [(.t 26)], none⟩, ⟨none, .store 3 (.t 4) (.t 27), none⟩, ⟨(some 5), .mv (.c (.bool true)), none⟩] [])
        .ret)
        (.seq (.reg false [⟨(some 29), .bin .eql (.t 17) (.c (.int .u8 118)), none⟩, ⟨(some 28), .mv (.t 29), none⟩] [])
        (.cond (.t 28)
          (.seq (.reg false [⟨(some 30), .faddr 2 (.t 2), none⟩, ⟨(some 31), .load false 1 (.t 30), none⟩, ⟨(some 32), .call 71 [(.t 31)], none⟩, ⟨none, .store 3 (.t 4) (.t 32), none⟩, ⟨(some 5), .mv (.c (.bool true)), none⟩] [])
          .ret)
          (.seq (.reg false [⟨(some 34), .bin .eql (.t 17) (.c (.int .u8 119)), none⟩, ⟨(some 33), .mv (.t 34), none⟩] [])
          (.cond (.t 33)
            (.seq (.reg false [⟨(some 35), .faddr 2 (.t 6), none⟩, ⟨(some 36), .load false 1 (.t 35), none⟩, ⟨(some 37), .call 71 [(.t 36)], none⟩, ⟨none, .store 3 (.t 4) (.t 37), none⟩, ⟨(some 5), .mv (.c (.bool true)), none⟩] [])
            .ret)
            (.seq (.reg false [⟨(some 39), .bin .eql (.t 17) (.c (.int .u8 102)), none⟩, ⟨(some 38), .mv (.t 39), none⟩] [])
            (.cond (.t 38)
              (.seq (.reg false [⟨(some 41), .load true 3 (.t 2), none⟩, ⟨(some 42), .call 52 [(.t 41)], none⟩, ⟨(some 43), .bin .add (.c (.str ⟨#[48]⟩)) (.t 42), none⟩, ⟨(some 44), .call 121 [(.t 43)], none⟩, ⟨(some 40), .mv (.t 44), none⟩, ⟨(some 45), .ext (.t 40) 0, none⟩, ⟨(some 46), .ext (.t 40) 1, none⟩, ⟨(some 7), .mv (.t 45), none⟩, ⟨(some 8), .mv (.t 46), none⟩] [])
              (.seq (.reg false [⟨(some 47), .mv (.t 7), none⟩, ⟨(some 48), .call 129 [(.t 47)], none⟩, ⟨none, .store 3 (.t 4) (.t 48), none⟩, ⟨(some 5), .mv (.c (.bool true)), none⟩] [])
              .ret))
              (.seq (.reg false [⟨(some 50), .bin .eql (.t 17) (.c (.int .u8 116)), none⟩, ⟨(some 49), .mv (.t 50), none⟩] [])
              (.cond (.t 49)
                (.seq (.reg false [⟨(some 52), .load true 3 (.t 6), none⟩, ⟨(some 53), .call 52 [(.t 52)], none⟩, ⟨(some 54), .bin .add (.c (.str ⟨#[48]⟩)) (.t 53), none⟩, ⟨(some 55), .call 121 [(.t 54)], none⟩, ⟨(some 51), .mv (.t 55), none⟩, ⟨(some 56), .ext (.t 51) 0, none⟩, ⟨(some 57), .ext (.t 51) 1, none⟩, ⟨(some 9), .mv (.t 56), none⟩, ⟨(some 10), .mv (.t 57), none⟩] [])
                (.seq (.reg false [⟨(some 58), .mv (.t 9), none⟩, ⟨(some 59), .call 129 [(.t 58)], none⟩, ⟨none, .store 3 (.t 4) (.t 59), none⟩, ⟨(some 5), .mv (.c (.bool true)), none⟩] [])
                .ret))
                (.seq (.reg false [⟨(some 61), .bin .eql (.t 17) (.c (.int .u8 101)), none⟩, ⟨(some 60), .mv (.t 61), none⟩] [])
                (.cond (.t 60)
                  (.seq (.reg false [⟨(some 62), .call 71 [(.c (.int .i64 0))], none⟩, ⟨none, .store 3 (.t 4) (.t 62), none⟩, ⟨(some 5), .mv (.c (.bool true)), none⟩] [])
                  .ret)
                  .skip))))))))))))))))
  (.seq (.reg false [⟨(some 63), .call 71 [(.c (.int .i64 0))], none⟩, ⟨none, .store 3 (.t 4) (.t 63), none⟩, ⟨(some 5), .mv (.c (.bool false)), none⟩] [])
  .ret))))
theorem ok61 : (Go.Proofs.Tryz.f61.body).bind (comp Go.Proofs.Tryz.prog) = some c61 := by kernel_rfl
/-- cubit/cubitref18.whole -/
def c129 : IR :=
  (.seq (.reg false [⟨(some 2), .new 38 3 [(.bool false), .nils, .nils], none⟩] [])
  (.seq (.reg false [⟨(some 3), .mv (.t 0), none⟩, ⟨(some 4), .build [(.bool false), .nils] [(1, 1, (.t 3))], none⟩, ⟨(some 5), .call 59 [(.c (.int .u64 1))], none⟩, ⟨(some 6), .build [(.bool false), .nils, .nils] [(0, 2, (.t 4)), (2, 1, (.t 5))], none⟩, ⟨none, .store 3 (.t 2) (.t 6), none⟩] [])
  .ret))
theorem ok129 : (Go.Proofs.Tryz.f129.body).bind (comp Go.Proofs.Tryz.prog) = some c129 := by kernel_rfl
end Go.Proofs.YtapikjmijmebpaaGreatDoorK.NatIr
