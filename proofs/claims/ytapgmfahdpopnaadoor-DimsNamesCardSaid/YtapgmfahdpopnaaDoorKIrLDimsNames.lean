/-
  The compiled bodies, printed: IrLDimsNames.
-/
import Derived.Test.YtapgmfahdpopnaaDoorKAb
import Derived.Test.YtapgmfahdpopnaaDoorProg
set_option linter.all false
set_option linter.unusedVariables false
set_option linter.unusedSimpArgs false
set_option maxHeartbeats 4000000
namespace Go.Proofs.YtapgmfahdpopnaaDoorK.NatIr
open Go.Proofs.YtapgmfahdpopnaaDoorK.AI
def c3 : IR :=
  (.seq (.reg false [⟨(some 4), .mv (.c (.bool false)), none⟩] [])
  (.seq (.seq (.reg false [⟨(some 14), .call 4 [], none⟩, ⟨(some 15), .not (.t 14), none⟩] [])
  (.cond (.t 15)
    (.seq (.reg false [⟨(some 4), .mv (.c (.bool false)), none⟩] [])
    .ret)
    .skip))
  (.seq (.seq (.reg false [⟨(some 16), .mv (.t 0), none⟩, ⟨(some 17), .lenL (.t 16), none⟩, ⟨(some 18), .bin .gtr (.t 17) (.c (.int .i64 20)), none⟩, ⟨(some 19), .mv (.t 18), none⟩, ⟨(some 20), .mv (.t 1), (some ((some 19), false))⟩, ⟨(some 21), .lenL (.t 20), (some ((some 19), false))⟩, ⟨(some 22), .mv (.t 0), (some ((some 19), false))⟩, ⟨(some 23), .lenL (.t 22), (some ((some 19), false))⟩, ⟨(some 24), .bin .lss (.t 21) (.t 23), (some ((some 19), false))⟩, ⟨(some 25), .pick (.t 19) (.c (.bool true)) (.t 24), none⟩] [])
  (.cond (.t 25)
    (.seq (.reg false [⟨(some 4), .mv (.c (.bool true)), none⟩] [])
    .ret)
    .skip))
  (.seq (.reg false [⟨(some 26), .call 5 [], none⟩, ⟨(some 5), .mv (.t 26), none⟩] [])
  (.seq (.reg false [⟨(some 6), .mv (.c .nils), none⟩] [])
  (.seq (.seq (.reg false [⟨(some 7), .mv (.c (.int .i64 0)), none⟩] [])
  (.block 0 (.loop (.seq (.seq (.reg false [⟨(some 27), .mv (.t 7), none⟩, ⟨(some 28), .mv (.t 0), none⟩, ⟨(some 29), .lenL (.t 28), none⟩, ⟨(some 30), .bin .lss (.t 27) (.t 29), none⟩] [])
      (.cond (.t 30)
        .skip
        (.exit 0)))
      (.seq (.block 1 (.seq (.reg false [⟨(some 33), .mv (.t 1), none⟩, ⟨(some 34), .mv (.t 7), none⟩, ⟨(some 35), .iaddrS 1 (.t 33) (.t 34), none⟩, ⟨(some 36), .load false 1 (.t 35), none⟩, ⟨(some 37), .bin .eql (.t 36) (.c (.str ⟨#[]⟩)), none⟩, ⟨(some 8), .mv (.t 37), none⟩] [])
        (.seq (.seq (.reg false [⟨(some 9), .mv (.c (.int .i64 0)), none⟩] [])
        (.block 2 (.loop (.seq (.seq (.reg false [⟨(some 38), .mv (.t 9), none⟩, ⟨(some 39), .mv (.t 6), none⟩, ⟨(some 40), .lenL (.t 39), none⟩, ⟨(some 41), .bin .lss (.t 38) (.t 40), none⟩] [])
            (.cond (.t 41)
              .skip
              (.exit 2)))
            (.seq (.block 3 (.reg true [⟨(some 44), .mv (.t 8), none⟩, ⟨(some 45), .mv (.t 44), none⟩, ⟨(some 46), .mv (.t 0), (some ((some 45), false))⟩, ⟨(some 47), .mv (.t 6), (some ((some 45), false))⟩, ⟨(some 48), .mv (.t 9), (some ((some 45), false))⟩, ⟨(some 49), .iaddrS 1 (.t 47) (.t 48), (some ((some 45), false))⟩, ⟨(some 50), .load false 1 (.t 49), (some ((some 45), false))⟩, ⟨(some 51), .iaddrS 8 (.t 46) (.t 50), (some ((some 45), false))⟩, ⟨(some 52), .load true 8 (.t 51), (some ((some 45), false))⟩, ⟨(some 53), .mv (.t 0), (some ((some 45), false))⟩, ⟨(some 54), .mv (.t 7), (some ((some 45), false))⟩, ⟨(some 55), .iaddrS 8 (.t 53) (.t 54), (some ((some 45), false))⟩, ⟨(some 56), .load true 8 (.t 55), (some ((some 45), false))⟩, ⟨(some 57), .aeq 8 false (.t 52) (.t 56), (some ((some 45), false))⟩, ⟨(some 58), .pick (.t 45) (.c (.bool true)) (.t 57), none⟩, ⟨(some 8), .mv (.t 58), none⟩] [0, 1, 3, 3, 3, 27, 59, 127, 255, 3, 3, 1539, 3587, 8191, 16383, 32767]))
            (.reg false [⟨(some 42), .mv (.t 9), none⟩, ⟨(some 43), .bin .add (.t 42) (.c (.int .i64 1)), none⟩, ⟨(some 9), .mv (.t 43), none⟩] []))))))
        (.seq (.seq (.reg true [⟨(some 59), .mv (.t 5), none⟩, ⟨(some 60), .mv (.t 0), none⟩, ⟨(some 61), .mv (.t 7), none⟩, ⟨(some 62), .iaddrS 8 (.t 60) (.t 61), none⟩, ⟨(some 63), .load true 8 (.t 62), none⟩, ⟨(some 64), .mv (.t 1), none⟩, ⟨(some 65), .mv (.t 7), none⟩, ⟨(some 66), .iaddrS 1 (.t 64) (.t 65), none⟩, ⟨(some 67), .load false 1 (.t 66), none⟩, ⟨(some 68), .call 6 [(.t 59), (.t 63), (.t 67)], none⟩, ⟨(some 69), .mv (.t 8), none⟩, ⟨(some 70), .beq false (.t 68) (.t 69), none⟩] [0, 0, 0, 6, 14, 0, 0, 96, 224, 511, 0, 2047])
        (.cond (.t 70)
          (.seq (.reg false [⟨(some 4), .mv (.c (.bool false)), none⟩] [])
          .ret)
          .skip))
        (.seq (.reg false [⟨(some 71), .mv (.t 8), none⟩, ⟨(some 72), .not (.t 71), none⟩] [])
        (.cond (.t 72)
          (.reg false [⟨(some 73), .mv (.t 6), none⟩, ⟨(some 74), .mv (.t 7), none⟩, ⟨(some 75), .lit 3 1 1 [(.int .i64 0)] [(0, 1, (.t 74))], none⟩, ⟨(some 76), .app 3 1 8 (.t 73) (.t 75), none⟩, ⟨(some 6), .mv (.t 76), none⟩] [])
          .skip))))))
      (.reg false [⟨(some 31), .mv (.t 7), none⟩, ⟨(some 32), .bin .add (.t 31) (.c (.int .i64 1)), none⟩, ⟨(some 7), .mv (.t 32), none⟩] []))))))
  (.seq (.reg false [⟨(some 77), .mv (.t 5), none⟩, ⟨(some 78), .call 7 [(.t 77)], none⟩, ⟨(some 10), .mv (.t 78), none⟩] [])
  (.seq (.seq (.reg false [⟨(some 79), .mv (.t 10), none⟩, ⟨(some 80), .lenL (.t 79), none⟩, ⟨(some 81), .mv (.t 6), none⟩, ⟨(some 82), .lenL (.t 81), none⟩, ⟨(some 83), .bin .neq (.t 80) (.t 82), none⟩] [])
  (.cond (.t 83)
    (.seq (.reg false [⟨(some 4), .mv (.c (.bool false)), none⟩] [])
    .ret)
    .skip))
  (.seq (.seq (.reg false [⟨(some 11), .mv (.c (.int .i64 0)), none⟩] [])
  (.block 4 (.loop (.seq (.seq (.reg false [⟨(some 84), .mv (.t 11), none⟩, ⟨(some 85), .mv (.t 6), none⟩, ⟨(some 86), .lenL (.t 85), none⟩, ⟨(some 87), .bin .lss (.t 84) (.t 86), none⟩] [])
      (.cond (.t 87)
        .skip
        (.exit 4)))
      (.seq (.block 5 (.seq (.reg false [⟨(some 91), .mv (.t 5), none⟩, ⟨(some 92), .mv (.t 0), none⟩, ⟨(some 93), .mv (.t 6), none⟩, ⟨(some 94), .mv (.t 11), none⟩, ⟨(some 95), .iaddrS 1 (.t 93) (.t 94), none⟩, ⟨(some 96), .load false 1 (.t 95), none⟩, ⟨(some 97), .iaddrS 8 (.t 92) (.t 96), none⟩, ⟨(some 98), .load true 8 (.t 97), none⟩, ⟨(some 99), .call 8 [(.t 91), (.t 98)], none⟩, ⟨(some 90), .mv (.t 99), none⟩, ⟨(some 100), .ext (.t 90) 0, none⟩, ⟨(some 101), .ext (.t 90) 1, none⟩, ⟨(some 12), .mv (.t 100), none⟩, ⟨(some 13), .mv (.t 101), none⟩] [])
        (.seq (.reg false [⟨(some 102), .mv (.t 13), none⟩, ⟨(some 103), .not (.t 102), none⟩, ⟨(some 104), .mv (.t 103), none⟩, ⟨(some 105), .mv (.t 12), (some ((some 104), false))⟩, ⟨(some 106), .mv (.t 1), (some ((some 104), false))⟩, ⟨(some 107), .mv (.t 6), (some ((some 104), false))⟩, ⟨(some 108), .mv (.t 11), (some ((some 104), false))⟩, ⟨(some 109), .iaddrS 1 (.t 107) (.t 108), (some ((some 104), false))⟩, ⟨(some 110), .load false 1 (.t 109), (some ((some 104), false))⟩, ⟨(some 111), .iaddrS 1 (.t 106) (.t 110), (some ((some 104), false))⟩, ⟨(some 112), .load false 1 (.t 111), (some ((some 104), false))⟩, ⟨(some 113), .bin .neq (.t 105) (.t 112), (some ((some 104), false))⟩, ⟨(some 114), .pick (.t 104) (.c (.bool true)) (.t 113), none⟩, ⟨(some 115), .mv (.t 114), none⟩, ⟨(some 116), .mv (.t 10), (some ((some 115), false))⟩, ⟨(some 117), .mv (.t 11), (some ((some 115), false))⟩, ⟨(some 118), .iaddrS 1 (.t 116) (.t 117), (some ((some 115), false))⟩, ⟨(some 119), .load false 1 (.t 118), (some ((some 115), false))⟩, ⟨(some 120), .mv (.t 12), (some ((some 115), false))⟩, ⟨(some 121), .bin .neq (.t 119) (.t 120), (some ((some 115), false))⟩, ⟨(some 122), .pick (.t 115) (.c (.bool true)) (.t 121), none⟩] [])
        (.cond (.t 122)
          (.seq (.reg false [⟨(some 4), .mv (.c (.bool false)), none⟩] [])
          .ret)
          .skip))))
      (.reg false [⟨(some 88), .mv (.t 11), none⟩, ⟨(some 89), .bin .add (.t 88) (.c (.int .i64 1)), none⟩, ⟨(some 11), .mv (.t 89), none⟩] []))))))
  (.seq (.reg false [⟨(some 4), .mv (.c (.bool true)), none⟩] [])
  .ret))))))))))
theorem ok3 : (Go.Proofs.Tryd.f3.body).bind (comp Go.Proofs.Tryd.prog) = some c3 := by kernel_rfl
end Go.Proofs.YtapgmfahdpopnaaDoorK.NatIr
