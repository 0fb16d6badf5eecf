/-
  The compiled bodies, printed: IrNat.
-/
import Derived.Test.YtapikjmijmebpaaDoorKAb
import Derived.Test.YtapikjmijmebpaaDoorProg
set_option linter.all false
set_option linter.unusedVariables false
set_option linter.unusedSimpArgs false
set_option maxHeartbeats 4000000
namespace Go.Proofs.YtapikjmijmebpaaDoorK.NatIr
open Go.Proofs.YtapikjmijmebpaaDoorK.AI
/-- cubit/nat.Text -/
def c13 : IR :=
  (.seq (.reg false [⟨(some 1), .box 24 1 (.t 0), none⟩, ⟨(some 2), .mv (.c (.str ⟨#[]⟩)), none⟩] [])
  (.seq (.reg false [⟨(some 8), .faddr 0 (.t 1), none⟩, ⟨(some 9), .load false 1 (.t 8), none⟩, ⟨(some 10), .call 49 [(.t 9)], none⟩, ⟨(some 11), .fld false 0 1 (.t 10), none⟩, ⟨(some 3), .mv (.t 11), none⟩] [])
  (.seq (.seq (.reg false [⟨(some 12), .mv (.t 3), none⟩, ⟨(some 13), .lenL (.t 12), none⟩, ⟨(some 14), .bin .eql (.t 13) (.c (.int .i64 0)), none⟩] [])
  (.cond (.t 14)
    (.seq (.reg false [⟨(some 2), .mv (.c (.str ⟨#[48]⟩)), none⟩] [])
    .ret)
    .skip))
  (.seq (.reg false [⟨(some 4), .mv (.c .nils), none⟩] [])
  (.seq (.block 0 (.loop (.seq (.seq (.reg false [⟨(some 15), .mv (.t 3), none⟩, ⟨(some 16), .lenL (.t 15), none⟩, ⟨(some 17), .bin .gtr (.t 16) (.c (.int .i64 0)), none⟩] [])
      (.cond (.t 17)
        .skip
        (.exit 0)))
      (.block 1 (.seq (.reg false [⟨(some 19), .mv (.t 3), none⟩, ⟨(some 20), .call 50 [(.t 19), (.c (.int .u32 1000000000))], none⟩, ⟨(some 18), .mv (.t 20), none⟩, ⟨(some 21), .ext (.t 18) 0, none⟩, ⟨(some 22), .ext (.t 18) 1, none⟩, ⟨(some 5), .mv (.t 21), none⟩, ⟨(some 6), .mv (.t 22), none⟩] [])
        (.seq (.reg false [⟨(some 23), .mv (.t 5), none⟩, ⟨(some 24), .call 49 [(.t 23)], none⟩, ⟨(some 25), .fld false 0 1 (.t 24), none⟩, ⟨(some 3), .mv (.t 25), none⟩] [])
        (.seq (.reg false [⟨(some 26), .mv (.t 6), none⟩, ⟨(some 27), .conv .i64 (.t 26), none⟩, ⟨(some 28), .call 51 [(.t 27)], none⟩, ⟨(some 7), .mv (.t 28), none⟩] [])
        (.seq (.seq (.reg false [⟨(some 29), .mv (.t 3), none⟩, ⟨(some 30), .lenL (.t 29), none⟩, ⟨(some 31), .bin .gtr (.t 30) (.c (.int .i64 0)), none⟩] [])
        (.cond (.t 31)
          (.reg false [⟨(some 32), .mv (.t 7), none⟩, ⟨(some 33), .lenS (.t 32), none⟩, ⟨(some 34), .bin .sub (.c (.int .i64 9)) (.t 33), none⟩, ⟨(some 35), .call 52 [(.c (.str ⟨#[48]⟩)), (.t 34)], none⟩, ⟨(some 36), .mv (.t 7), none⟩, ⟨(some 37), .bin .add (.t 35) (.t 36), none⟩, ⟨(some 7), .mv (.t 37), none⟩] [])
          .skip))
        (.reg false [⟨(some 38), .mv (.t 4), none⟩, ⟨(some 39), .mv (.t 7), none⟩, ⟨(some 40), .lit 9 1 1 [(.str ⟨#[]⟩)] [(0, 1, (.t 39))], none⟩, ⟨(some 41), .app 9 1 16 (.t 38) (.t 40), none⟩, ⟨(some 4), .mv (.t 41), none⟩] [])))))))))
  (.seq (.reg false [⟨(some 42), .mv (.t 4), none⟩, ⟨(some 43), .call 53 [(.t 42)], none⟩] [])
  (.seq (.reg false [⟨(some 44), .mv (.t 4), none⟩, ⟨(some 45), .call 54 [(.t 44), (.c (.str ⟨#[]⟩))], none⟩, ⟨(some 2), .mv (.t 45), none⟩] [])
  .ret)))))))
theorem ok13 : (Go.Proofs.Tryd.f13.body).bind (comp Go.Proofs.Tryd.prog) = some c13 := by kernel_rfl
/-- cubit/nat.Of -/
def c17 : IR :=
  (.seq (.reg false [⟨(some 2), .new 24 1 [.nils], none⟩] [])
  (.seq (.reg false [⟨(some 3), .mv (.t 0), none⟩, ⟨(some 4), .conv .u32 (.t 3), none⟩, ⟨(some 5), .mv (.t 0), none⟩, ⟨(some 6), .bin .shr (.t 5) (.c (.int .u64 32)), none⟩, ⟨(some 7), .conv .u32 (.t 6), none⟩, ⟨(some 8), .lit 78 1 2 [(.int .u32 0), (.int .u32 0)] [(0, 1, (.t 4)), (1, 1, (.t 7))], none⟩, ⟨(some 9), .call 49 [(.t 8)], none⟩, ⟨none, .store 1 (.t 2) (.t 9), none⟩] [])
  .ret))
theorem ok17 : (Go.Proofs.Tryd.f17.body).bind (comp Go.Proofs.Tryd.prog) = some c17 := by kernel_rfl
/-- cubit/nat.Div -/
def c30 : IR :=
  (.seq (.reg false [⟨(some 2), .box 24 1 (.t 0), none⟩, ⟨(some 3), .box 24 1 (.t 1), none⟩, ⟨(some 4), .new 24 1 [.nils], none⟩, ⟨(some 5), .new 24 1 [.nils], none⟩, ⟨(some 6), .mv (.c (.bool false)), none⟩] [])
  (.seq (.reg true [⟨(some 16), .faddr 0 (.t 2), none⟩, ⟨(some 17), .load false 1 (.t 16), none⟩, ⟨(some 18), .call 49 [(.t 17)], none⟩, ⟨(some 19), .fld false 0 1 (.t 18), none⟩, ⟨(some 20), .faddr 0 (.t 3), none⟩, ⟨(some 21), .load false 1 (.t 20), none⟩, ⟨(some 22), .call 49 [(.t 21)], none⟩, ⟨(some 23), .fld false 0 1 (.t 22), none⟩, ⟨(some 7), .mv (.t 19), none⟩, ⟨(some 8), .mv (.t 23), none⟩] [0, 1, 3, 7, 0, 16, 55, 119, 127, 511])
  (.seq (.block 0 (.seq (.reg false [⟨(some 25), .mv (.t 8), none⟩, ⟨(some 26), .lenL (.t 25), none⟩, ⟨(some 27), .bin .eql (.t 26) (.c (.int .i64 0)), none⟩, ⟨(some 24), .mv (.t 27), none⟩] [])
    (.cond (.t 24)
      (.seq (.reg false [⟨(some 28), .build [.nils] [], none⟩, ⟨(some 29), .build [.nils] [], none⟩, ⟨none, .store 1 (.t 4) (.t 28), none⟩, ⟨none, .store 1 (.t 5) (.t 29), none⟩, ⟨(some 6), .mv (.c (.bool false)), none⟩] [])
      .ret)
      (.seq (.reg false [⟨(some 31), .load true 1 (.t 2), none⟩, ⟨(some 32), .load true 1 (.t 3), none⟩, ⟨(some 33), .call 31 [(.t 31), (.t 32)], none⟩, ⟨(some 34), .bin .lss (.t 33) (.c (.int .i64 0)), none⟩, ⟨(some 30), .mv (.t 34), none⟩] [])
      (.cond (.t 30)
        (.seq (.reg false [⟨(some 35), .build [.nils] [], none⟩, ⟨(some 36), .mv (.t 7), none⟩, ⟨(some 37), .call 67 [(.t 36)], none⟩, ⟨(some 38), .build [.nils] [(0, 1, (.t 37))], none⟩, ⟨none, .store 1 (.t 4) (.t 35), none⟩, ⟨none, .store 1 (.t 5) (.t 38), none⟩, ⟨(some 6), .mv (.c (.bool true)), none⟩] [])
        .ret)
        (.seq (.reg false [⟨(some 40), .mv (.t 8), none⟩, ⟨(some 41), .lenL (.t 40), none⟩, ⟨(some 42), .bin .eql (.t 41) (.c (.int .i64 1)), none⟩, ⟨(some 39), .mv (.t 42), none⟩] [])
        (.cond (.t 39)
          (.seq (.reg false [⟨(some 44), .mv (.t 7), none⟩, ⟨(some 45), .mv (.t 8), none⟩, ⟨(some 46), .iaddrS 1 (.t 45) (.c (.int .i64 0)), none⟩, ⟨(some 47), .load false 1 (.t 46), none⟩, ⟨(some 48), .call 50 [(.t 44), (.t 47)], none⟩, ⟨(some 43), .mv (.t 48), none⟩, ⟨(some 49), .ext (.t 43) 0, none⟩, ⟨(some 50), .ext (.t 43) 1, none⟩, ⟨(some 9), .mv (.t 49), none⟩, ⟨(some 10), .mv (.t 50), none⟩] [])
          (.seq (.reg false [⟨(some 51), .mv (.t 9), none⟩, ⟨(some 52), .call 49 [(.t 51)], none⟩, ⟨(some 53), .mv (.t 10), none⟩, ⟨(some 54), .conv .u64 (.t 53), none⟩, ⟨(some 55), .call 17 [(.t 54)], none⟩, ⟨none, .store 1 (.t 4) (.t 52), none⟩, ⟨none, .store 1 (.t 5) (.t 55), none⟩, ⟨(some 6), .mv (.c (.bool true)), none⟩] [])
          .ret))
          .skip)))))))
  (.seq (.reg false [⟨(some 56), .mv (.t 8), none⟩, ⟨(some 57), .mv (.t 8), none⟩, ⟨(some 58), .lenL (.t 57), none⟩, ⟨(some 59), .bin .sub (.t 58) (.c (.int .i64 1)), none⟩, ⟨(some 60), .iaddrS 1 (.t 56) (.t 59), none⟩, ⟨(some 61), .load false 1 (.t 60), none⟩, ⟨(some 62), .call 68 [(.t 61)], none⟩, ⟨(some 11), .mv (.t 62), none⟩] [])
  (.seq (.reg true [⟨(some 63), .mv (.t 7), none⟩, ⟨(some 64), .mv (.t 11), none⟩, ⟨(some 65), .call 69 [(.t 63), (.t 64)], none⟩, ⟨(some 66), .mv (.t 8), none⟩, ⟨(some 67), .mv (.t 11), none⟩, ⟨(some 68), .call 69 [(.t 66), (.t 67)], none⟩, ⟨(some 69), .mv (.t 8), none⟩, ⟨(some 70), .lenL (.t 69), none⟩, ⟨(some 71), .slcL 1 (.t 68) none (some (.t 70)), none⟩, ⟨(some 12), .mv (.t 65), none⟩, ⟨(some 13), .mv (.t 71), none⟩] [0, 0, 3, 0, 0, 31, 0, 64, 255, 63, 1023])
  (.seq (.reg false [⟨(some 72), .mv (.t 7), none⟩, ⟨(some 73), .lenL (.t 72), none⟩, ⟨(some 74), .mv (.t 8), none⟩, ⟨(some 75), .lenL (.t 74), none⟩, ⟨(some 76), .bin .sub (.t 73) (.t 75), none⟩, ⟨(some 77), .bin .add (.t 76) (.c (.int .i64 1)), none⟩, ⟨(some 78), .make 78 1 4 [(.int .u32 0)] (.t 77), none⟩, ⟨(some 14), .mv (.t 78), none⟩] [])
  (.seq (.seq (.reg false [⟨(some 79), .mv (.t 14), none⟩, ⟨(some 80), .lenL (.t 79), none⟩, ⟨(some 81), .bin .sub (.t 80) (.c (.int .i64 1)), none⟩, ⟨(some 15), .mv (.t 81), none⟩] [])
  (.block 1 (.loop (.seq (.seq (.reg false [⟨(some 82), .mv (.t 15), none⟩, ⟨(some 83), .bin .geq (.t 82) (.c (.int .i64 0)), none⟩] [])
      (.cond (.t 83)
        .skip
        (.exit 1)))
      (.seq (.block 2 (.reg false [⟨(some 86), .mv (.t 14), none⟩, ⟨(some 87), .mv (.t 15), none⟩, ⟨(some 88), .mv (.t 12), none⟩, ⟨(some 89), .mv (.t 15), none⟩, ⟨(some 90), .mv (.t 15), none⟩, ⟨(some 91), .mv (.t 13), none⟩, ⟨(some 92), .lenL (.t 91), none⟩, ⟨(some 93), .bin .add (.t 90) (.t 92), none⟩, ⟨(some 94), .bin .add (.t 93) (.c (.int .i64 1)), none⟩, ⟨(some 95), .slcL 1 (.t 88) (some (.t 89)) (some (.t 94)), none⟩, ⟨(some 96), .mv (.t 13), none⟩, ⟨(some 97), .call 70 [(.t 95), (.t 96)], none⟩, ⟨(some 98), .iaddrS 1 (.t 86) (.t 87), none⟩, ⟨none, .store 1 (.t 98) (.t 97), none⟩] []))
      (.reg false [⟨(some 84), .mv (.t 15), none⟩, ⟨(some 85), .bin .sub (.t 84) (.c (.int .i64 1)), none⟩, ⟨(some 15), .mv (.t 85), none⟩] []))))))
  (.seq (.reg false [⟨(some 99), .mv (.t 14), none⟩, ⟨(some 100), .call 49 [(.t 99)], none⟩, ⟨(some 101), .mv (.t 12), none⟩, ⟨(some 102), .mv (.t 11), none⟩, ⟨(some 103), .call 71 [(.t 101), (.t 102)], none⟩, ⟨(some 104), .call 49 [(.t 103)], none⟩, ⟨none, .store 1 (.t 4) (.t 100), none⟩, ⟨none, .store 1 (.t 5) (.t 104), none⟩, ⟨(some 6), .mv (.c (.bool true)), none⟩] [])
  .ret))))))))
theorem ok30 : (Go.Proofs.Tryd.f30.body).bind (comp Go.Proofs.Tryd.prog) = some c30 := by kernel_rfl
/-- cubit/nat.Cmp -/
def c31 : IR :=
  (.seq (.reg false [⟨(some 2), .box 24 1 (.t 0), none⟩, ⟨(some 3), .box 24 1 (.t 1), none⟩, ⟨(some 4), .mv (.c (.int .i64 0)), none⟩] [])
  (.seq (.reg true [⟨(some 8), .faddr 0 (.t 2), none⟩, ⟨(some 9), .load false 1 (.t 8), none⟩, ⟨(some 10), .call 49 [(.t 9)], none⟩, ⟨(some 11), .fld false 0 1 (.t 10), none⟩, ⟨(some 12), .faddr 0 (.t 3), none⟩, ⟨(some 13), .load false 1 (.t 12), none⟩, ⟨(some 14), .call 49 [(.t 13)], none⟩, ⟨(some 15), .fld false 0 1 (.t 14), none⟩, ⟨(some 5), .mv (.t 11), none⟩, ⟨(some 6), .mv (.t 15), none⟩] [0, 1, 3, 7, 0, 16, 55, 119, 127, 511])
  (.seq (.seq (.reg false [⟨(some 16), .mv (.t 5), none⟩, ⟨(some 17), .lenL (.t 16), none⟩, ⟨(some 18), .mv (.t 6), none⟩, ⟨(some 19), .lenL (.t 18), none⟩, ⟨(some 20), .bin .neq (.t 17) (.t 19), none⟩] [])
  (.cond (.t 20)
    (.seq (.reg false [⟨(some 21), .mv (.t 5), none⟩, ⟨(some 22), .lenL (.t 21), none⟩, ⟨(some 23), .mv (.t 6), none⟩, ⟨(some 24), .lenL (.t 23), none⟩, ⟨(some 25), .bin .lss (.t 22) (.t 24), none⟩, ⟨(some 26), .call 72 [(.t 25)], none⟩, ⟨(some 4), .mv (.t 26), none⟩] [])
    .ret)
    .skip))
  (.seq (.seq (.reg false [⟨(some 27), .mv (.t 5), none⟩, ⟨(some 28), .lenL (.t 27), none⟩, ⟨(some 29), .bin .sub (.t 28) (.c (.int .i64 1)), none⟩, ⟨(some 7), .mv (.t 29), none⟩] [])
  (.block 0 (.loop (.seq (.seq (.reg false [⟨(some 30), .mv (.t 7), none⟩, ⟨(some 31), .bin .geq (.t 30) (.c (.int .i64 0)), none⟩] [])
      (.cond (.t 31)
        .skip
        (.exit 0)))
      (.seq (.block 1 (.seq (.reg true [⟨(some 34), .mv (.t 5), none⟩, ⟨(some 35), .mv (.t 7), none⟩, ⟨(some 36), .iaddrS 1 (.t 34) (.t 35), none⟩, ⟨(some 37), .load false 1 (.t 36), none⟩, ⟨(some 38), .mv (.t 6), none⟩, ⟨(some 39), .mv (.t 7), none⟩, ⟨(some 40), .iaddrS 1 (.t 38) (.t 39), none⟩, ⟨(some 41), .load false 1 (.t 40), none⟩, ⟨(some 42), .bin .neq (.t 37) (.t 41), none⟩] [0, 0, 3, 7, 0, 0, 48, 112, 255])
        (.cond (.t 42)
          (.seq (.reg true [⟨(some 43), .mv (.t 5), none⟩, ⟨(some 44), .mv (.t 7), none⟩, ⟨(some 45), .iaddrS 1 (.t 43) (.t 44), none⟩, ⟨(some 46), .load false 1 (.t 45), none⟩, ⟨(some 47), .mv (.t 6), none⟩, ⟨(some 48), .mv (.t 7), none⟩, ⟨(some 49), .iaddrS 1 (.t 47) (.t 48), none⟩, ⟨(some 50), .load false 1 (.t 49), none⟩, ⟨(some 51), .bin .lss (.t 46) (.t 50), none⟩, ⟨(some 52), .call 72 [(.t 51)], none⟩, ⟨(some 4), .mv (.t 52), none⟩] [0, 0, 3, 7, 0, 0, 48, 112, 255, 511, 1023])
          .ret)
          .skip)))
      (.reg false [⟨(some 32), .mv (.t 7), none⟩, ⟨(some 33), .bin .sub (.t 32) (.c (.int .i64 1)), none⟩, ⟨(some 7), .mv (.t 33), none⟩] []))))))
  (.seq (.reg false [⟨(some 4), .mv (.c (.int .i64 0)), none⟩] [])
  .ret)))))
theorem ok31 : (Go.Proofs.Tryd.f31.body).bind (comp Go.Proofs.Tryd.prog) = some c31 := by kernel_rfl
/-- cubit/nat.Good -/
def c34 : IR :=
  (.seq (.reg false [⟨(some 1), .box 24 1 (.t 0), none⟩, ⟨(some 2), .mv (.c (.bool false)), none⟩] [])
  (.seq (.reg false [⟨(some 3), .faddr 0 (.t 1), none⟩, ⟨(some 4), .load false 1 (.t 3), none⟩, ⟨(some 5), .lenL (.t 4), none⟩, ⟨(some 6), .bin .eql (.t 5) (.c (.int .i64 0)), none⟩, ⟨(some 7), .mv (.t 6), none⟩, ⟨(some 8), .faddr 0 (.t 1), (some ((some 7), false))⟩, ⟨(some 9), .load false 1 (.t 8), (some ((some 7), false))⟩, ⟨(some 10), .faddr 0 (.t 1), (some ((some 7), false))⟩, ⟨(some 11), .load false 1 (.t 10), (some ((some 7), false))⟩, ⟨(some 12), .lenL (.t 11), (some ((some 7), false))⟩, ⟨(some 13), .bin .sub (.t 12) (.c (.int .i64 1)), (some ((some 7), false))⟩, ⟨(some 14), .iaddrS 1 (.t 9) (.t 13), (some ((some 7), false))⟩, ⟨(some 15), .load false 1 (.t 14), (some ((some 7), false))⟩, ⟨(some 16), .bin .neq (.t 15) (.c (.int .u32 0)), (some ((some 7), false))⟩, ⟨(some 17), .pick (.t 7) (.c (.bool true)) (.t 16), none⟩, ⟨(some 2), .mv (.t 17), none⟩] [])
  .ret))
theorem ok34 : (Go.Proofs.Tryd.f34.body).bind (comp Go.Proofs.Tryd.prog) = some c34 := by kernel_rfl
/-- cubit/nat.Gcd -/
def c36 : IR :=
  (.seq (.reg false [⟨(some 2), .box 24 1 (.t 0), none⟩, ⟨(some 3), .box 24 1 (.t 1), none⟩, ⟨(some 4), .new 24 1 [.nils], none⟩] [])
  (.seq (.reg true [⟨(some 8), .faddr 0 (.t 2), none⟩, ⟨(some 9), .load false 1 (.t 8), none⟩, ⟨(some 10), .call 49 [(.t 9)], none⟩, ⟨(some 11), .faddr 0 (.t 3), none⟩, ⟨(some 12), .load false 1 (.t 11), none⟩, ⟨(some 13), .call 49 [(.t 12)], none⟩, ⟨none, .store 1 (.t 2) (.t 10), none⟩, ⟨none, .store 1 (.t 3) (.t 13), none⟩] [0, 1, 3, 0, 8, 31, 63, 127])
  (.seq (.block 0 (.loop (.seq (.seq (.reg false [⟨(some 14), .faddr 0 (.t 3), none⟩, ⟨(some 15), .load false 1 (.t 14), none⟩, ⟨(some 16), .lenL (.t 15), none⟩, ⟨(some 17), .bin .gtr (.t 16) (.c (.int .i64 0)), none⟩] [])
      (.cond (.t 17)
        .skip
        (.exit 0)))
      (.block 1 (.seq (.reg false [⟨(some 19), .load true 1 (.t 2), none⟩, ⟨(some 20), .load true 1 (.t 3), none⟩, ⟨(some 21), .call 30 [(.t 19), (.t 20)], none⟩, ⟨(some 18), .mv (.t 21), none⟩, ⟨(some 22), .ext (.t 18) 0, none⟩, ⟨(some 23), .ext (.t 18) 1, none⟩, ⟨(some 24), .ext (.t 18) 2, none⟩, ⟨(some 5), .new 24 1 [.nils], none⟩, ⟨(some 6), .new 24 1 [.nils], none⟩, ⟨none, .store 1 (.t 5) (.t 22), none⟩, ⟨none, .store 1 (.t 6) (.t 23), none⟩, ⟨(some 7), .mv (.t 24), none⟩] [])
        (.reg true [⟨(some 25), .load true 1 (.t 3), none⟩, ⟨(some 26), .load true 1 (.t 6), none⟩, ⟨none, .store 1 (.t 2) (.t 25), none⟩, ⟨none, .store 1 (.t 3) (.t 26), none⟩] [0, 0, 1, 7]))))))
  (.seq (.reg false [⟨(some 27), .faddr 0 (.t 2), none⟩, ⟨(some 28), .load false 1 (.t 27), none⟩, ⟨(some 29), .call 67 [(.t 28)], none⟩, ⟨(some 30), .build [.nils] [(0, 1, (.t 29))], none⟩, ⟨none, .store 1 (.t 4) (.t 30), none⟩] [])
  .ret))))
theorem ok36 : (Go.Proofs.Tryd.f36.body).bind (comp Go.Proofs.Tryd.prog) = some c36 := by kernel_rfl
/-- cubit/nat.trim -/
def c49 : IR :=
  (.seq (.reg false [⟨(some 2), .new 24 1 [.nils], none⟩] [])
  (.seq (.block 0 (.loop (.seq (.seq (.reg false [⟨(some 3), .mv (.t 0), none⟩, ⟨(some 4), .lenL (.t 3), none⟩, ⟨(some 5), .bin .gtr (.t 4) (.c (.int .i64 0)), none⟩, ⟨(some 6), .mv (.t 5), none⟩, ⟨(some 7), .mv (.t 0), (some ((some 6), true))⟩, ⟨(some 8), .mv (.t 0), (some ((some 6), true))⟩, ⟨(some 9), .lenL (.t 8), (some ((some 6), true))⟩, ⟨(some 10), .bin .sub (.t 9) (.c (.int .i64 1)), (some ((some 6), true))⟩, ⟨(some 11), .iaddrS 1 (.t 7) (.t 10), (some ((some 6), true))⟩, ⟨(some 12), .load false 1 (.t 11), (some ((some 6), true))⟩, ⟨(some 13), .bin .eql (.t 12) (.c (.int .u32 0)), (some ((some 6), true))⟩, ⟨(some 14), .pick (.t 6) (.t 13) (.c (.bool false)), none⟩] [])
      (.cond (.t 14)
        .skip
        (.exit 0)))
      (.block 1 (.reg false [⟨(some 15), .mv (.t 0), none⟩, ⟨(some 16), .mv (.t 0), none⟩, ⟨(some 17), .lenL (.t 16), none⟩, ⟨(some 18), .bin .sub (.t 17) (.c (.int .i64 1)), none⟩, ⟨(some 19), .slcL 1 (.t 15) none (some (.t 18)), none⟩, ⟨(some 0), .mv (.t 19), none⟩] [])))))
  (.seq (.reg false [⟨(some 20), .mv (.t 0), none⟩, ⟨(some 21), .build [.nils] [(0, 1, (.t 20))], none⟩, ⟨none, .store 1 (.t 2) (.t 21), none⟩] [])
  .ret)))
theorem ok49 : (Go.Proofs.Tryd.f49.body).bind (comp Go.Proofs.Tryd.prog) = some c49 := by kernel_rfl
/-- cubit/nat.small -/
def c50 : IR :=
  (.seq (.reg false [⟨(some 4), .mv (.c .nils), none⟩, ⟨(some 5), .mv (.c (.int .u32 0)), none⟩] [])
  (.seq (.reg false [⟨(some 9), .mv (.t 0), none⟩, ⟨(some 10), .lenL (.t 9), none⟩, ⟨(some 11), .make 78 1 4 [(.int .u32 0)] (.t 10), none⟩, ⟨(some 6), .mv (.t 11), none⟩] [])
  (.seq (.reg false [⟨(some 7), .mv (.c (.int .u64 0)), none⟩] [])
  (.seq (.seq (.reg false [⟨(some 12), .mv (.t 0), none⟩, ⟨(some 13), .lenL (.t 12), none⟩, ⟨(some 14), .bin .sub (.t 13) (.c (.int .i64 1)), none⟩, ⟨(some 8), .mv (.t 14), none⟩] [])
  (.block 0 (.loop (.seq (.seq (.reg false [⟨(some 15), .mv (.t 8), none⟩, ⟨(some 16), .bin .geq (.t 15) (.c (.int .i64 0)), none⟩] [])
      (.cond (.t 16)
        .skip
        (.exit 0)))
      (.seq (.block 1 (.seq (.reg false [⟨(some 19), .mv (.t 7), none⟩, ⟨(some 20), .bin .shl (.t 19) (.c (.int .u64 32)), none⟩, ⟨(some 21), .mv (.t 0), none⟩, ⟨(some 22), .mv (.t 8), none⟩, ⟨(some 23), .iaddrS 1 (.t 21) (.t 22), none⟩, ⟨(some 24), .load false 1 (.t 23), none⟩, ⟨(some 25), .conv .u64 (.t 24), none⟩, ⟨(some 26), .bin .or (.t 20) (.t 25), none⟩, ⟨(some 7), .mv (.t 26), none⟩] [])
        (.seq (.reg false [⟨(some 27), .mv (.t 6), none⟩, ⟨(some 28), .mv (.t 8), none⟩, ⟨(some 29), .mv (.t 7), none⟩, ⟨(some 30), .mv (.t 1), none⟩, ⟨(some 31), .conv .u64 (.t 30), none⟩, ⟨(some 32), .bin .quo (.t 29) (.t 31), none⟩, ⟨(some 33), .conv .u32 (.t 32), none⟩, ⟨(some 34), .iaddrS 1 (.t 27) (.t 28), none⟩, ⟨none, .store 1 (.t 34) (.t 33), none⟩] [])
        (.reg false [⟨(some 35), .mv (.t 7), none⟩, ⟨(some 36), .mv (.t 1), none⟩, ⟨(some 37), .conv .u64 (.t 36), none⟩, ⟨(some 38), .bin .rem (.t 35) (.t 37), none⟩, ⟨(some 7), .mv (.t 38), none⟩] []))))
      (.reg false [⟨(some 17), .mv (.t 8), none⟩, ⟨(some 18), .bin .sub (.t 17) (.c (.int .i64 1)), none⟩, ⟨(some 8), .mv (.t 18), none⟩] []))))))
  (.seq (.reg false [⟨(some 39), .mv (.t 6), none⟩, ⟨(some 40), .mv (.t 7), none⟩, ⟨(some 41), .conv .u32 (.t 40), none⟩, ⟨(some 4), .mv (.t 39), none⟩, ⟨(some 5), .mv (.t 41), none⟩] [])
  .ret)))))
theorem ok50 : (Go.Proofs.Tryd.f50.body).bind (comp Go.Proofs.Tryd.prog) = some c50 := by kernel_rfl
/-- cubit/nat.Pow -/
def c59 : IR :=
  (.seq (.reg false [⟨(some 2), .box 24 1 (.t 0), none⟩, ⟨(some 4), .new 24 1 [.nils], none⟩] [])
  (.seq (.reg false [⟨(some 6), .call 17 [(.c (.int .u64 1))], none⟩, ⟨(some 5), .new 24 1 [.nils], none⟩, ⟨none, .store 1 (.t 5) (.t 6), none⟩] [])
  (.seq (.block 0 (.loop (.seq (.seq (.reg false [⟨(some 7), .mv (.t 1), none⟩, ⟨(some 8), .bin .gtr (.t 7) (.c (.int .i64 0)), none⟩] [])
      (.cond (.t 8)
        .skip
        (.exit 0)))
      (.seq (.block 1 (.seq (.seq (.reg false [⟨(some 11), .mv (.t 1), none⟩, ⟨(some 12), .bin .rem (.t 11) (.c (.int .i64 2)), none⟩, ⟨(some 13), .bin .eql (.t 12) (.c (.int .i64 1)), none⟩] [])
        (.cond (.t 13)
          (.reg false [⟨(some 14), .load true 1 (.t 5), none⟩, ⟨(some 15), .load true 1 (.t 2), none⟩, ⟨(some 16), .call 61 [(.t 14), (.t 15)], none⟩, ⟨none, .store 1 (.t 5) (.t 16), none⟩] [])
          .skip))
        (.seq (.reg false [⟨(some 17), .mv (.t 1), none⟩, ⟨(some 18), .bin .gtr (.t 17) (.c (.int .i64 1)), none⟩] [])
        (.cond (.t 18)
          (.reg false [⟨(some 19), .load true 1 (.t 2), none⟩, ⟨(some 20), .load true 1 (.t 2), none⟩, ⟨(some 21), .call 61 [(.t 19), (.t 20)], none⟩, ⟨none, .store 1 (.t 2) (.t 21), none⟩] [])
          .skip))))
      (.reg false [⟨(some 9), .mv (.t 1), none⟩, ⟨(some 10), .bin .quo (.t 9) (.c (.int .i64 2)), none⟩, ⟨(some 1), .mv (.t 10), none⟩] [])))))
  (.seq (.reg false [⟨(some 22), .load true 1 (.t 5), none⟩, ⟨none, .store 1 (.t 4) (.t 22), none⟩] [])
  .ret))))
theorem ok59 : (Go.Proofs.Tryd.f59.body).bind (comp Go.Proofs.Tryd.prog) = some c59 := by kernel_rfl
/-- cubit/nat.Mul -/
def c61 : IR :=
  (.seq (.reg false [⟨(some 2), .box 24 1 (.t 0), none⟩, ⟨(some 3), .box 24 1 (.t 1), none⟩, ⟨(some 4), .new 24 1 [.nils], none⟩] [])
  (.seq (.reg false [⟨(some 11), .faddr 0 (.t 2), none⟩, ⟨(some 12), .load false 1 (.t 11), none⟩, ⟨(some 13), .lenL (.t 12), none⟩, ⟨(some 14), .faddr 0 (.t 3), none⟩, ⟨(some 15), .load false 1 (.t 14), none⟩, ⟨(some 16), .lenL (.t 15), none⟩, ⟨(some 17), .bin .add (.t 13) (.t 16), none⟩, ⟨(some 18), .make 78 1 4 [(.int .u32 0)] (.t 17), none⟩, ⟨(some 5), .mv (.t 18), none⟩] [])
  (.seq (.seq (.reg false [⟨(some 19), .faddr 0 (.t 2), none⟩, ⟨(some 20), .load false 1 (.t 19), none⟩, ⟨(some 21), .lenL (.t 20), none⟩, ⟨(some 22), .mv (.c (.int .i64 0)), none⟩] [])
  (.block 0 (.loop (.seq (.reg false [⟨(some 23), .bin .lss (.t 22) (.t 21), none⟩] [])
      (.seq (.cond (.t 23)
        .skip
        (.exit 0))
      (.seq (.block 1 (.seq (.reg false [⟨(some 24), .mv (.t 22), none⟩, ⟨(some 25), .iaddrS 1 (.t 20) (.t 22), none⟩, ⟨(some 26), .load false 1 (.t 25), none⟩, ⟨(some 6), .mv (.t 24), none⟩, ⟨(some 7), .mv (.t 26), none⟩] [])
        (.seq (.reg false [⟨(some 8), .mv (.c (.int .u64 0)), none⟩] [])
        (.seq (.seq (.reg false [⟨(some 27), .faddr 0 (.t 3), none⟩, ⟨(some 28), .load false 1 (.t 27), none⟩, ⟨(some 29), .lenL (.t 28), none⟩, ⟨(some 30), .mv (.c (.int .i64 0)), none⟩] [])
        (.block 2 (.loop (.seq (.reg false [⟨(some 31), .bin .lss (.t 30) (.t 29), none⟩] [])
            (.seq (.cond (.t 31)
              .skip
              (.exit 2))
            (.seq (.block 3 (.seq (.reg false [⟨(some 32), .mv (.t 30), none⟩, ⟨(some 33), .iaddrS 1 (.t 28) (.t 30), none⟩, ⟨(some 34), .load false 1 (.t 33), none⟩, ⟨(some 9), .mv (.t 32), none⟩, ⟨(some 10), .mv (.t 34), none⟩] [])
              (.seq (.reg false [⟨(some 35), .mv (.t 8), none⟩, ⟨(some 36), .mv (.t 7), none⟩, ⟨(some 37), .conv .u64 (.t 36), none⟩, ⟨(some 38), .mv (.t 10), none⟩, ⟨(some 39), .conv .u64 (.t 38), none⟩, ⟨(some 40), .bin .mul (.t 37) (.t 39), none⟩, ⟨(some 41), .mv (.t 5), none⟩, ⟨(some 42), .mv (.t 6), none⟩, ⟨(some 43), .mv (.t 9), none⟩, ⟨(some 44), .bin .add (.t 42) (.t 43), none⟩, ⟨(some 45), .iaddrS 1 (.t 41) (.t 44), none⟩, ⟨(some 46), .load false 1 (.t 45), none⟩, ⟨(some 47), .conv .u64 (.t 46), none⟩, ⟨(some 48), .bin .add (.t 40) (.t 47), none⟩, ⟨(some 49), .bin .add (.t 35) (.t 48), none⟩, ⟨(some 8), .mv (.t 49), none⟩] [])
              (.seq (.reg false [⟨(some 50), .mv (.t 5), none⟩, ⟨(some 51), .mv (.t 6), none⟩, ⟨(some 52), .mv (.t 9), none⟩, ⟨(some 53), .bin .add (.t 51) (.t 52), none⟩, ⟨(some 54), .mv (.t 8), none⟩, ⟨(some 55), .conv .u32 (.t 54), none⟩, ⟨(some 56), .iaddrS 1 (.t 50) (.t 53), none⟩, ⟨none, .store 1 (.t 56) (.t 55), none⟩] [])
              (.reg false [⟨(some 57), .mv (.t 8), none⟩, ⟨(some 58), .bin .shr (.t 57) (.c (.int .u64 32)), none⟩, ⟨(some 8), .mv (.t 58), none⟩] [])))))
            (.reg false [⟨(some 59), .bin .add (.t 30) (.c (.int .i64 1)), none⟩, ⟨(some 30), .mv (.t 59), none⟩] [])))))))
        (.reg false [⟨(some 60), .mv (.t 5), none⟩, ⟨(some 61), .mv (.t 6), none⟩, ⟨(some 62), .faddr 0 (.t 3), none⟩, ⟨(some 63), .load false 1 (.t 62), none⟩, ⟨(some 64), .lenL (.t 63), none⟩, ⟨(some 65), .bin .add (.t 61) (.t 64), none⟩, ⟨(some 66), .mv (.t 8), none⟩, ⟨(some 67), .conv .u32 (.t 66), none⟩, ⟨(some 68), .iaddrS 1 (.t 60) (.t 65), none⟩, ⟨none, .store 1 (.t 68) (.t 67), none⟩] [])))))
      (.reg false [⟨(some 69), .bin .add (.t 22) (.c (.int .i64 1)), none⟩, ⟨(some 22), .mv (.t 69), none⟩] [])))))))
  (.seq (.reg false [⟨(some 70), .mv (.t 5), none⟩, ⟨(some 71), .call 49 [(.t 70)], none⟩, ⟨none, .store 1 (.t 4) (.t 71), none⟩] [])
  .ret))))
theorem ok61 : (Go.Proofs.Tryd.f61.body).bind (comp Go.Proofs.Tryd.prog) = some c61 := by kernel_rfl
/-- cubit/nat.shift -/
def c69 : IR :=
  (.seq (.reg false [⟨(some 4), .mv (.c .nils), none⟩] [])
  (.seq (.reg false [⟨(some 9), .mv (.t 0), none⟩, ⟨(some 10), .lenL (.t 9), none⟩, ⟨(some 11), .bin .add (.t 10) (.c (.int .i64 1)), none⟩, ⟨(some 12), .make 78 1 4 [(.int .u32 0)] (.t 11), none⟩, ⟨(some 5), .mv (.t 12), none⟩] [])
  (.seq (.reg false [⟨(some 6), .mv (.c (.int .u64 0)), none⟩] [])
  (.seq (.seq (.reg false [⟨(some 13), .mv (.t 0), none⟩, ⟨(some 14), .lenL (.t 13), none⟩, ⟨(some 15), .mv (.c (.int .i64 0)), none⟩] [])
  (.block 0 (.loop (.seq (.reg false [⟨(some 16), .bin .lss (.t 15) (.t 14), none⟩] [])
      (.seq (.cond (.t 16)
        .skip
        (.exit 0))
      (.seq (.block 1 (.seq (.reg false [⟨(some 17), .mv (.t 15), none⟩, ⟨(some 18), .iaddrS 1 (.t 13) (.t 15), none⟩, ⟨(some 19), .load false 1 (.t 18), none⟩, ⟨(some 7), .mv (.t 17), none⟩, ⟨(some 8), .mv (.t 19), none⟩] [])
        (.seq (.reg false [⟨(some 20), .mv (.t 6), none⟩, ⟨(some 21), .mv (.t 8), none⟩, ⟨(some 22), .conv .u64 (.t 21), none⟩, ⟨(some 23), .mv (.t 1), none⟩, ⟨(some 24), .bin .shl (.t 22) (.t 23), none⟩, ⟨(some 25), .bin .or (.t 20) (.t 24), none⟩, ⟨(some 6), .mv (.t 25), none⟩] [])
        (.seq (.reg false [⟨(some 26), .mv (.t 5), none⟩, ⟨(some 27), .mv (.t 7), none⟩, ⟨(some 28), .mv (.t 6), none⟩, ⟨(some 29), .conv .u32 (.t 28), none⟩, ⟨(some 30), .iaddrS 1 (.t 26) (.t 27), none⟩, ⟨none, .store 1 (.t 30) (.t 29), none⟩] [])
        (.reg false [⟨(some 31), .mv (.t 6), none⟩, ⟨(some 32), .bin .shr (.t 31) (.c (.int .u64 32)), none⟩, ⟨(some 6), .mv (.t 32), none⟩] [])))))
      (.reg false [⟨(some 33), .bin .add (.t 15) (.c (.int .i64 1)), none⟩, ⟨(some 15), .mv (.t 33), none⟩] [])))))))
  (.seq (.reg false [⟨(some 34), .mv (.t 5), none⟩, ⟨(some 35), .mv (.t 0), none⟩, ⟨(some 36), .lenL (.t 35), none⟩, ⟨(some 37), .mv (.t 6), none⟩, ⟨(some 38), .conv .u32 (.t 37), none⟩, ⟨(some 39), .iaddrS 1 (.t 34) (.t 36), none⟩, ⟨none, .store 1 (.t 39) (.t 38), none⟩] [])
  (.seq (.reg false [⟨(some 40), .mv (.t 5), none⟩, ⟨(some 4), .mv (.t 40), none⟩] [])
  .ret))))))
theorem ok69 : (Go.Proofs.Tryd.f69.body).bind (comp Go.Proofs.Tryd.prog) = some c69 := by kernel_rfl
/-- cubit/nat.step -/
def c70 : IR :=
  (.seq (.reg false [⟨(some 4), .mv (.c (.int .u32 0)), none⟩] [])
  (.seq (.reg false [⟨(some 13), .mv (.t 1), none⟩, ⟨(some 14), .lenL (.t 13), none⟩, ⟨(some 5), .mv (.t 14), none⟩] [])
  (.seq (.reg true [⟨(some 15), .mv (.t 0), none⟩, ⟨(some 16), .mv (.t 5), none⟩, ⟨(some 17), .iaddrS 1 (.t 15) (.t 16), none⟩, ⟨(some 18), .load false 1 (.t 17), none⟩, ⟨(some 19), .conv .u64 (.t 18), none⟩, ⟨(some 20), .bin .shl (.t 19) (.c (.int .u64 32)), none⟩, ⟨(some 21), .mv (.t 0), none⟩, ⟨(some 22), .mv (.t 5), none⟩, ⟨(some 23), .bin .sub (.t 22) (.c (.int .i64 1)), none⟩, ⟨(some 24), .iaddrS 1 (.t 21) (.t 23), none⟩, ⟨(some 25), .load false 1 (.t 24), none⟩, ⟨(some 26), .conv .u64 (.t 25), none⟩, ⟨(some 27), .bin .or (.t 20) (.t 26), none⟩, ⟨(some 6), .mv (.t 27), none⟩] [0, 0, 3, 7, 15, 31, 0, 0, 128, 448, 960, 1984, 4095, 8191])
  (.seq (.reg true [⟨(some 28), .mv (.t 1), none⟩, ⟨(some 29), .mv (.t 5), none⟩, ⟨(some 30), .bin .sub (.t 29) (.c (.int .i64 1)), none⟩, ⟨(some 31), .iaddrS 1 (.t 28) (.t 30), none⟩, ⟨(some 32), .load false 1 (.t 31), none⟩, ⟨(some 33), .conv .u64 (.t 32), none⟩, ⟨(some 34), .mv (.t 1), none⟩, ⟨(some 35), .mv (.t 5), none⟩, ⟨(some 36), .bin .sub (.t 35) (.c (.int .i64 2)), none⟩, ⟨(some 37), .iaddrS 1 (.t 34) (.t 36), none⟩, ⟨(some 38), .load false 1 (.t 37), none⟩, ⟨(some 39), .conv .u64 (.t 38), none⟩, ⟨(some 7), .mv (.t 33), none⟩, ⟨(some 8), .mv (.t 39), none⟩] [0, 0, 2, 7, 15, 31, 0, 0, 128, 448, 960, 1984, 63, 8191])
  (.seq (.reg false [⟨(some 40), .mv (.t 6), none⟩, ⟨(some 41), .mv (.t 7), none⟩, ⟨(some 42), .bin .quo (.t 40) (.t 41), none⟩, ⟨(some 9), .mv (.t 42), none⟩] [])
  (.seq (.reg false [⟨(some 43), .mv (.t 6), none⟩, ⟨(some 44), .mv (.t 7), none⟩, ⟨(some 45), .bin .rem (.t 43) (.t 44), none⟩, ⟨(some 10), .mv (.t 45), none⟩] [])
  (.seq (.block 0 (.loop (.seq (.seq (.reg false [⟨(some 46), .mv (.t 9), none⟩, ⟨(some 47), .bin .geq (.t 46) (.c (.int .u64 4294967296)), none⟩, ⟨(some 48), .mv (.t 47), none⟩, ⟨(some 49), .mv (.t 10), (some ((some 48), false))⟩, ⟨(some 50), .bin .lss (.t 49) (.c (.int .u64 4294967296)), (some ((some 48), false))⟩, ⟨(some 51), .mv (.t 50), (some ((some 48), false))⟩, ⟨(some 52), .mv (.t 9), (some ((some 51), true))⟩, ⟨(some 53), .mv (.t 8), (some ((some 51), true))⟩, ⟨(some 54), .bin .mul (.t 52) (.t 53), (some ((some 51), true))⟩, ⟨(some 55), .mv (.t 10), (some ((some 51), true))⟩, ⟨(some 56), .bin .shl (.t 55) (.c (.int .u64 32)), (some ((some 51), true))⟩, ⟨(some 57), .mv (.t 0), (some ((some 51), true))⟩, ⟨(some 58), .mv (.t 5), (some ((some 51), true))⟩, ⟨(some 59), .bin .sub (.t 58) (.c (.int .i64 2)), (some ((some 51), true))⟩, ⟨(some 60), .iaddrS 1 (.t 57) (.t 59), (some ((some 51), true))⟩, ⟨(some 61), .load false 1 (.t 60), (some ((some 51), true))⟩, ⟨(some 62), .conv .u64 (.t 61), (some ((some 51), true))⟩, ⟨(some 63), .bin .or (.t 56) (.t 62), (some ((some 51), true))⟩, ⟨(some 64), .bin .gtr (.t 54) (.t 63), (some ((some 51), true))⟩, ⟨(some 65), .pick (.t 51) (.t 64) (.c (.bool false)), (some ((some 48), false))⟩, ⟨(some 66), .pick (.t 48) (.c (.bool true)) (.t 65), none⟩] [])
      (.cond (.t 66)
        .skip
        (.exit 0)))
      (.block 1 (.seq (.reg false [⟨(some 67), .mv (.t 9), none⟩, ⟨(some 68), .bin .sub (.t 67) (.c (.int .u64 1)), none⟩, ⟨(some 9), .mv (.t 68), none⟩] [])
        (.seq (.reg false [⟨(some 69), .mv (.t 10), none⟩, ⟨(some 70), .mv (.t 7), none⟩, ⟨(some 71), .bin .add (.t 69) (.t 70), none⟩, ⟨(some 10), .mv (.t 71), none⟩] [])
        (.seq (.reg false [⟨(some 72), .mv (.t 10), none⟩, ⟨(some 73), .bin .geq (.t 72) (.c (.int .u64 4294967296)), none⟩] [])
        (.cond (.t 73)
          (.exit 0)
          .skip))))))))
  (.seq (.seq (.reg false [⟨(some 74), .mv (.t 0), none⟩, ⟨(some 75), .mv (.t 1), none⟩, ⟨(some 76), .mv (.t 9), none⟩, ⟨(some 77), .call 86 [(.t 74), (.t 75), (.t 76)], none⟩, ⟨(some 78), .not (.t 77), none⟩] [])
  (.cond (.t 78)
    (.seq (.reg false [⟨(some 79), .mv (.t 9), none⟩, ⟨(some 80), .conv .u32 (.t 79), none⟩, ⟨(some 4), .mv (.t 80), none⟩] [])
    .ret)
    .skip))
  (.seq (.reg false [⟨(some 11), .mv (.c (.int .u64 0)), none⟩] [])
  (.seq (.seq (.reg false [⟨(some 81), .mv (.t 5), none⟩, ⟨(some 82), .mv (.c (.int .i64 0)), none⟩] [])
  (.block 2 (.loop (.seq (.reg false [⟨(some 83), .bin .lss (.t 82) (.t 81), none⟩] [])
      (.seq (.cond (.t 83)
        .skip
        (.exit 2))
      (.seq (.block 3 (.seq (.reg false [⟨(some 84), .mv (.t 82), none⟩, ⟨(some 12), .mv (.t 84), none⟩] [])
        (.seq (.reg true [⟨(some 85), .mv (.t 11), none⟩, ⟨(some 86), .mv (.t 0), none⟩, ⟨(some 87), .mv (.t 12), none⟩, ⟨(some 88), .iaddrS 1 (.t 86) (.t 87), none⟩, ⟨(some 89), .load false 1 (.t 88), none⟩, ⟨(some 90), .conv .u64 (.t 89), none⟩, ⟨(some 91), .mv (.t 1), none⟩, ⟨(some 92), .mv (.t 12), none⟩, ⟨(some 93), .iaddrS 1 (.t 91) (.t 92), none⟩, ⟨(some 94), .load false 1 (.t 93), none⟩, ⟨(some 95), .conv .u64 (.t 94), none⟩, ⟨(some 96), .bin .add (.t 90) (.t 95), none⟩, ⟨(some 97), .bin .add (.t 85) (.t 96), none⟩, ⟨(some 11), .mv (.t 97), none⟩] [0, 0, 0, 6, 14, 30, 0, 0, 192, 448, 960, 2046, 4095, 8191])
        (.seq (.reg false [⟨(some 98), .mv (.t 0), none⟩, ⟨(some 99), .mv (.t 12), none⟩, ⟨(some 100), .mv (.t 11), none⟩, ⟨(some 101), .conv .u32 (.t 100), none⟩, ⟨(some 102), .iaddrS 1 (.t 98) (.t 99), none⟩, ⟨none, .store 1 (.t 102) (.t 101), none⟩] [])
        (.reg false [⟨(some 103), .mv (.t 11), none⟩, ⟨(some 104), .bin .shr (.t 103) (.c (.int .u64 32)), none⟩, ⟨(some 11), .mv (.t 104), none⟩] [])))))
      (.reg false [⟨(some 105), .bin .add (.t 82) (.c (.int .i64 1)), none⟩, ⟨(some 82), .mv (.t 105), none⟩] [])))))))
  (.seq (.reg false [⟨(some 106), .mv (.t 0), none⟩, ⟨(some 107), .mv (.t 5), none⟩, ⟨(some 108), .iaddrS 1 (.t 106) (.t 107), none⟩, ⟨(some 109), .load false 1 (.t 108), none⟩, ⟨(some 110), .mv (.t 11), none⟩, ⟨(some 111), .conv .u32 (.t 110), none⟩, ⟨(some 112), .bin .add (.t 109) (.t 111), none⟩, ⟨(some 113), .iaddrS 1 (.t 106) (.t 107), none⟩, ⟨none, .store 1 (.t 113) (.t 112), none⟩] [])
  (.seq (.reg false [⟨(some 114), .mv (.t 9), none⟩, ⟨(some 115), .bin .sub (.t 114) (.c (.int .u64 1)), none⟩, ⟨(some 116), .conv .u32 (.t 115), none⟩, ⟨(some 4), .mv (.t 116), none⟩] [])
  .ret))))))))))))
theorem ok70 : (Go.Proofs.Tryd.f70.body).bind (comp Go.Proofs.Tryd.prog) = some c70 := by kernel_rfl
/-- cubit/nat.back -/
def c71 : IR :=
  (.seq (.reg false [⟨(some 4), .mv (.c .nils), none⟩] [])
  (.seq (.reg false [⟨(some 7), .mv (.t 0), none⟩, ⟨(some 8), .lenL (.t 7), none⟩, ⟨(some 9), .make 78 1 4 [(.int .u32 0)] (.t 8), none⟩, ⟨(some 5), .mv (.t 9), none⟩] [])
  (.seq (.seq (.reg false [⟨(some 10), .mv (.t 0), none⟩, ⟨(some 11), .lenL (.t 10), none⟩, ⟨(some 12), .mv (.c (.int .i64 0)), none⟩] [])
  (.block 0 (.loop (.seq (.reg false [⟨(some 13), .bin .lss (.t 12) (.t 11), none⟩] [])
      (.seq (.cond (.t 13)
        .skip
        (.exit 0))
      (.seq (.block 1 (.seq (.reg false [⟨(some 14), .mv (.t 12), none⟩, ⟨(some 6), .mv (.t 14), none⟩] [])
        (.reg false [⟨(some 15), .mv (.t 5), none⟩, ⟨(some 16), .mv (.t 6), none⟩, ⟨(some 17), .mv (.t 0), none⟩, ⟨(some 18), .mv (.t 6), none⟩, ⟨(some 19), .bin .add (.t 18) (.c (.int .i64 1)), none⟩, ⟨(some 20), .call 87 [(.t 17), (.t 19)], none⟩, ⟨(some 21), .bin .shl (.t 20) (.c (.int .u64 32)), none⟩, ⟨(some 22), .mv (.t 0), none⟩, ⟨(some 23), .mv (.t 6), none⟩, ⟨(some 24), .call 87 [(.t 22), (.t 23)], none⟩, ⟨(some 25), .bin .or (.t 21) (.t 24), none⟩, ⟨(some 26), .mv (.t 1), none⟩, ⟨(some 27), .bin .shr (.t 25) (.t 26), none⟩, ⟨(some 28), .conv .u32 (.t 27), none⟩, ⟨(some 29), .iaddrS 1 (.t 15) (.t 16), none⟩, ⟨none, .store 1 (.t 29) (.t 28), none⟩] [])))
      (.reg false [⟨(some 30), .bin .add (.t 12) (.c (.int .i64 1)), none⟩, ⟨(some 12), .mv (.t 30), none⟩] [])))))))
  (.seq (.reg false [⟨(some 31), .mv (.t 5), none⟩, ⟨(some 4), .mv (.t 31), none⟩] [])
  .ret))))
theorem ok71 : (Go.Proofs.Tryd.f71.body).bind (comp Go.Proofs.Tryd.prog) = some c71 := by kernel_rfl
/-- cubit/nat.order -/
def c72 : IR :=
  (.seq (.reg false [⟨(some 2), .mv (.c (.int .i64 0)), none⟩] [])
  (.seq (.seq (.reg false [⟨(some 3), .mv (.t 0), none⟩] [])
  (.cond (.t 3)
    (.seq (.reg false [⟨(some 2), .mv (.c (.int .i64 (-1))), none⟩] [])
    .ret)
    .skip))
  (.seq (.reg false [⟨(some 2), .mv (.c (.int .i64 1)), none⟩] [])
  .ret)))
theorem ok72 : (Go.Proofs.Tryd.f72.body).bind (comp Go.Proofs.Tryd.prog) = some c72 := by kernel_rfl
/-- cubit/nat.Add -/
def c75 : IR :=
  (.seq (.reg false [⟨(some 2), .box 24 1 (.t 0), none⟩, ⟨(some 3), .box 24 1 (.t 1), none⟩, ⟨(some 4), .new 24 1 [.nils], none⟩] [])
  (.seq (.reg false [⟨(some 8), .faddr 0 (.t 2), none⟩, ⟨(some 9), .load false 1 (.t 8), none⟩, ⟨(some 10), .lenL (.t 9), none⟩, ⟨(some 11), .faddr 0 (.t 3), none⟩, ⟨(some 12), .load false 1 (.t 11), none⟩, ⟨(some 13), .lenL (.t 12), none⟩, ⟨(some 14), .mx (.t 10) (.t 13), none⟩, ⟨(some 15), .bin .add (.t 14) (.c (.int .i64 1)), none⟩, ⟨(some 16), .make 78 1 4 [(.int .u32 0)] (.t 15), none⟩, ⟨(some 5), .mv (.t 16), none⟩] [])
  (.seq (.reg false [⟨(some 6), .mv (.c (.int .u64 0)), none⟩] [])
  (.seq (.seq (.reg false [⟨(some 17), .mv (.t 5), none⟩, ⟨(some 18), .lenL (.t 17), none⟩, ⟨(some 19), .mv (.c (.int .i64 0)), none⟩] [])
  (.block 0 (.loop (.seq (.reg false [⟨(some 20), .bin .lss (.t 19) (.t 18), none⟩] [])
      (.seq (.cond (.t 20)
        .skip
        (.exit 0))
      (.seq (.block 1 (.seq (.reg false [⟨(some 21), .mv (.t 19), none⟩, ⟨(some 7), .mv (.t 21), none⟩] [])
        (.seq (.reg true [⟨(some 22), .mv (.t 6), none⟩, ⟨(some 23), .faddr 0 (.t 2), none⟩, ⟨(some 24), .load false 1 (.t 23), none⟩, ⟨(some 25), .mv (.t 7), none⟩, ⟨(some 26), .call 87 [(.t 24), (.t 25)], none⟩, ⟨(some 27), .faddr 0 (.t 3), none⟩, ⟨(some 28), .load false 1 (.t 27), none⟩, ⟨(some 29), .mv (.t 7), none⟩, ⟨(some 30), .call 87 [(.t 28), (.t 29)], none⟩, ⟨(some 31), .bin .add (.t 26) (.t 30), none⟩, ⟨(some 32), .bin .add (.t 22) (.t 31), none⟩, ⟨(some 6), .mv (.t 32), none⟩] [0, 0, 2, 0, 14, 0, 32, 0, 254, 510, 1023, 2047])
        (.seq (.reg false [⟨(some 33), .mv (.t 5), none⟩, ⟨(some 34), .mv (.t 7), none⟩, ⟨(some 35), .mv (.t 6), none⟩, ⟨(some 36), .conv .u32 (.t 35), none⟩, ⟨(some 37), .iaddrS 1 (.t 33) (.t 34), none⟩, ⟨none, .store 1 (.t 37) (.t 36), none⟩] [])
        (.reg false [⟨(some 38), .mv (.t 6), none⟩, ⟨(some 39), .bin .shr (.t 38) (.c (.int .u64 32)), none⟩, ⟨(some 6), .mv (.t 39), none⟩] [])))))
      (.reg false [⟨(some 40), .bin .add (.t 19) (.c (.int .i64 1)), none⟩, ⟨(some 19), .mv (.t 40), none⟩] [])))))))
  (.seq (.reg false [⟨(some 41), .mv (.t 5), none⟩, ⟨(some 42), .call 49 [(.t 41)], none⟩, ⟨none, .store 1 (.t 4) (.t 42), none⟩] [])
  .ret)))))
theorem ok75 : (Go.Proofs.Tryd.f75.body).bind (comp Go.Proofs.Tryd.prog) = some c75 := by kernel_rfl
/-- cubit/nat.Sub -/
def c76 : IR :=
  (.seq (.reg false [⟨(some 2), .box 24 1 (.t 0), none⟩, ⟨(some 3), .box 24 1 (.t 1), none⟩, ⟨(some 4), .new 24 1 [.nils], none⟩, ⟨(some 5), .mv (.c (.bool false)), none⟩] [])
  (.seq (.seq (.reg false [⟨(some 10), .load true 1 (.t 2), none⟩, ⟨(some 11), .load true 1 (.t 3), none⟩, ⟨(some 12), .call 31 [(.t 10), (.t 11)], none⟩, ⟨(some 13), .bin .lss (.t 12) (.c (.int .i64 0)), none⟩] [])
  (.cond (.t 13)
    (.seq (.reg false [⟨(some 14), .build [.nils] [], none⟩, ⟨none, .store 1 (.t 4) (.t 14), none⟩, ⟨(some 5), .mv (.c (.bool false)), none⟩] [])
    .ret)
    .skip))
  (.seq (.reg false [⟨(some 15), .faddr 0 (.t 2), none⟩, ⟨(some 16), .load false 1 (.t 15), none⟩, ⟨(some 17), .lenL (.t 16), none⟩, ⟨(some 18), .make 78 1 4 [(.int .u32 0)] (.t 17), none⟩, ⟨(some 6), .mv (.t 18), none⟩] [])
  (.seq (.reg false [⟨(some 7), .mv (.c (.int .u64 0)), none⟩] [])
  (.seq (.seq (.reg false [⟨(some 19), .mv (.t 6), none⟩, ⟨(some 20), .lenL (.t 19), none⟩, ⟨(some 21), .mv (.c (.int .i64 0)), none⟩] [])
  (.block 0 (.loop (.seq (.reg false [⟨(some 22), .bin .lss (.t 21) (.t 20), none⟩] [])
      (.seq (.cond (.t 22)
        .skip
        (.exit 0))
      (.seq (.block 1 (.seq (.reg false [⟨(some 23), .mv (.t 21), none⟩, ⟨(some 8), .mv (.t 23), none⟩] [])
        (.seq (.reg true [⟨(some 24), .faddr 0 (.t 2), none⟩, ⟨(some 25), .load false 1 (.t 24), none⟩, ⟨(some 26), .mv (.t 8), none⟩, ⟨(some 27), .call 87 [(.t 25), (.t 26)], none⟩, ⟨(some 28), .faddr 0 (.t 3), none⟩, ⟨(some 29), .load false 1 (.t 28), none⟩, ⟨(some 30), .mv (.t 8), none⟩, ⟨(some 31), .call 87 [(.t 29), (.t 30)], none⟩, ⟨(some 32), .bin .sub (.t 27) (.t 31), none⟩, ⟨(some 33), .mv (.t 7), none⟩, ⟨(some 34), .bin .sub (.t 32) (.t 33), none⟩, ⟨(some 9), .mv (.t 34), none⟩] [0, 1, 0, 7, 0, 16, 0, 127, 255, 0, 1023, 2047])
        (.seq (.reg false [⟨(some 35), .mv (.t 6), none⟩, ⟨(some 36), .mv (.t 8), none⟩, ⟨(some 37), .mv (.t 9), none⟩, ⟨(some 38), .conv .u32 (.t 37), none⟩, ⟨(some 39), .iaddrS 1 (.t 35) (.t 36), none⟩, ⟨none, .store 1 (.t 39) (.t 38), none⟩] [])
        (.reg false [⟨(some 40), .mv (.t 9), none⟩, ⟨(some 41), .bin .shr (.t 40) (.c (.int .u64 32)), none⟩, ⟨(some 42), .bin .and (.t 41) (.c (.int .u64 1)), none⟩, ⟨(some 7), .mv (.t 42), none⟩] [])))))
      (.reg false [⟨(some 43), .bin .add (.t 21) (.c (.int .i64 1)), none⟩, ⟨(some 21), .mv (.t 43), none⟩] [])))))))
  (.seq (.reg false [⟨(some 44), .mv (.t 6), none⟩, ⟨(some 45), .call 49 [(.t 44)], none⟩, ⟨none, .store 1 (.t 4) (.t 45), none⟩, ⟨(some 5), .mv (.c (.bool true)), none⟩] [])
  .ret))))))
theorem ok76 : (Go.Proofs.Tryd.f76.body).bind (comp Go.Proofs.Tryd.prog) = some c76 := by kernel_rfl
/-- cubit/nat.less -/
def c86 : IR :=
  (.seq (.reg false [⟨(some 6), .mv (.c (.bool false)), none⟩] [])
  (.seq (.reg false [⟨(some 7), .mv (.c (.int .u64 0)), none⟩, ⟨(some 8), .mv (.c (.int .u64 0)), none⟩] [])
  (.seq (.seq (.reg false [⟨(some 13), .mv (.t 1), none⟩, ⟨(some 14), .lenL (.t 13), none⟩, ⟨(some 15), .mv (.c (.int .i64 0)), none⟩] [])
  (.block 0 (.loop (.seq (.reg false [⟨(some 16), .bin .lss (.t 15) (.t 14), none⟩] [])
      (.seq (.cond (.t 16)
        .skip
        (.exit 0))
      (.seq (.block 1 (.seq (.reg false [⟨(some 17), .mv (.t 15), none⟩, ⟨(some 9), .mv (.t 17), none⟩] [])
        (.seq (.reg false [⟨(some 18), .mv (.t 7), none⟩, ⟨(some 19), .mv (.t 2), none⟩, ⟨(some 20), .mv (.t 1), none⟩, ⟨(some 21), .mv (.t 9), none⟩, ⟨(some 22), .iaddrS 1 (.t 20) (.t 21), none⟩, ⟨(some 23), .load false 1 (.t 22), none⟩, ⟨(some 24), .conv .u64 (.t 23), none⟩, ⟨(some 25), .bin .mul (.t 19) (.t 24), none⟩, ⟨(some 26), .bin .add (.t 18) (.t 25), none⟩, ⟨(some 7), .mv (.t 26), none⟩] [])
        (.seq (.reg false [⟨(some 27), .mv (.t 0), none⟩, ⟨(some 28), .mv (.t 9), none⟩, ⟨(some 29), .iaddrS 1 (.t 27) (.t 28), none⟩, ⟨(some 30), .load false 1 (.t 29), none⟩, ⟨(some 31), .conv .u64 (.t 30), none⟩, ⟨(some 32), .mv (.t 7), none⟩, ⟨(some 33), .conv .u32 (.t 32), none⟩, ⟨(some 34), .conv .u64 (.t 33), none⟩, ⟨(some 35), .bin .sub (.t 31) (.t 34), none⟩, ⟨(some 36), .mv (.t 8), none⟩, ⟨(some 37), .bin .sub (.t 35) (.t 36), none⟩, ⟨(some 10), .mv (.t 37), none⟩] [])
        (.seq (.reg false [⟨(some 38), .mv (.t 0), none⟩, ⟨(some 39), .mv (.t 9), none⟩, ⟨(some 40), .mv (.t 10), none⟩, ⟨(some 41), .conv .u32 (.t 40), none⟩, ⟨(some 42), .iaddrS 1 (.t 38) (.t 39), none⟩, ⟨none, .store 1 (.t 42) (.t 41), none⟩] [])
        (.seq (.reg false [⟨(some 43), .mv (.t 10), none⟩, ⟨(some 44), .bin .shr (.t 43) (.c (.int .u64 32)), none⟩, ⟨(some 45), .bin .and (.t 44) (.c (.int .u64 1)), none⟩, ⟨(some 8), .mv (.t 45), none⟩] [])
        (.reg false [⟨(some 46), .mv (.t 7), none⟩, ⟨(some 47), .bin .shr (.t 46) (.c (.int .u64 32)), none⟩, ⟨(some 7), .mv (.t 47), none⟩] [])))))))
      (.reg false [⟨(some 48), .bin .add (.t 15) (.c (.int .i64 1)), none⟩, ⟨(some 15), .mv (.t 48), none⟩] [])))))))
  (.seq (.reg false [⟨(some 49), .mv (.t 1), none⟩, ⟨(some 50), .lenL (.t 49), none⟩, ⟨(some 11), .mv (.t 50), none⟩] [])
  (.seq (.reg false [⟨(some 51), .mv (.t 0), none⟩, ⟨(some 52), .mv (.t 11), none⟩, ⟨(some 53), .iaddrS 1 (.t 51) (.t 52), none⟩, ⟨(some 54), .load false 1 (.t 53), none⟩, ⟨(some 55), .conv .u64 (.t 54), none⟩, ⟨(some 56), .mv (.t 7), none⟩, ⟨(some 57), .bin .sub (.t 55) (.t 56), none⟩, ⟨(some 58), .mv (.t 8), none⟩, ⟨(some 59), .bin .sub (.t 57) (.t 58), none⟩, ⟨(some 12), .mv (.t 59), none⟩] [])
  (.seq (.reg false [⟨(some 60), .mv (.t 0), none⟩, ⟨(some 61), .mv (.t 11), none⟩, ⟨(some 62), .mv (.t 12), none⟩, ⟨(some 63), .conv .u32 (.t 62), none⟩, ⟨(some 64), .iaddrS 1 (.t 60) (.t 61), none⟩, ⟨none, .store 1 (.t 64) (.t 63), none⟩] [])
  (.seq (.reg false [⟨(some 65), .mv (.t 12), none⟩, ⟨(some 66), .bin .shr (.t 65) (.c (.int .u64 32)), none⟩, ⟨(some 67), .bin .neq (.t 66) (.c (.int .u64 0)), none⟩, ⟨(some 6), .mv (.t 67), none⟩] [])
  .ret)))))))
theorem ok86 : (Go.Proofs.Tryd.f86.body).bind (comp Go.Proofs.Tryd.prog) = some c86 := by kernel_rfl
/-- cubit/nat.at -/
def c87 : IR :=
  (.seq (.reg false [⟨(some 4), .mv (.c (.int .u64 0)), none⟩] [])
  (.seq (.seq (.reg false [⟨(some 5), .mv (.t 1), none⟩, ⟨(some 6), .mv (.t 0), none⟩, ⟨(some 7), .lenL (.t 6), none⟩, ⟨(some 8), .bin .lss (.t 5) (.t 7), none⟩] [])
  (.cond (.t 8)
    (.seq (.reg false [⟨(some 9), .mv (.t 0), none⟩, ⟨(some 10), .mv (.t 1), none⟩, ⟨(some 11), .iaddrS 1 (.t 9) (.t 10), none⟩, ⟨(some 12), .load false 1 (.t 11), none⟩, ⟨(some 13), .conv .u64 (.t 12), none⟩, ⟨(some 4), .mv (.t 13), none⟩] [])
    .ret)
    .skip))
  (.seq (.reg false [⟨(some 4), .mv (.c (.int .u64 0)), none⟩] [])
  .ret)))
theorem ok87 : (Go.Proofs.Tryd.f87.body).bind (comp Go.Proofs.Tryd.prog) = some c87 := by kernel_rfl
end Go.Proofs.YtapikjmijmebpaaDoorK.NatIr
