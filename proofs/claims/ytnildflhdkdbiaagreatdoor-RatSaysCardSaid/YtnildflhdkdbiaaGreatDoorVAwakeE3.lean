/-
  The law's helper awake: it answers true: run.
-/
import Derived.Test.YtnildflhdkdbiaaGreatDoorVIrLaw3
import Derived.Test.YtnildflhdkdbiaaGreatDoorVIrNat
import Derived.Test.YtnildflhdkdbiaaGreatDoorVIrNum
import Derived.Test.YtnildflhdkdbiaaGreatDoorVIrRat
import Derived.Test.YtnildflhdkdbiaaGreatDoorVIrRef
import Derived.Test.YtnildflhdkdbiaaGreatDoorVIrRefQ
import Derived.Test.YtnildflhdkdbiaaGreatDoorVIrRefZ
import Derived.Test.YtnildflhdkdbiaaGreatDoorVEvL
set_option linter.all false
set_option linter.unusedVariables false
set_option linter.unusedSimpArgs false
set_option maxHeartbeats 4000000
namespace Go.Proofs.YtnildflhdkdbiaaGreatDoorV.LawT3
open Go.Proofs.YtnildflhdkdbiaaGreatDoorV.AI Go.Proofs.YtnildflhdkdbiaaGreatDoorV.NatIr Go.Proofs.YtnildflhdkdbiaaGreatDoorV.EvT
variable {G : World → Prop}
def tbl : FuncId → FnE := fun | 14 => .lib eWords | 15 => .lib eSub | 16 => .lib eRCmp | 18 => .ir c18 34 [.tmp 4] | 19 => .lib eDiv | 20 => .ir c20 85 [.tmp 4, .tmp 5] | 21 => .lib eCmp | 22 => .lib eAdd | 23 => .lib eRAdd | 25 => .lib eRMul | 26 => .lib eText | 28 => .lib eGcd | 29 => .ir c29 19 [.tmp 4] | 31 => .ir c31 24 [.cell 2 true 2, .tmp 3] | 32 => .ir c32 48 [.cell 4 true 2, .cell 5 true 2, .tmp 6] | 34 => .ir c34 16 [.tmp 2] | 35 => .ir c35 10 [.tmp 2] | 37 => .ir c37 13 [.tmp 2] | 39 => .ir c39 17 [.cell 2 true 2] | 40 => .ir c40 9 [.cell 2 true 2] | 53 => .ir c53 18 [.tmp 2] | 54 => .ir c54 27 [.tmp 0] | 55 => .ir c55 46 [.cell 4 true 3, .tmp 5] | 56 => .lib eOf | 58 => .ir c58 21 [.tmp 2] | 60 => .ir c60 19 [.cell 2 true 2] | 64 => .ir c64 11 [.cell 2 true 3] | 68 => .ir c68 39 [.cell 2 true 3, .tmp 3] | 74 => .ir c74 17 [.tmp 4] | 80 => .ir c80 21 [.tmp 4] | 84 => .lib eParse | 85 => .lib eSmall | 88 => .ir c88 13 [.tmp 4] | 89 => .ir c89 21 [.tmp 2] | 102 => .lib eCutP | 103 => .ir c103 16 [.cell 4 true 2] | 104 => .ir c104 7 [.tmp 2] | 106 => .ir c106 13 [.cell 4 true 2] | 108 => .ir c108 33 [.cell 4 true 3] | 109 => .ir c109 7 [.tmp 2] | 110 => .ir c110 3 [.cell 0 true 3] | 111 => .ir c111 2 [.cell 0 true 1] | 112 => .ir c112 14 [.cell 2 true 3] | 114 => .lib eCut | 116 => .ir c116 21 [.tmp 4] | _ => .no
theorem tbl_ok (hG : Stable G) (hT : ∀ w, G w → Lib.TabIs Tryz.prog w "internal/strconv.uint64pow10" .u64 Lib.pow10Tab) (hM : ∀ w, G w → LibT.gMax w) (f : FuncId) : (tbl f).ok Tryz.prog G f := by
  unfold tbl
  split
  · exact eWords_ok hG
  · exact eSub_ok hG
  · exact eRCmp_ok hG
  · exact ⟨Tryz.f18, by kernel_rfl, ok18, by kernel_rfl, by decide, by kernel_rfl, by kernel_rfl⟩
  · exact eDiv_ok hG
  · exact ⟨Tryz.f20, by kernel_rfl, ok20, by kernel_rfl, by decide, by kernel_rfl, by kernel_rfl⟩
  · exact eCmp_ok hG
  · exact eAdd_ok hG
  · exact eRAdd_ok hG
  · exact eRMul_ok hG
  · exact eText_ok hG hT
  · exact eGcd_ok hG
  · exact ⟨Tryz.f29, by kernel_rfl, ok29, by kernel_rfl, by decide, by kernel_rfl, by kernel_rfl⟩
  · exact ⟨Tryz.f31, by kernel_rfl, ok31, by kernel_rfl, by decide, by kernel_rfl, by kernel_rfl⟩
  · exact ⟨Tryz.f32, by kernel_rfl, ok32, by kernel_rfl, by decide, by kernel_rfl, by kernel_rfl⟩
  · exact ⟨Tryz.f34, by kernel_rfl, ok34, by kernel_rfl, by decide, by kernel_rfl, by kernel_rfl⟩
  · exact ⟨Tryz.f35, by kernel_rfl, ok35, by kernel_rfl, by decide, by kernel_rfl, by kernel_rfl⟩
  · exact ⟨Tryz.f37, by kernel_rfl, ok37, by kernel_rfl, by decide, by kernel_rfl, by kernel_rfl⟩
  · exact ⟨Tryz.f39, by kernel_rfl, ok39, by kernel_rfl, by decide, by kernel_rfl, by kernel_rfl⟩
  · exact ⟨Tryz.f40, by kernel_rfl, ok40, by kernel_rfl, by decide, by kernel_rfl, by kernel_rfl⟩
  · exact ⟨Tryz.f53, by kernel_rfl, ok53, by kernel_rfl, by decide, by kernel_rfl, by kernel_rfl⟩
  · exact ⟨Tryz.f54, by kernel_rfl, ok54, by kernel_rfl, by decide, by kernel_rfl, by kernel_rfl⟩
  · exact ⟨Tryz.f55, by kernel_rfl, ok55, by kernel_rfl, by decide, by kernel_rfl, by kernel_rfl⟩
  · exact eOf_ok hG
  · exact ⟨Tryz.f58, by kernel_rfl, ok58, by kernel_rfl, by decide, by kernel_rfl, by kernel_rfl⟩
  · exact ⟨Tryz.f60, by kernel_rfl, ok60, by kernel_rfl, by decide, by kernel_rfl, by kernel_rfl⟩
  · exact ⟨Tryz.f64, by kernel_rfl, ok64, by kernel_rfl, by decide, by kernel_rfl, by kernel_rfl⟩
  · exact ⟨Tryz.f68, by kernel_rfl, ok68, by kernel_rfl, by decide, by kernel_rfl, by kernel_rfl⟩
  · exact ⟨Tryz.f74, by kernel_rfl, ok74, by kernel_rfl, by decide, by kernel_rfl, by kernel_rfl⟩
  · exact ⟨Tryz.f80, by kernel_rfl, ok80, by kernel_rfl, by decide, by kernel_rfl, by kernel_rfl⟩
  · exact eParse_ok hG
  · exact eSmall_ok hG
  · exact ⟨Tryz.f88, by kernel_rfl, ok88, by kernel_rfl, by decide, by kernel_rfl, by kernel_rfl⟩
  · exact ⟨Tryz.f89, by kernel_rfl, ok89, by kernel_rfl, by decide, by kernel_rfl, by kernel_rfl⟩
  · exact eCutP_ok
  · exact ⟨Tryz.f103, by kernel_rfl, ok103, by kernel_rfl, by decide, by kernel_rfl, by kernel_rfl⟩
  · exact ⟨Tryz.f104, by kernel_rfl, ok104, by kernel_rfl, by decide, by kernel_rfl, by kernel_rfl⟩
  · exact ⟨Tryz.f106, by kernel_rfl, ok106, by kernel_rfl, by decide, by kernel_rfl, by kernel_rfl⟩
  · exact ⟨Tryz.f108, by kernel_rfl, ok108, by kernel_rfl, by decide, by kernel_rfl, by kernel_rfl⟩
  · exact ⟨Tryz.f109, by kernel_rfl, ok109, by kernel_rfl, by decide, by kernel_rfl, by kernel_rfl⟩
  · exact ⟨Tryz.f110, by kernel_rfl, ok110, by kernel_rfl, by decide, by kernel_rfl, by kernel_rfl⟩
  · exact ⟨Tryz.f111, by kernel_rfl, ok111, by kernel_rfl, by decide, by kernel_rfl, by kernel_rfl⟩
  · exact ⟨Tryz.f112, by kernel_rfl, ok112, by kernel_rfl, by decide, by kernel_rfl, by kernel_rfl⟩
  · exact eCut_ok hM
  · exact ⟨Tryz.f116, by kernel_rfl, ok116, by kernel_rfl, by decide, by kernel_rfl, by kernel_rfl⟩
  · exact trivial
theorem pcr_awake (hG : Stable G) (hT : ∀ w, G w → Lib.TabIs Tryz.prog w "internal/strconv.uint64pow10" .u64 Lib.pow10Tab) (hM : ∀ w, G w → LibT.gMax w) : PCr Tryz.prog G 54 [] (.bool true) :=
  evF_ok (N := 1000) hG (tbl_ok hG hT hM) 30 _ _ _ (by kernel_rfl)
end Go.Proofs.YtnildflhdkdbiaaGreatDoorV.LawT3
