/-
 Package table: Entry, Sum, Prefix: what they compute.
-/
import Derived.Test.YtgdbkigaaooifaaGreatDoorKIrTable
import Derived.Test.YtgdbkigaaooifaaGreatDoorKTabD
set_option linter.all false
set_option maxHeartbeats 4000000
namespace Go.Proofs.YtgdbkigaaooifaaGreatDoorK.TabT
open AI NatIr Dig NatT NumT RatT DimsT ConvT
attribute [local irreducible] awp awpOps
attribute [local go_sem] nl ZD
attribute [local go_sem] QD
attribute [local go_sem] not_true_eq_false not_false_eq_true eq_self decide_true D.key
variable {G : World → Prop}
def entZ : D := .agg [.str ⟨#[]⟩, .str ⟨#[]⟩, .int .i64 0, .bool false, .sl 0 [], .sl 0 [], .bool false, .sl 0 [], .sl 0 [], .bool false]
theorem pcr_tentry (hG : Stable G) (t : Tab) (s : ByteArray) : PCr Tryz.prog G 26 [t.D, .str s] (match getS s t.E with | some e => .tup [entD s e, .bool true] | none => .tup [entZ, .bool false]) := by
 have h1 := look_kvS s (t.E.map fun p => (p.1, entD p.1 p.2))
 rw [getS_map] at h1
 unfold Tab.D
 generalize kvS (t.E.map fun p => (p.1, entD p.1 p.2)) = kvs at *
 cases hg : getS s t.E with
 | none =>
  rw [hg, Option.map_none] at h1
  unfold entZ
  refine pcr_byq ok26 hG (n := 19) (rv := [.cell 4 true 10, .tmp 5]) fun r hr => ?_; unfold c26 st0
  (have we1 := h1; exact xwalkd1)
 | some e =>
  rw [hg, Option.map_some] at h1
  unfold entD at h1 ⊢
  refine pcr_byq ok26 hG (n := 19) (rv := [.cell 4 true 10, .tmp 5]) fun r hr => ?_; unfold c26 st0
  (have we1 := h1; exact xwalkd1)
def sumZ : D := .agg [.int .i64 0, .int .i64 0, .int .i64 0, .int .i64 0, .int .i64 0, .int .i64 0, .int .i64 0, .int .i64 0]
def ratZ : D := .agg [.bool false, .sl 0 [], .sl 0 []]
theorem pcr_tsum (hG : Stable G) (t : Tab) (ht : t.ok) (s : ByteArray) : PCr Tryz.prog G 27 [t.D, .str s] (match getS s t.E with | some e => .tup [.agg (I e.v), QD e.full, .bool true] | none => .tup [sumZ, ratZ, .bool false]) := by
 have h1 := look_kvS s (t.E.map fun p => (p.1, sumE p.2))
 rw [getS_map (fun _ e => sumE e)] at h1
 unfold Tab.D
 generalize kvS (t.E.map fun p => (p.1, sumE p.2)) = kvs at *
 cases hg : getS s t.E with
 | none =>
  rw [hg, Option.map_none] at h1
  unfold sumZ ratZ
  refine pcr_byq ok27 hG (n := 23) (rv := [.cell 4 true 8, .cell 5 true 3, .tmp 6]) fun r hr => ?_; unfold c27 st0
  (have we1 := h1; exact xwalkd1)
 | some e =>
  rw [hg, Option.map_some] at h1
  have h8 := (ht.ent _ (getS_mem hg)).v8
  unfold sumE at h1
  dsimp only at h8 ⊢
  generalize e.v = v at *
  obtain ⟨a0, a1, a2, a3, a4, a5, a6, a7, rfl⟩ := eight h8
  simp only [I, List.map_cons, List.map_nil, List.cons_append, List.nil_append] at *
  refine pcr_byq ok27 hG (n := 23) (rv := [.cell 4 true 8, .cell 5 true 3, .tmp 6]) fun r hr => ?_; unfold c27 st0
  (have we1 := h1; exact xwalkd1)
theorem pcr_tprefix (hG : Stable G) (t : Tab) (s : ByteArray) : PCr Tryz.prog G 11 [t.D, .str s] (match getS s t.P with | some q => .tup [QD q, .bool true] | none => .tup [QD 0, .bool false]) := by
 have h0 := RatT.pcr_int (G := G) hG 0 (by omega) (by omega)
 rw [show ((0 : Int) : Rat) = 0 from rfl] at h0
 have h1 := look_kvS s (t.P.map fun p => (p.1, QD p.2))
 rw [getS_map (fun _ q => QD q)] at h1
 unfold Tab.D
 generalize kvS (t.P.map fun p => (p.1, QD p.2)) = kvs at *
 cases hg : getS s t.P with
 | none =>
  rw [hg, Option.map_none] at h1
  refine pcr_byq ok11 hG (n := 21) (rv := [.cell 4 true 3, .tmp 5]) fun r hr => ?_; unfold c11 st0
  (have we1 := h1; exact xwalkd1)
 | some q =>
  rw [hg, Option.map_some] at h1
  refine pcr_byq ok11 hG (n := 21) (rv := [.cell 4 true 3, .tmp 5]) fun r hr => ?_; unfold c11 st0
  (have we1 := h1; exact xwalkd1)
end Go.Proofs.YtgdbkigaaooifaaGreatDoorK.TabT
