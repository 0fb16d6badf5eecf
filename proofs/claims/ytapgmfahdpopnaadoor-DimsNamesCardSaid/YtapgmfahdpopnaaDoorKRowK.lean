/-
  From a contract to a row: arguments opened, the call's post shut.
-/
import Derived.Test.YtapgmfahdpopnaaDoorKAb
import Derived.Test.YtapgmfahdpopnaaDoorKP
import Derived.Test.YtapgmfahdpopnaaDoorCards
import Derived.Test.YtapgmfahdpopnaaDoorTie
import Derived.WalkKit
import Derived.WalkSmall
import Derived.ProofKit
import Derived.OpenShut
import Derived.Deep.DeepHandedRow
import Derived.Lib.LaidTab
import Derived.Lib.ItoaNum
import Derived.Stop.LaidErr
import Derived.LaidMore
import Derived.Lay
import Derived.Carry
set_option linter.all false
set_option linter.unusedVariables false
set_option linter.unusedSimpArgs false
set_option maxHeartbeats 4000000
namespace Go.Proofs.YtapgmfahdpopnaaDoorK.RowT
open Go.ChangeShapes Go.WideShapes Go.ChangeAt Go.RowKit Go.Proofs.YtapgmfahdpopnaaDoorK.AI
variable {H : Type} {enc : TypeId × Value → H} {P : Program} {W W' : World}
theorem rep_slice {base : Nat} {t e : TypeId} {k : IntKind} {v : Value} {d : DataW H} {p : List MemPlace} (ht : P.underlying t = some (.slice e)) (he : P.underlying e = some (.int k)) (hc : P.cellsOf e = 1)
    (hval : Value.okWide P W .any base t v) (h : DataW.Trod enc P W 0 (fun _ => true) true t v d p) :
    ∃ zs : List Int, RepI (fun _ => False) W v (.sl zs.length (zs.map (.int k ·))) ∧ (∀ z ∈ zs, (Lit.int k z).wf = true) ∧ zs.length ≤ 9223372036854775807 := by
  obtain ⟨fuel, h⟩ := h
  have hcell : Cell.ok P W .any base t v := by
    simp only [Value.okWide, ht, Cell.okWide] at hval
    exact hval
  rcases open_ints ht he hc h with ⟨h1, _⟩ | ⟨a, len, cap, zs, h1, _, hle, hm, hz, _, hcs, hwf⟩
  · have hv : v = .slice none 0 0 := by
      cases v <;> first | (simpa [Value.cells] using h1) | (exfalso; simp [Cell.ok, ht] at hcell)
    subst hv
    exact ⟨[], .sl none 0 0 [] 0 0 (fun _ => undef) (Nat.le_refl _) (Nat.zero_le _) (fun h => absurd rfl h) (fun h => absurd rfl h) (fun j d h => by simp at h) (fun j d h => by simp at h), fun z h => by simp at h, Nat.zero_le _⟩
  · have hv : v = .slice (some a) len cap := by
      cases v <;> first | (simpa [Value.cells] using h1) | (exfalso; simp [Cell.ok, ht] at hcell)
    subst hv
    simp only [Cell.ok, ht] at hcell
    obtain ⟨_, _, _, hsp, _⟩ := hcell
    obtain ⟨g, o, sp⟩ := a
    obtain rfl : sp = none := hsp
    simp only [if_true] at hz
    have hl : (zs.take len).length = len := by simp; omega
    have hmx : maxLen = 9223372036854775807 := rfl
    refine ⟨zs.take len, ?_, fun z hz' => hwf z (List.mem_of_mem_take hz'), by omega⟩
    rw [hl]
    have key : ∀ (j : Nat) (d : D), ((zs.take len).map (D.int k ·))[j]? = some d → j < zs.length ∧ d = .int k (zs.getD j 0) := by
      intro j d hj
      simp only [List.getElem?_map, Option.map_eq_some_iff] at hj
      obtain ⟨x, hx, rfl⟩ := hj
      have hlt : j < (zs.take len).length := (List.getElem?_eq_some_iff.1 hx).1
      have hlt' : j < zs.length := by simp at hlt; omega
      refine ⟨hlt', ?_⟩
      rw [List.getElem?_take, if_pos (by omega)] at hx
      simp [List.getD_eq_getElem?_getD, hx]
    refine .sl _ len cap _ g o (fun j => .int k (zs.getD j 0)) hle hm (fun _ => rfl) (fun _ h => h) (fun j d hj => ?_) (fun j d hj => ?_)
    · obtain ⟨hlt, _⟩ := key j d hj
      have := hcs j hlt
      rw [cellv, ← this]
      unfold Addr.add
      by_cases h0 : j = 0
      · subst h0; rfl
      · rw [if_neg h0]
    · obtain ⟨_, rfl⟩ := key j d hj
      exact .int k _
theorem rep_int {base : Nat} {t : TypeId} {k : IntKind} {v : Value} {d : DataW H} {p : List MemPlace} (ht : P.underlying t = some (.int k)) (hval : Value.okWide P W .any base t v) (h : DataW.Trod enc P W 0 (fun _ => true) true t v d p) :
    ∃ n : Int, RepI (fun _ => False) W v (.int k n) ∧ (Lit.int k n).wf = true := by
  obtain ⟨n, rfl, _, _, hw⟩ := open_int ht hval h
  exact ⟨n, .int k n, hw⟩
theorem rep_bool {base : Nat} {t : TypeId} {v : Value} {d : DataW H} {p : List MemPlace} (ht : P.underlying t = some .bool) (hval : Value.okWide P W .any base t v) (h : DataW.Trod enc P W 0 (fun _ => true) true t v d p) :
    ∃ b : Bool, RepI (fun _ => False) W v (.bool b) := by
  obtain ⟨b, rfl, _, _⟩ := open_bool ht hval h
  exact ⟨b, .bool b⟩
theorem rep_str {base : Nat} {t : TypeId} {v : Value} {d : DataW H} {p : List MemPlace} (ht : P.underlying t = some .string) (hval : Value.okWide P W .any base t v) (h : DataW.Trod enc P W 0 (fun _ => true) true t v d p) :
    ∃ s : ByteArray, RepI (fun _ => False) W v (.str s) ∧ s.size ≤ 9223372036854775807 := by
  obtain ⟨fuel, h⟩ := h
  have hcell : Cell.ok P W .any base t v := by
    simp only [Value.okWide, ht, Cell.okWide] at hval
    exact hval
  cases v <;> first | (exfalso; simp [Cell.ok, ht] at hcell; done) | skip
  rename_i s
  simp only [Cell.ok, ht, IntKind.max, IntKind.signed, IntKind.bits] at hcell
  refine ⟨s, .str s, ?_⟩
  simp at hcell
  omega
theorem wf_ok {k : IntKind} {zs : List Int} {B : Nat} (h : ∀ z ∈ zs, (Lit.int k z).wf = true) (hk : k.min = 0 ∧ k.max = (B : Int) - 1) : Dig.ok B zs := by
  intro z hz
  have := h z hz
  simp only [Lit.wf, Bool.and_eq_true, decide_eq_true_eq, hk.1, hk.2] at this
  omega
theorem trodAll_below (hl : laidOutB P = true) (hB : Below W.heap.size W W') : ∀ (ts : List TypeId) (vs : List Value) (ds : List (DataW H)) (ps : List MemPlace),
    (ts.all fun t => P.readableRec t && decide (t < P.types.size)) = true → DataW.TrodAll enc P W 0 (fun _ => true) true ts vs ds ps → (∀ x ∈ ps, x.block < W.heap.size) →
    DataW.TrodAll enc P W' 0 (fun b => decide (b < W.heap.size)) true ts vs ds ps
  | [], vs, ds, ps, _, h, _ => by
    obtain ⟨rfl, rfl, rfl⟩ := trodAll_nil h
    exact trodAll_mk0
  | t :: ts, vs, ds, ps, hr, h, hlt => by
    obtain ⟨v, vs1, d, ds1, a, b, rfl, rfl, rfl, h1, h2⟩ := trodAll_cons h
    simp only [List.all_cons, Bool.and_eq_true, decide_eq_true_eq] at hr
    exact ⟨a, b, Below.trod hl hr.1.1 hr.1.2 h1 hB (fun x hx => hlt x (List.mem_append.2 (.inl hx))), trodAll_below hl hB ts vs1 ds1 b (by simpa using hr.2) h2 (fun x hx => hlt x (List.mem_append.2 (.inr hx))), rfl⟩
theorem post_true {f : Func} {s : ChangeSpec} {apart : Bool} {args : Array Value} {ds gs : List (DataW H)} {before : List MemPlace} {tb : TypeId} (hl : laidOutB P = true)
    (hr : (f.params.toList.all fun t => P.readableRec t && decide (t < P.types.size)) = true) (hrt : f.resultTypes = #[tb]) (htb : P.underlying tb = some .bool) (hv : s.vars = [])
    (hs : (s.fn H (ds ++ gs)).results = [.lit (.bool true)] ∧ (s.fn H (ds ++ gs)).args = ds ∧ (s.fn H (ds ++ gs)).vars = [])
    (hW : DataW.Whole enc P f.params.toList s.vars apart W args.toList ds gs before) (hB : Below W.heap.size W W') :
    s.post enc P f apart true false false W args (.bool true) W' := by
  have hlt := hW.lt
  have hW' := hW
  rw [hv] at hW'
  obtain ⟨p, q, hA, hV, rfl, _, _⟩ := hW'
  obtain ⟨rfl, rfl⟩ := trodVars_none hV
  refine ⟨ds, [], p ++ [], [], p, [], hW, ?_, ?_, ?_, hB.frame _, fun h => by cases h⟩
  · rw [hs.1, hrt]
    exact trodAll_cons_mk (shut_bool htb _) trodAll_mk0
  · rw [hs.2.1]
    exact trodAll_below hl hB _ _ _ _ hr hA (fun x hx => hlt x (by simpa using hx))
  · rw [hs.2.2, hv]
    rfl
theorem calls_true {G : World → Prop} {f : FuncId} {ds : List D} {args : Array Value} (h : PCr P G f ds (.bool true)) (hg : G W) (hsz : args.size = ds.length) (hr : ∀ i d, ds[i]? = some d → RepI (fun _ => False) W (args.toList.getD i undef) d) :
    Calls P f args W fun e W' => e = .returned (.bool true) ∧ Below W.heap.size W W' :=
  (h W (fun _ => False) args hg (fun _ h => h.elim) hsz (fun i d hi => by simpa using hr i d hi)).mono fun e W' ⟨v, he, hv, hB⟩ => by
    cases hv
    exact ⟨he, hB⟩
def gPow (P : Program) (w : World) : Prop := Lib.TabIs P w "internal/strconv.uint64pow10" .u64 Lib.pow10Tab
theorem gPow_of {x y : String × DataW Unit} {rest : List (String × DataW Unit)} {g : Nat} {t e : TypeId} {n : Nat} (hg : P.globalNamed "internal/strconv.uint64pow10" = some g) (hty : (P.globals[g]?).map (·.type) = some t) (ht : P.underlying t = some (.array n e)) (he : P.underlying e = some (.int .u64)) (hce : P.cellsOf e = 1) (hct : P.cellsOf t = n)
    (hplain : ((x :: y :: ("internal/strconv.uint64pow10", Lib.tabData .u64 Lib.pow10Tab) :: rest).all fun x => x.2.handleName?.isNone) = true)
    (h : laidMetH P (x :: y :: ("internal/strconv.uint64pow10", Lib.tabData .u64 Lib.pow10Tab) :: rest) W) : gPow P W := by
  rw [MakeChecks.laidMetH_plain _ _ _ hplain] at h
  exact Lib.tabIs_of_head hg hty ht he hce hct h.tail.tail
theorem gPow_stable {g : Nat} (hg : P.globalNamed "internal/strconv.uint64pow10" = some g) : Stable (gPow P) := by
  intro w w' h hB
  have h' : w.var? P "internal/strconv.uint64pow10" = _ := h
  refine var?_below hB hg ?_ h'
  unfold World.var? at h'
  simp only [hg, Option.bind_some] at h'
  split at h'
  · rename_i hk
    exact (Array.getElem?_eq_some_iff.1 hk).1
  · cases h'
theorem no_arg : (∀ i d, ([] : List D)[i]? = some d → RepI (fun _ => False) W (([] : List Value).getD i undef) d) := fun i d h => by simp at h
theorem cons_arg {v : Value} {vs : List Value} {d : D} {ds : List D} (h : RepI (fun _ => False) W v d) (hs : ∀ i d, ds[i]? = some d → RepI (fun _ => False) W (vs.getD i undef) d) :
    ∀ i e, (d :: ds)[i]? = some e → RepI (fun _ => False) W ((v :: vs).getD i undef) e := by
  intro i e hi
  cases i with
  | zero => simp at hi; subst hi; simpa using h
  | succ i => exact hs i e (by simpa using hi)
end Go.Proofs.YtapgmfahdpopnaaDoorK.RowT
