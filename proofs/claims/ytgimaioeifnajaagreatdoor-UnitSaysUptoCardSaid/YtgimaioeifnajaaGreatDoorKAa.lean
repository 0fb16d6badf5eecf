/-
  Joined: Rep, Ir, Sound1, Sound2, Sound3, Sound4, Sound5, Sound6, Sound7, SoundM, SoundN, Sound8.
-/
import Derived.RowKit
import Derived.Below
import Derived.WalkKit
import Derived.Laws.CopyRow
import Derived.Laws.OwnMore
import Derived.Laws.Tables
import Derived.Great.BuildSlice
import Derived.Laws.MakeOwn
import Derived.Laws.BytesString
import Derived.Lib.AppendZeros
import Derived.ChangeKeysEq
import Derived.MapKept
import Derived.Laws.StructEq
set_option linter.all false
set_option maxHeartbeats 4000000
/-
  An abstract interpreter for the walked functions, part 1: abstract data (D), what it says of a value in a world (Rep), and what changes of the world leave it standing.
-/
namespace Go.Proofs.YtgimaioeifnajaaGreatDoorK.AI
open Go.RowKit

inductive D where
  | un | null | nils | nilm
  | bool (b : Bool) | int (k : IntKind) (n : Int) | str (s : ByteArray)
  | agg (cs : List D) | tup (vs : List D)
  | sl (n : Nat) (cs : List D)
  | rp (cs : List D)
  | own (b ver off n : Nat)
  | ptr (b ver off : Nat)
  | fn (f : FuncId) (cs : List D)
  | mp (kvs : List D)
  | mo (b ver : Nat)
  | mf (kvs : List D)
  deriving Inhabited

inductive Bnd where
  | no | nil | at (g cap sz : Nat)

def cellv (w : World) (g o : Nat) : Option Value := w.cell? ⟨g, o, none⟩
theorem cellv_lt {w : World} {g o : Nat} {v : Value} (h : cellv w g o = some v) : g < w.heap.size := World.block_lt_of_cell? w ⟨g, o, none⟩ h

def kvv (es : Array MapEntry) (j : Nat) : Value := match es[j / 2]? with
  | some e => if j % 2 = 0 then e.key else e.val
  | none => undef
def Same (w w' : World) (g : Nat) : Prop := (∀ o v, cellv w g o = some v → cellv w' g o = some v) ∧ ∀ es c, w.heap[g]? = some (.map es c) → w'.heap[g]? = some (.map es c)
theorem Same.refl (w : World) (g : Nat) : Same w w g := ⟨fun _ _ h => h, fun _ _ h => h⟩
theorem Same.of_eq {w w' : World} {g : Nat} (h : w'.heap[g]? = w.heap[g]?) : Same w w' g := ⟨fun o v hv => by rw [← hv]; simp [cellv, World.cell?, h], fun es c he => by rw [h]; exact he⟩
theorem map_lt {w : World} {g : Nat} {es : Array MapEntry} {c : Nat} (h : w.heap[g]? = some (.map es c)) : g < w.heap.size := (Array.getElem?_eq_some_iff.1 h).1
inductive RepI (A : Nat → Prop) (w : World) : Value → D → Prop
  | un (v : Value) : RepI A w v .un
  | null : RepI A w (.pointer none) .null
  | nils : RepI A w (.slice none 0 0) .nils
  | bool (b : Bool) : RepI A w (.bool b) (.bool b)
  | int (k : IntKind) (n : Int) : RepI A w (.int k n) (.int k n)
  | str (s : ByteArray) : RepI A w (.string s) (.str s)
  | agg (vs : Array Value) (cs : List D) (hl : vs.size = cs.length) (h : ∀ j d, cs[j]? = some d → RepI A w (vs.getD j undef) d) : RepI A w (.agg vs) (.agg cs)
  | tup (vs : Array Value) (cs : List D) (hl : vs.size = cs.length) (h : ∀ j d, cs[j]? = some d → RepI A w (vs.getD j undef) d) : RepI A w (.tuple vs) (.tup cs)
  | sl (a : Option Addr) (n c : Nat) (cs : List D) (g o : Nat) (us : Nat → Value) (hn : n ≤ c) (hc : c ≤ maxLen) (ha : cs ≠ [] → a = some ⟨g, o, none⟩) (hA : cs ≠ [] → ¬ A g)
      (hu : ∀ j d, cs[j]? = some d → cellv w g (o + j) = some (us j)) (h : ∀ j d, cs[j]? = some d → RepI A w (us j) d) : RepI A w (.slice a n c) (.sl n cs)
  | rp (cs : List D) (g o : Nat) (us : Nat → Value) (hA : cs ≠ [] → ¬ A g)
      (hu : ∀ j d, cs[j]? = some d → cellv w g (o + j) = some (us j)) (h : ∀ j d, cs[j]? = some d → RepI A w (us j) d) : RepI A w (.pointer (some ⟨g, o, none⟩)) (.rp cs)
  | nilm : RepI A w (.map none) .nilm
  | fn (f : FuncId) (vs : Array Value) (cs : List D) (hl : vs.size = cs.length) (h : ∀ j d, cs[j]? = some d → RepI A w (vs.getD j undef) d) : RepI A w (.func (.func f) #[] vs) (.fn f cs)
  | mf (kvs : List D) (g : Nat) (es : Array MapEntry) (c : Nat) (hA : ¬ A g) (hh : w.heap[g]? = some (.map es c)) (hl : kvs.length = 2 * es.size) (h : ∀ j d, kvs[j]? = some d → RepI A w (kvv es j) d) : RepI A w (.map (some g)) (.mf kvs)

inductive Rep (R : Nat → Nat → Bnd) (A : Nat → Prop) (w : World) : Value → D → Prop
  | imm {v : Value} {d : D} (h : RepI A w v d) : Rep R A w v d
  | agg (vs : Array Value) (cs : List D) (hl : vs.size = cs.length) (h : ∀ j d, cs[j]? = some d → Rep R A w (vs.getD j undef) d) : Rep R A w (.agg vs) (.agg cs)
  | tup (vs : Array Value) (cs : List D) (hl : vs.size = cs.length) (h : ∀ j d, cs[j]? = some d → Rep R A w (vs.getD j undef) d) : Rep R A w (.tuple vs) (.tup cs)
  | own (b ver off n g cap sz o : Nat) (hR : R b ver = .at g cap sz) (h0 : sz ≠ 0) (ho : o = off * sz ∨ (off = cap ∧ off ≠ 0)) (hn : off + n ≤ cap) : Rep R A w (.slice (some ⟨g, o, none⟩) n (cap - off)) (.own b ver off n)
  | ownn (b ver : Nat) (hR : R b ver = .nil) : Rep R A w (.slice none 0 0) (.own b ver 0 0)
  | ptr (b ver off g cap sz : Nat) (hR : R b ver = .at g cap sz) (h0 : sz ≠ 0) : Rep R A w (.pointer (some ⟨g, off, none⟩)) (.ptr b ver off)
  | fn (f : FuncId) (vs : Array Value) (cs : List D) (hl : vs.size = cs.length) (h : ∀ j d, cs[j]? = some d → Rep R A w (vs.getD j undef) d) : Rep R A w (.func (.func f) #[] vs) (.fn f cs)
  | mo (b ver g : Nat) (hR : R b ver = .at g 0 0) : Rep R A w (.map (some g)) (.mo b ver)

theorem cons_ne {α : Type} {l : List α} {j : Nat} {d : α} (h : l[j]? = some d) : l ≠ [] := by
  rintro rfl
  simp at h

section
variable {R R' : Nat → Nat → Bnd} {A A' : Nat → Prop} {w w' : World} {v : Value} {d : D}
theorem RepI.mono (hA : ∀ g, g < w.heap.size → ¬ A g → ¬ A' g ∧ Same w w' g) (h : RepI A w v d) : RepI A' w' v d := by
  induction h with
  | un v => exact .un v
  | null => exact .null
  | nils => exact .nils
  | bool b => exact .bool b
  | int k n => exact .int k n
  | str s => exact .str s
  | agg vs cs hl _ ih => exact .agg vs cs hl ih
  | tup vs cs hl _ ih => exact .tup vs cs hl ih
  | sl a n c cs g o us hn hc ha hA0 hu _ ih =>
    refine .sl a n c cs g o us hn hc ha (fun hne => ?_) (fun j d hj => ?_) ih
    · cases cs with
      | nil => exact absurd rfl hne
      | cons x l => exact (hA g (cellv_lt (hu 0 x rfl)) (hA0 hne)).1
    · exact (hA g (cellv_lt (hu j d hj)) (hA0 (cons_ne hj))).2.1 _ _ (hu j d hj)
  | rp cs g o us hA0 hu _ ih =>
    refine .rp cs g o us (fun hne => ?_) (fun j d hj => ?_) ih
    · cases cs with
      | nil => exact absurd rfl hne
      | cons x l => exact (hA g (cellv_lt (hu 0 x rfl)) (hA0 hne)).1
    · exact (hA g (cellv_lt (hu j d hj)) (hA0 (cons_ne hj))).2.1 _ _ (hu j d hj)
  | nilm => exact .nilm
  | fn f vs cs hl _ ih => exact .fn f vs cs hl ih
  | mf kvs g es c hA0 hh hl _ ih => exact .mf kvs g es c (hA g (map_lt hh) hA0).1 ((hA g (map_lt hh) hA0).2.2 _ _ hh) hl ih
theorem Rep.mono (hR : ∀ b ver, R b ver ≠ .no → R' b ver = R b ver)
    (hA : ∀ g, g < w.heap.size → ¬ A g → ¬ A' g ∧ Same w w' g) (h : Rep R A w v d) : Rep R' A' w' v d := by
  induction h with
  | imm h => exact .imm (h.mono hA)
  | agg vs cs hl _ ih => exact .agg vs cs hl ih
  | tup vs cs hl _ ih => exact .tup vs cs hl ih
  | own b ver off n g cap sz o hR0 h0 ho hn => exact .own b ver off n g cap sz o ((hR b ver (by rw [hR0]; exact Bnd.noConfusion)).trans hR0) h0 ho hn
  | ownn b ver hR0 => exact .ownn b ver ((hR b ver (by rw [hR0]; exact Bnd.noConfusion)).trans hR0)
  | ptr b ver off g cap sz hR0 h0 => exact .ptr b ver off g cap sz ((hR b ver (by rw [hR0]; exact Bnd.noConfusion)).trans hR0) h0
  | fn f vs cs hl _ ih => exact .fn f vs cs hl ih
  | mo b ver g hR0 => exact .mo b ver g ((hR b ver (by rw [hR0]; exact Bnd.noConfusion)).trans hR0)
def D.flat : D → Bool
  | .un | .null | .nils | .nilm | .bool _ | .int .. | .str _ => true
  | .sl _ [] => true
  | .agg cs | .tup cs | .fn _ cs => flats cs
  | _ => false
  where flats : List D → Bool
  | [] => true
  | d :: l => d.flat && flats l
theorem flats_get : ∀ {cs : List D}, D.flat.flats cs = true → ∀ (j : Nat) (d : D), cs[j]? = some d → d.flat = true
  | [], _, j, d, hj => by simp at hj
  | x :: l, h, j, d, hj => by
    simp only [D.flat.flats, Bool.and_eq_true] at h
    cases j with
    | zero => simp at hj; subst hj; exact h.1
    | succ j => exact flats_get h.2 j d (by simpa using hj)
theorem RepI.of_flat (h : RepI A w v d) (hf : d.flat = true) : RepI A' w' v d := by
  induction h with
  | un v => exact .un v
  | null => exact .null
  | nils => exact .nils
  | bool b => exact .bool b
  | int k n => exact .int k n
  | str s => exact .str s
  | agg vs cs hl _ ih => exact .agg vs cs hl (fun j d hj => ih j d hj (flats_get (by simpa [D.flat] using hf) j d hj))
  | tup vs cs hl _ ih => exact .tup vs cs hl (fun j d hj => ih j d hj (flats_get (by simpa [D.flat] using hf) j d hj))
  | sl a n c cs g o us hn hc ha hA0 hu _ ih =>
    cases cs with
    | nil => exact .sl a n c [] g o us hn hc ha (fun h => absurd rfl h) (fun j d hj => by simp at hj) (fun j d hj => by simp at hj)
    | cons x l => simp [D.flat] at hf
  | rp cs g o us hA0 hu _ ih => simp [D.flat] at hf
  | nilm => exact .nilm
  | fn f vs cs hl _ ih => exact .fn f vs cs hl (fun j d hj => ih j d hj (flats_get (by simpa [D.flat] using hf) j d hj))
  | mf kvs g es c hA0 hh hl _ ih => simp [D.flat] at hf

/-! what a value is, of which something is told -/
theorem Rep.int_inv {k : IntKind} {n : Int} (h : Rep R A w v (.int k n)) : v = .int k n := by
  cases h with | imm h => cases h; rfl
theorem Rep.bool_inv {b : Bool} (h : Rep R A w v (.bool b)) : v = .bool b := by
  cases h with | imm h => cases h; rfl
theorem Rep.str_inv {s : ByteArray} (h : Rep R A w v (.str s)) : v = .string s := by
  cases h with | imm h => cases h; rfl
theorem Rep.null_inv (h : Rep R A w v .null) : v = .pointer none := by
  cases h with | imm h => cases h; rfl
theorem Rep.nils_inv (h : Rep R A w v .nils) : v = .slice none 0 0 := by
  cases h with | imm h => cases h; rfl
theorem Rep.agg_inv {cs : List D} (h : Rep R A w v (.agg cs)) : ∃ vs : Array Value, v = .agg vs ∧ vs.size = cs.length ∧ ∀ j d, cs[j]? = some d → Rep R A w (vs.getD j undef) d := by
  cases h with
  | imm h => cases h with | agg vs cs hl h => exact ⟨vs, rfl, hl, fun j d hj => .imm (h j d hj)⟩
  | agg vs cs hl h => exact ⟨vs, rfl, hl, h⟩
theorem Rep.tup_inv {cs : List D} (h : Rep R A w v (.tup cs)) : ∃ vs : Array Value, v = .tuple vs ∧ vs.size = cs.length ∧ ∀ j d, cs[j]? = some d → Rep R A w (vs.getD j undef) d := by
  cases h with
  | imm h => cases h with | tup vs cs hl h => exact ⟨vs, rfl, hl, fun j d hj => .imm (h j d hj)⟩
  | tup vs cs hl h => exact ⟨vs, rfl, hl, h⟩
theorem Rep.sl_inv {n : Nat} {cs : List D} (h : Rep R A w v (.sl n cs)) : RepI A w v (.sl n cs) := by
  cases h with | imm h => exact h
theorem Rep.rp_inv {cs : List D} (h : Rep R A w v (.rp cs)) : RepI A w v (.rp cs) := by
  cases h with | imm h => exact h
theorem RepI.rp_form {cs : List D} (h : RepI A w v (.rp cs)) : ∃ (g o : Nat) (us : Nat → Value), v = .pointer (some ⟨g, o, none⟩) ∧ (cs ≠ [] → ¬ A g) ∧
    (∀ j d, cs[j]? = some d → cellv w g (o + j) = some (us j)) ∧ ∀ j d, cs[j]? = some d → RepI A w (us j) d := by
  cases h with | rp cs g o us hA hu h => exact ⟨g, o, us, rfl, hA, hu, h⟩
theorem RepI.sl_form {n : Nat} {cs : List D} (h : RepI A w v (.sl n cs)) : ∃ (a : Option Addr) (c g o : Nat) (us : Nat → Value), v = .slice a n c ∧ n ≤ c ∧ c ≤ maxLen ∧ (cs ≠ [] → a = some ⟨g, o, none⟩) ∧ (cs ≠ [] → ¬ A g) ∧
    (∀ j d, cs[j]? = some d → cellv w g (o + j) = some (us j)) ∧ ∀ j d, cs[j]? = some d → RepI A w (us j) d := by
  cases h with | sl a n c cs g o us hn hc ha hA hu h => exact ⟨a, c, g, o, us, rfl, hn, hc, ha, hA, hu, h⟩
theorem Rep.ptr_inv {b ver off : Nat} (h : Rep R A w v (.ptr b ver off)) : ∃ g cap sz, R b ver = .at g cap sz ∧ sz ≠ 0 ∧ v = .pointer (some ⟨g, off, none⟩) := by
  cases h with
  | imm h => cases h
  | ptr b ver off g cap sz hR h0 => exact ⟨g, cap, sz, hR, h0, rfl⟩
theorem Rep.own_inv {b ver off n : Nat} (h : Rep R A w v (.own b ver off n)) : (R b ver = .nil ∧ off = 0 ∧ n = 0 ∧ v = .slice none 0 0) ∨
    ∃ g cap sz o, R b ver = .at g cap sz ∧ sz ≠ 0 ∧ (o = off * sz ∨ (off = cap ∧ off ≠ 0)) ∧ off + n ≤ cap ∧ v = .slice (some ⟨g, o, none⟩) n (cap - off) := by
  cases h with
  | imm h => cases h
  | own b ver off n g cap sz o hR h0 ho hn => exact .inr ⟨g, cap, sz, o, hR, h0, ho, hn, rfl⟩
  | ownn b ver hR => exact .inl ⟨hR, rfl, rfl, rfl⟩
theorem Rep.nilm_inv (h : Rep R A w v .nilm) : v = .map none := by
  cases h with | imm h => cases h; rfl
theorem Rep.mo_inv {b ver : Nat} (h : Rep R A w v (.mo b ver)) : ∃ g, R b ver = .at g 0 0 ∧ v = .map (some g) := by
  cases h with
  | imm h => cases h
  | mo b ver g hR => exact ⟨g, hR, rfl⟩
theorem Rep.mf_inv {kvs : List D} (h : Rep R A w v (.mf kvs)) : ∃ g es c, v = .map (some g) ∧ ¬ A g ∧ w.heap[g]? = some (.map es c) ∧ kvs.length = 2 * es.size ∧ ∀ j d, kvs[j]? = some d → RepI A w (kvv es j) d := by
  cases h with | imm h => cases h with | mf kvs g es c hA hh hl h => exact ⟨g, es, c, rfl, hA, hh, hl, h⟩
theorem Rep.fn_inv {f : FuncId} {cs : List D} (h : Rep R A w v (.fn f cs)) : ∃ vs : Array Value, v = .func (.func f) #[] vs ∧ vs.size = cs.length ∧ ∀ j d, cs[j]? = some d → Rep R A w (vs.getD j undef) d := by
  cases h with
  | imm h => cases h with | fn f vs cs hl h => exact ⟨vs, rfl, hl, fun j d hj => .imm (h j d hj)⟩
  | fn f vs cs hl h => exact ⟨vs, rfl, hl, h⟩
theorem Rep.mp_inv {kvs : List D} (h : Rep R A w v (.mp kvs)) : False := by
  cases h with | imm h => cases h
end

structure BelowK (K : Nat → Prop) (w w' : World) : Prop where
  os : w'.os = w.os
  tape : w'.tape = w.tape
  output : w'.output = w.output
  size : w.heap.size ≤ w'.heap.size
  block : ∀ k, K k → w'.heap[k]? = w.heap[k]?
theorem BelowK.refl (K : Nat → Prop) (w : World) : BelowK K w w := ⟨rfl, rfl, rfl, Nat.le_refl _, fun _ _ => rfl⟩
theorem BelowK.trans {K : Nat → Prop} {a b c : World} (h : BelowK K a b) (k : BelowK K b c) : BelowK K a c :=
  ⟨k.os.trans h.os, k.tape.trans h.tape, k.output.trans h.output, Nat.le_trans h.size k.size, fun i hi => (k.block i hi).trans (h.block i hi)⟩
theorem BelowK.mono {K K' : Nat → Prop} {w w' : World} (h : BelowK K w w') (hK : ∀ k, K' k → K k) : BelowK K' w w' := ⟨h.os, h.tape, h.output, h.size, fun k hk => h.block k (hK k hk)⟩
theorem BelowK.alloc {K : Nat → Prop} {a w : World} (h : BelowK K a w) (hB : ∀ k, K k → k < w.heap.size) (o : Obj) : BelowK K a (w.alloc o) :=
  h.trans ⟨rfl, rfl, rfl, by simp, fun k hk => Below.heap_alloc _ _ _ (hB k hk)⟩
theorem BelowK.of {B : Nat} {w w' : World} (h : Below B w w') {K : Nat → Prop} (hK : ∀ k, K k → k < B) : BelowK K w w' := ⟨h.os, h.tape, h.output, h.size, fun k hk => h.block k (hK k hk)⟩
theorem BelowK.to {B : Nat} {w w' : World} {K : Nat → Prop} (h : BelowK K w w') (hK : ∀ k, k < B → K k) : Below B w w' := ⟨h.os, h.tape, h.output, h.size, fun k hk => h.block k (hK k hk)⟩
structure Org where
  w : World
  keep : Nat → Prop
  m : Nat
  R0 : Nat → Nat → Bnd

abbrev Blk := Option (Nat × TypeId × Nat × List D)

structure St where
  env : Nat → D
  heap : List Blk

def BlkRel (R : Nat → Nat → Bnd) (A : Nat → Prop) (w : World) (base : Nat → Prop) (b : Nat) : Blk → Prop
  | none => True
  | some (ver, t, sz, cs) => (R b ver = .nil ∧ cs = []) ∨ (∃ g cap vs, R b ver = .at g cap sz ∧ ¬ base g ∧ w.heap[g]? = some (.cells vs t (0, 0)) ∧ vs.size = cap * sz ∧ cap ≤ maxLen ∧ cs.length ≤ vs.size ∧
      (∀ j d, cs[j]? = some d → Rep R A w (vs.getD j undef) d)) ∨
    ∃ g es c kvs, R b ver = .at g 0 0 ∧ sz = 0 ∧ ¬ base g ∧ w.heap[g]? = some (.map es c) ∧ cs = [.mp kvs] ∧ kvs.length = 2 * es.size ∧ ∀ j d, kvs[j]? = some d → Rep R A w (kvv es j) d

theorem cellv_of_block {w : World} {g o : Nat} {vs : Array Value} {t : TypeId} {fz : Nat × Nat} (h : w.heap[g]? = some (.cells vs t fz)) : cellv w g o = vs[o]? := by
  simp [cellv, World.cell?, h]
theorem cellv_congr {w w' : World} {g : Nat} (h : w'.heap[g]? = w.heap[g]?) (o : Nat) : cellv w' g o = cellv w g o := by
  simp [cellv, World.cell?, h]
end Go.Proofs.YtgimaioeifnajaaGreatDoorK.AI
/-
  The abstract interpreter, part 2: the little code (IOp, IR), how Go's code is told in it (comp), what an operation does to abstract data (stepF).
-/
namespace Go.Proofs.YtgimaioeifnajaaGreatDoorK.AI
open Go.RowKit

inductive Opd where
  | t (n : Nat) | c (d : D)
  deriving Inhabited

inductive IOp where
  | mv (x : Opd)
  | pick (c a b : Opd)
  | new (t sz : Nat) (z : List D)
  | box (t sz : Nat) (x : Opd)
  | build (z : List D) (parts : List (Nat × Nat × Opd))
  | lit (t sz n : Nat) (z : List D) (parts : List (Nat × Nat × Opd))
  | load (ag : Bool) (sz : Nat) (x : Opd)
  | store (sz : Nat) (x y : Opd)
  | faddr (off : Nat) (x : Opd)
  | fld (ag : Bool) (off sz : Nat) (x : Opd)
  | iaddrS (sz : Nat) (x i : Opd)
  | iaddrA (len sz : Nat) (x i : Opd)
  | idxs (x i : Opd)
  | bin (op : BinOp) (x y : Opd)
  | beq (ne : Bool) (x y : Opd)
  | neg (x : Opd)
  | not (x : Opd)
  | conv (k : IntKind) (x : Opd)
  | slcS (x : Opd) (lo hi : Option Opd)
  | slcL (sz : Nat) (x : Opd) (lo hi : Option Opd)
  | make (t sz bytes : Nat) (z : List D) (n : Opd)
  | app (t sz bytes : Nat) (s x : Opd)
  | appZ (t sz bytes : Nat) (s n : Opd)
  | lenS (x : Opd)
  | lenL (x : Opd)
  | capL (x : Opd)
  | mx (x y : Opd)
  | mn (x y : Opd)
  | ext (x : Opd) (i : Nat)
  | nilck (x : Opd)
  | bstr (x : Opd)
  | idxA (len sz : Nat) (ag : Bool) (x i : Opd)
  | slcA (n sz : Nat) (x : Opd)
  | aeq (n : Nat) (ne : Bool) (x y : Opd)
  | isnil (ne : Bool) (k : Nat) (x : Opd)
  | seq (os : List (Nat × Nat)) (ne : Bool) (x y : Opd)
  | mkmap (t : TypeId)
  | look (kn : Option Nat) (ok : Bool) (z : D) (x k : Opd)
  | mput (kn : Option Nat) (x k v : Opd)
  | mkfn (f : FuncId) (cs : List Opd)
  | call (f : FuncId) (args : List Opd)
  | dcall (x : Opd) (args : List Opd)
  deriving Inhabited

structure IOper where
  dst : Option Nat
  op : IOp
  guard : Option (Option Nat × Bool)
  deriving Inhabited

inductive IR where
  | skip
  | reg (draw : Bool) (ops : List IOper) (anc : List Nat)
  | seq (a b : IR)
  | cond (c : Opd) (a b : IR)
  | block (id : Nat) (a : IR)
  | loop (a : IR)
  | exit (id : Nat)
  | ret
  | dead
  deriving Inhabited

/-! ### out of Go's code -/
def constD1 : Value → Option D
  | .bool b => some (.bool b)
  | .int k n => some (.int k n)
  | .string s => some (.str s)
  | .pointer none => some .null
  | .slice none 0 0 => some .nils
  | .map none => some .nilm
  | .func (.func f) first captured => if first.size = 0 ∧ captured.size = 0 then some (.fn f []) else none
  | _ => none
def constDs : List Value → Option (List D)
  | [] => some []
  | v :: l => (constD1 v).bind fun d => (constDs l).bind fun r => some (d :: r)
def constD : Value → Option D
  | .agg cs => (constDs cs.toList).map .agg
  | v => constD1 v
def compOpd : Operand → Option Opd
  | .tmp t => some (.t t)
  | .const v => (constD v).map .c
  | .func f => some (.c (.fn f []))
  | _ => none
def compOpds : List Operand → Option (List Opd)
  | [] => some []
  | x :: l => (compOpd x).bind fun d => (compOpds l).bind fun r => some (d :: r)
def compParts (place : Nat → Option (Nat × Nat)) : List (Nat × Operand) → Option (List (Nat × Nat × Opd))
  | [] => some []
  | (i, x) :: l => (place i).bind fun p => (compOpd x).bind fun d => (compParts place l).bind fun r => some ((p.1, p.2, d) :: r)
def aggT (P : Program) (t : TypeId) : Option Bool := (P.underlying t).map fun | .struct _ | .array _ _ => true | _ => false
def sizeT (P : Program) (t : TypeId) : Option Nat := (P.info? t).map (·.size)
def zeroT (P : Program) (t : TypeId) : Option (List D) := ((P.info? t).bind (·.zero)).bind fun z => constDs z.cells.toList
def sliceT (P : Program) (t : TypeId) : Option TypeId := (P.underlying t).bind fun | .slice e => some e | _ => none
def repD (z : List D) : Nat → List D
  | 0 => []
  | n + 1 => z ++ repD z n
def intsT (P : Program) : TypeDesc → Option Nat
  | .array n e => match P.underlying e with
    | some (.int _) => if sizeT P e = some 1 ∧ aggT P e = some false then some n else none
    | _ => none
  | _ => none
def keyN (P : Program) (t : TypeId) : Option (Option Nat) := (P.underlying t).bind fun
  | .string => some none
  | u => (intsT P u).map some
def zero1 (P : Program) (t : TypeId) : Option D := ((P.info? t).bind (·.zero)).bind constD
def nilOp (op : BinOp) (k : Nat) (y : Operand) : Option Bool := match op, k, y with
  | .eql, 0, .const (.pointer none) | .eql, 1, .const (.slice none 0 0) | .eql, 2, .const (.map none) => some false
  | .neq, 0, .const (.pointer none) | .neq, 1, .const (.slice none 0 0) | .neq, 2, .const (.map none) => some true
  | _, _, _ => none
def flatK (P : Program) (e : TypeId) : Option Nat := if sizeT P e = some 1 ∧ aggT P e = some false then (match P.underlying e with
  | some .bool => some 0
  | some (.int _) => some 1
  | some .string => some 2
  | _ => none) else none
def flatL (P : Program) : List Field → Option (List (Nat × Nat))
  | [] => some []
  | f :: l => if (f.name == "_") = true then none else (flatK P f.type).bind fun k => (flatL P l).map fun r => (f.offset, k) :: r
def isIntT (P : Program) (t : TypeId) : Bool := match P.underlying t with | some (.int _) => true | _ => false
def compCall (P : Program) (c : Call) : Option IOp :=
  match c.callee with
  | .builtin .len => match (c.argTypes[0]?).bind P.underlying, c.args.toList with
    | some .string, [x] => (compOpd x).map .lenS
    | some (.slice _), [x] => (compOpd x).map .lenL
    | some (.array n _), [_] => some (.mv (.c (.int .i64 n)))
    | _, _ => none
  | .builtin .cap => match (c.argTypes[0]?).bind P.underlying, c.args.toList with
    | some (.slice _), [x] => (compOpd x).map .capL
    | _, _ => none
  | .builtin .max => match c.args.toList with
    | [x, y] => (compOpd x).bind fun x => (compOpd y).map fun y => .mx x y
    | _ => none
  | .builtin .min => match c.args.toList with
    | [x, y] => (compOpd x).bind fun x => (compOpd y).map fun y => .mn x y
    | _ => none
  | .builtin .append => match c.args.toList, c.argTypes.toList with
    | [s, x], [t, t'] => if t = t' then (sliceT P t).bind fun e => (P.info? e).bind fun i => (zeroT P e).bind fun z => if z.length = i.size ∧ 0 < i.size then (compOpd s).bind fun s => (compOpd x).map fun x => .app e i.size i.bytes s x else none else if isIntT P t' = true then (sliceT P t).bind fun e => (P.info? e).bind fun i => (zeroT P e).bind fun z => if z.length = i.size ∧ 0 < i.size then (compOpd s).bind fun s => (compOpd x).map fun x => .appZ e i.size i.bytes s x else none else none
    | _, _ => none
  | .value (.func f) => match P.funcs[f]? with
    | some fn => if fn.body.isSome ∧ (fn.name == "runtime.NumGoroutine") = false then (compOpds c.args.toList).map (.call f) else none
    | none => none
  | .value (.tmp f) => (compOpds c.args.toList).map (.dcall (.t f))
  | _ => none
def compSlice (P : Program) (t : TypeId) (x : Operand) (lo hi : Option Operand) : Option IOp := match P.underlying t with
  | some .string => (compOpd x).bind fun x => (match lo with | none => some none | some y => (compOpd y).map some).bind fun lo => (match hi with | none => some none | some y => (compOpd y).map some).map (.slcS x lo)
  | some (.slice e) => (sizeT P e).bind fun s => (compOpd x).bind fun x => (match lo with | none => some none | some y => (compOpd y).map some).bind fun lo => (match hi with | none => some none | some y => (compOpd y).map some).map (.slcL s x lo)
  | _ => none
def compOp (P : Program) : Op → Option IOp
  | .move x | .assign x => (compOpd x).map .mv
  | .pick c a b => (compOpd c).bind fun c => (compOpd a).bind fun a => (compOpd b).map fun b => .pick c a b
  | .alloc t => (zeroT P t).bind fun z => if sizeT P t = some z.length ∧ z.length ≠ 0 then some (.new t z.length z) else none
  | .box t x => (sizeT P t).bind fun s => if s = 0 then none else (compOpd x).map (.box t s)
  | .build t parts => (zeroT P t).bind fun z => match P.underlying t with
    | some (.struct fs) => (fs.toList.mapM fun f => (P.info? f.type).map fun i => (f.offset, i.size)).bind fun places => (compParts (places.toArray[·]?) parts.toList).map (.build z)
    | some (.array _ e) => (sizeT P e).bind fun s => (compParts (fun i => some (i * s, s)) parts.toList).map (.build z)
    | _ => none
  | .buildSlice t n parts => (sliceT P t).bind fun e => (zeroT P e).bind fun z => (sizeT P e).bind fun s =>
      if z.length = s ∧ 0 < s ∧ n * s ≤ 16777216 then (compParts (fun i => some (i * s, s)) parts.toList).map (.lit e s n (repD z n)) else none
  | .load t x => (aggT P t).bind fun g => (sizeT P t).bind fun s => (compOpd x).map (.load g s)
  | .store t x y => (sizeT P t).bind fun s => (compOpd x).bind fun x => (compOpd y).map (.store s x)
  | .fieldAddr t x i => match P.underlying t with
    | some (.struct fs) => (fs[i]?).bind fun f => (sizeT P f.type).bind fun s => if s = 0 then none else (compOpd x).map (.faddr f.offset)
    | _ => none
  | .field t x i => match P.underlying t with
    | some (.struct fs) => (fs[i]?).bind fun f => (aggT P f.type).bind fun g => (sizeT P f.type).bind fun s => (compOpd x).map (.fld g f.offset s)
    | _ => none
  | .indexAddr t x i => match P.underlying t with
    | some (.slice e) => (sizeT P e).bind fun s => if s = 0 then none else (compOpd x).bind fun x => (compOpd i).map (.iaddrS s x)
    | some (.array n e) => (sizeT P e).bind fun s => if s = 0 then none else (compOpd x).bind fun x => (compOpd i).map (.iaddrA n s x)
    | _ => none
  | .index t x i => match P.underlying t with
    | some .string => (compOpd x).bind fun x => (compOpd i).map (.idxs x)
    | some (.array n e) => (sizeT P e).bind fun s => (aggT P e).bind fun g => (compOpd x).bind fun x => (compOpd i).map (.idxA n s g x)
    | _ => none
  | .binOp op t x y _ => match P.underlying t, op with
    | some .bool, .eql => (compOpd x).bind fun x => (compOpd y).map (.beq false x)
    | some .bool, .neq => (compOpd x).bind fun x => (compOpd y).map (.beq true x)
    | some (.int _), _ => (compOpd x).bind fun x => (compOpd y).map (.bin op x)
    | some .string, _ => (compOpd x).bind fun x => (compOpd y).map (.bin op x)
    | some (.pointer _), _ => (nilOp op 0 y).bind fun ne => (compOpd x).map (.isnil ne 0)
    | some (.slice _), _ => (nilOp op 1 y).bind fun ne => (compOpd x).map (.isnil ne 1)
    | some (.map _ _), _ => (nilOp op 2 y).bind fun ne => (compOpd x).map (.isnil ne 2)
    | some (.struct fs), .eql => if P.eqGuardType P.depth t || P.stoodInHeld t then none else (flatL P fs.toList).bind fun os => (compOpd x).bind fun x => (compOpd y).map (.seq os false x)
    | some (.struct fs), .neq => if P.eqGuardType P.depth t || P.stoodInHeld t then none else (flatL P fs.toList).bind fun os => (compOpd x).bind fun x => (compOpd y).map (.seq os true x)
    | some u, .eql => if P.eqGuardType P.depth t then none else (intsT P u).bind fun n => (compOpd x).bind fun x => (compOpd y).map (.aeq n false x)
    | some u, .neq => if P.eqGuardType P.depth t then none else (intsT P u).bind fun n => (compOpd x).bind fun x => (compOpd y).map (.aeq n true x)
    | _, _ => none
  | .unOp .neg _ x => (compOpd x).map .neg
  | .unOp .not _ x => (compOpd x).map .not
  | .convert src dst x => match P.underlying src, P.underlying dst with
    | some (.int _), some (.int k) => (compOpd x).map (.conv k)
    | some (.slice e), some .string => match P.underlying e with
      | some (.int .u8) => (compOpd x).map .bstr
      | _ => none
    | _, _ => none
  | .slice t x none none none => match P.underlying t with
    | some (.array n e) => (sizeT P e).bind fun s => if n ≠ 0 ∧ n < 1000 ∧ s ≠ 0 then (compOpd x).map (.slcA n s) else none
    | _ => compSlice P t x none none
  | .slice t x lo hi none => compSlice P t x lo hi
  | .makeMap t none => match P.underlying t with
    | some (.map k _) => (keyN P k).map fun _ => .mkmap t
    | _ => none
  | .lookup t x k ok => match P.underlying t with
    | some (.map kt et) => (keyN P kt).bind fun kn => (zero1 P et).bind fun z => (compOpd x).bind fun x => (compOpd k).map fun k => .look kn ok z x k
    | _ => none
  | .mapUpdate t x k v => match P.underlying t with
    | some (.map kt _) => (keyN P kt).bind fun kn => (compOpd x).bind fun x => (compOpd k).bind fun k => (compOpd v).map fun v => .mput kn x k v
    | _ => none
  | .insert t x k v => match P.underlying t with
    | some (.map kt _) => (keyN P kt).bind fun kn => (compOpd x).bind fun x => (compOpd k).bind fun k => (compOpd v).map fun v => .mput kn x k v
    | _ => none
  | .makeFunc (.func f) first captured => if first.size = 0 then (compOpds captured.toList).map (.mkfn f) else none
  | .makeSlice t (.tmp l) (.tmp c) => if l = c then (sliceT P t).bind fun e => (P.info? e).bind fun i => (zeroT P e).bind fun z => if z.length = i.size ∧ 0 < i.size then some (.make e i.size i.bytes z (.t l)) else none else none
  | .extract x i => (compOpd x).map fun x => .ext x i
  | .nilCheck x => (compOpd x).map .nilck
  | .call c => compCall P c
  | _ => none
def compOper (P : Program) (ops : Array Oper) (o : Oper) : Option IOper :=
  (compOp P o.op).map fun p => { dst := o.dst, op := p, guard := o.guard.map fun g => ((ops[g.1]?).bind (·.dst), g.2) }
def compOpers (P : Program) (ops : Array Oper) : List Oper → Option (List IOper)
  | [] => some []
  | o :: l => (compOper P ops o).bind fun p => (compOpers P ops l).bind fun r => some (p :: r)
def IOp.opds : IOp → List Opd
  | .mv x => [x]
  | .pick c a b => [c, a, b]
  | .new .. => []
  | .box _ _ x => [x]
  | .build _ ps => ps.map (·.2.2)
  | .lit _ _ _ _ ps => ps.map (·.2.2)
  | .load _ _ x => [x]
  | .store _ x y => [x, y]
  | .faddr _ x => [x]
  | .fld _ _ _ x => [x]
  | .iaddrS _ x i => [x, i]
  | .iaddrA _ _ x i => [x, i]
  | .idxs x i => [x, i]
  | .bin _ x y => [x, y]
  | .beq _ x y => [x, y]
  | .neg x => [x]
  | .not x => [x]
  | .conv _ x => [x]
  | .slcS x lo hi => x :: (lo.toList ++ hi.toList)
  | .slcL _ x lo hi => x :: (lo.toList ++ hi.toList)
  | .make _ _ _ _ n => [n]
  | .app _ _ _ s x => [s, x]
  | .appZ _ _ _ s x => [s, x]
  | .lenS x => [x]
  | .lenL x => [x]
  | .capL x => [x]
  | .mx x y => [x, y]
  | .mn x y => [x, y]
  | .ext x _ => [x]
  | .nilck x => [x]
  | .bstr x => [x]
  | .idxA _ _ _ x i => [x, i]
  | .slcA _ _ x => [x]
  | .aeq _ _ x y => [x, y]
  | .isnil _ _ x => [x]
  | .seq _ _ x y => [x, y]
  | .mkmap _ => []
  | .look _ _ _ x k => [x, k]
  | .mput _ x k v => [x, k, v]
  | .mkfn _ cs => cs
  | .call _ args => args
  | .dcall x args => x :: args
def Opd.slot? : Opd → Option Nat
  | .t n => some n
  | .c _ => none
def IOper.looks (o : IOper) : List Nat := o.op.opds.filterMap Opd.slot? ++ (match o.guard with | some (some t, _) => [t] | _ => [])
def edges (ops : Array Oper) : List (List Nat) := ops.toList.map fun o => (o.after.toList.filter (Region.binds .any)).map (·.on)
def edgesOk (es : List (List Nat)) (anc : List Nat) : Bool := (List.range es.length).all fun i =>
  (es.getD i []).all (· < i) && (List.range es.length).all fun j => !(anc.getD i 0).testBit j || (es.getD i []).any fun e => e == j || (anc.getD e 0).testBit j
def apart (x y : IOper) : Bool := (match x.dst with | some d => !y.looks.contains d && y.dst != some d | none => true) && (match y.dst with | some d => !x.looks.contains d | none => true)
def slotsOk (ios : List IOper) (anc : List Nat) : Bool := (List.range ios.length).all fun j => (List.range j).all fun i => (anc.getD j 0).testBit i ||
  match ios[i]?, ios[j]? with | some x, some y => apart x y | _, _ => false
def isPanic (o : Oper) : Bool := match o.op with | .panic _ => true | _ => false
def compReg (P : Program) (ops : Array Oper) (draw : Bool) : Option IR := (compOpers P ops ops.toList).bind fun l => if draw then (if P.follows .mixedOrders = true ∧ edgesOk (edges ops) (Region.before ops).toList ∧ slotsOk l (Region.before ops).toList then some (.reg true l (Region.before ops).toList) else none) else some (.reg false l [])
def comp (P : Program) : Code → Option IR
  | .skip => some .skip
  | .region _ ops draw => match compReg P ops draw with
    | some r => some r
    | none => if ops.any isPanic then some .dead else none
  | .seq a b => (comp P a).bind fun a => (comp P b).map fun b => .seq a b
  | .cond c a b => (compOpd c).bind fun c => (comp P a).bind fun a => (comp P b).map fun b => .cond c a b
  | .block id a => (comp P a).map (.block id)
  | .loop a => (comp P a).map .loop
  | .exit id => some (.exit id)
  | .ret => some .ret
  | _ => none

/-! ### what an operation does -/
def D.frozen : D → Bool
  | .un | .null | .nilm | .bool _ | .int .. | .str _ | .sl .. | .rp _ | .mf _ => true
  | _ => false
def getO (env : Nat → D) : Opd → D
  | .t n => env n
  | .c d => d
def D.cells : D → List D
  | .agg cs => cs
  | d => [d]
def D.one : D → Bool
  | .un | .agg _ | .tup _ | .mp _ => false
  | _ => true
def D.boxable : D → Bool
  | .un | .tup _ | .mp _ => false
  | _ => true
def putD (cs : List D) (off : Nat) : List D → List D
  | [] => cs
  | d :: l => putD (cs.set off d) (off + 1) l
def fillD (env : Nat → D) (cs : List D) : List (Nat × Nat × Opd) → Option (List D)
  | [] => some cs
  | (off, sz, x) :: rest =>
    if (getO env x).boxable = true ∧ (getO env x).cells.length = sz ∧ off + sz ≤ cs.length then fillD env (putD cs off (getO env x).cells) rest else none
def intBin (op : BinOp) (k : IntKind) (a b : Int) : Option D :=
  match op with
  | .add => some (.int k (k.wrap (a + b)))
  | .sub => some (.int k (k.wrap (a - b)))
  | .mul => some (.int k (k.wrap (a * b)))
  | .quo => if b = 0 then none else some (.int k (k.wrap (a.tdiv b)))
  | .rem => if b = 0 then none else some (.int k (a.tmod b))
  | .and => some (.int k (k.wrap (BitVec.ofInt k.bits a &&& BitVec.ofInt k.bits b).toNat))
  | .or => some (.int k (k.wrap (BitVec.ofInt k.bits a ||| BitVec.ofInt k.bits b).toNat))
  | .xor => some (.int k (k.wrap (BitVec.ofInt k.bits a ^^^ BitVec.ofInt k.bits b).toNat))
  | .andNot => some (.int k (k.wrap (BitVec.ofInt k.bits a &&& ~~~BitVec.ofInt k.bits b).toNat))
  | .eql => some (.bool (a == b))
  | .neq => some (.bool (a != b))
  | .lss => some (.bool (decide (a < b)))
  | .leq => some (.bool (decide (a ≤ b)))
  | .gtr => some (.bool (decide (a > b)))
  | .geq => some (.bool (decide (a ≥ b)))
  | _ => none
def shiftBin (op : BinOp) (k : IntKind) (a b : Int) : Option D :=
  if b < 0 then none else
  match op with
  | .shl => some (.int k (k.wrap (a * 2 ^ (min b.toNat k.bits))))
  | .shr => some (.int k (a.fdiv (2 ^ (min b.toNat k.bits))))
  | _ => none
def strBin (op : BinOp) (x y : ByteArray) : Option D :=
  match op with
  | .add => if ((x.size + y.size : Nat) : Int) > IntKind.i64.max then none else some (.str (x ++ y))
  | .eql => some (.bool (x.toList == y.toList))
  | .neq => some (.bool !(x.toList == y.toList))
  | .lss => some (.bool (Op.bytesLess x.toList y.toList))
  | .leq => some (.bool (Op.bytesLess x.toList y.toList || x.toList == y.toList))
  | .gtr => some (.bool !(Op.bytesLess x.toList y.toList || x.toList == y.toList))
  | .geq => some (.bool !(Op.bytesLess x.toList y.toList))
  | _ => none
def binD (op : BinOp) : D → D → Option D
  | .int k a, .int k' b => if op = .shl ∨ op = .shr then shiftBin op k a b else if k = k' then intBin op k a b else none
  | .str x, .str y => strBin op x y
  | _, _ => none
def bt (s : ByteArray) (i : Nat) : Int := ((s.data.getD i 0).toNat : Int)
def boundO (env : Nat → D) (d : Nat) : Option Opd → Option Int
  | none => some d
  | some x => match getO env x with
    | .int _ n => some n
    | _ => none
def rowD (H : Nat → Blk) (sz : Nat) : D → Option (Nat × List D × List Nat)
  | .nils => some (0, [], [])
  | .sl n cs => if cs.length = n * sz then some (n, cs, []) else none
  | .own b ver off n => match H b with
    | some (v, _, s, cs) => if v = ver ∧ s = sz ∧ off * sz + n * sz ≤ cs.length then some (n, (cs.drop (off * sz)).take (n * sz), [b]) else none
    | none => none
  | _ => none
def byD : List D → Option (List UInt8)
  | [] => some []
  | .int .u8 n :: l => match byD l with
    | some l => some (UInt8.ofNat n.toNat :: l)
    | none => none
  | _ => none
def eqInts : List D → List D → Option Bool
  | [], [] => some true
  | .int k a :: l, .int k' b :: m => if k = k' then (eqInts l m).map fun r => a == b && r else none
  | _, _ => none
def eqK : D → D → Option Bool
  | .str a, .str b => some (a == b)
  | .agg l, .agg m => eqInts l m
  | _, _ => none
def findD (k : D) : List D → Option (Option Nat)
  | [] => some none
  | k' :: _ :: l => match eqK k k' with
    | some true => some (some 0)
    | some false => (findD k l).map fun r => r.map (· + 1)
    | none => none
  | _ => none
def lookD (k : D) (kvs : List D) : Option (Option D) := (findD k kvs).bind fun
  | none => some none
  | some i => (kvs[2 * i + 1]?).map some
def putM (k x : D) (kvs : List D) : Option (List D) := (findD k kvs).map fun
  | none => kvs ++ [k, x]
  | some i => (kvs.set (2 * i) k).set (2 * i + 1) x
def D.key : Option Nat → D → Bool
  | none, .str _ => true
  | some n, .agg l => l.length == n && (eqInts l l).isSome
  | _, _ => false
def foundD (ok : Bool) (z : D) : Option D → D
  | some d => if ok then .tup [d, .bool true] else d
  | none => if ok then .tup [z, .bool false] else z
def eq1 : Nat → D → D → Option Bool
  | 0, .bool a, .bool b => some (a == b)
  | 1, .int k a, .int k' b => if k = k' then some (a == b) else none
  | 2, .str a, .str b => some (a == b)
  | _, _, _ => none
def eqAt : List (Nat × Nat) → List D → List D → Option Bool
  | [], _, _ => some true
  | (o, k) :: os, l, m => match l[o]?, m[o]? with
    | some a, some b => match eq1 k a b with
      | some r => (eqAt os l m).map fun s => r && s
      | none => none
    | _, _ => none
def nilD : Nat → D → Option Bool
  | 0, .null => some true
  | 0, .ptr .. | 0, .rp _ => some false
  | 1, .nils => some true
  | 1, .own _ _ _ (_ + 1) | 1, .sl (_ + 1) (_ :: _) => some false
  | 2, .nilm => some true
  | 2, .mo .. | 2, .mf _ => some false
  | _, _ => none
abbrev Eff := D × List (Nat × Blk) × List Nat
def stepF (env : Nat → D) (H : Nat → Blk) (nk : Nat) : IOp → Option Eff
  | .mv x => some (getO env x, [], [])
  | .pick c a b => match getO env c with
    | .bool t => some (if t then getO env a else getO env b, [], [])
    | _ => none
  | .new t sz z => some (.ptr nk 0 0, [(nk, some (0, t, sz, z))], [])
  | .box t sz x => if (getO env x).cells.length = sz ∧ (getO env x).boxable = true then some (.ptr nk 0 0, [(nk, some (0, t, sz, (getO env x).cells))], []) else none
  | .build z parts => (fillD env z parts).map fun cs => (.agg cs, [], [])
  | .lit t sz n z parts => (fillD env z parts).map fun cs => (.own nk 0 0 n, [(nk, some (0, t, sz, cs))], [])
  | .load ag sz x => match getO env x with
    | .ptr b ver off => match H b with
      | some (v, _, _, cs) => if v = ver then (if ag then (if off + sz ≤ cs.length then some (.agg ((cs.drop off).take sz), [], [b]) else none) else (cs[off]?).map fun d => (d, [], [b])) else none
      | none => none
    | .rp cs => if ag then (if sz ≤ cs.length then some (.agg (cs.take sz), [], []) else none) else (cs[0]?).map fun d => (d, [], [])
    | _ => none
  | .store sz x y => match getO env x with
    | .ptr b ver off => match H b with
      | some (v, t, s, cs) => if v = ver ∧ (getO env y).cells.length = sz ∧ off + sz ≤ cs.length ∧ (getO env y).cells.all D.one then some (.un, [(b, some (v, t, s, putD cs off (getO env y).cells))], [b]) else none
      | none => none
    | _ => none
  | .faddr off x => match getO env x with
    | .ptr b ver o => some (.ptr b ver (o + off), [], [])
    | .rp cs => some (.rp (cs.drop off), [], [])
    | _ => none
  | .fld ag off sz x => match getO env x with
    | .agg cs => if ag then (if off + sz ≤ cs.length then some (.agg ((cs.drop off).take sz), [], []) else none) else (cs[off]?).map fun d => (d, [], [])
    | _ => none
  | .iaddrS sz x i => match getO env x, getO env i with
    | .own b ver off n, .int _ k => match H b with
      | some (v, _, s, _) => if v = ver ∧ s = sz ∧ 0 ≤ k ∧ k < n then some (.ptr b ver ((off + k.toNat) * sz), [], [b]) else none
      | none => none
    | .sl n cs, .int _ k => if 0 ≤ k ∧ k < n ∧ k.toNat * sz < cs.length then some (.rp ((cs.drop (k.toNat * sz)).take sz), [], []) else none
    | _, _ => none
  | .iaddrA len sz x i => match getO env x, getO env i with
    | .ptr b ver off, .int _ k => if 0 ≤ k ∧ k < len then some (.ptr b ver (off + k.toNat * sz), [], []) else none
    | .rp cs, .int _ k => if 0 ≤ k ∧ k < len then some (.rp (cs.drop (k.toNat * sz)), [], []) else none
    | _, _ => none
  | .idxs x i => match getO env x, getO env i with
    | .str s, .int _ k => if 0 ≤ k ∧ k < s.size then some (.int .u8 (bt s k.toNat), [], []) else none
    | _, _ => none
  | .bin op x y => (binD op (getO env x) (getO env y)).map fun d => (d, [], [])
  | .beq ne x y => match getO env x, getO env y with
    | .bool a, .bool b => some (.bool (if ne then !(a == b) else a == b), [], [])
    | _, _ => none
  | .neg x => match getO env x with
    | .int k n => some (.int k (k.wrap (0 - n)), [], [])
    | _ => none
  | .not x => match getO env x with
    | .bool b => some (.bool !b, [], [])
    | _ => none
  | .conv k x => match getO env x with
    | .int _ n => some (.int k (k.wrap n), [], [])
    | _ => none
  | .slcS x lo hi => match getO env x with
    | .str s => (boundO env s.size hi).bind fun h => (boundO env 0 lo).bind fun l => if 0 ≤ l ∧ l ≤ h ∧ h ≤ s.size then some (.str (s.extract l.toNat h.toNat), [], []) else none
    | _ => none
  | .slcL sz x lo hi => match getO env x with
    | .own b ver off n => (match H b with | some (v, _, s, _) => if v = ver ∧ s = sz then some () else none | none => none).bind fun _ => (boundO env n hi).bind fun h => (boundO env 0 lo).bind fun l => if 0 ≤ l ∧ l ≤ h ∧ h ≤ n then some (.own b ver (off + l.toNat) (h - l).toNat, [], [b]) else none
    | .sl n cs => (boundO env n hi).bind fun h => (boundO env 0 lo).bind fun l => if 0 ≤ l ∧ l ≤ h ∧ h ≤ n then some (.sl (h - l).toNat ((cs.drop (l.toNat * sz)).take ((h - l).toNat * sz)), [], []) else none
    | .nils => (boundO env 0 hi).bind fun h => (boundO env 0 lo).bind fun l => if l = 0 ∧ h = 0 then some (.nils, [], []) else none
    | _ => none
  | .make t sz bytes z n => match getO env n with
    | .int .i64 k => if 0 ≤ k ∧ k ≤ 4611686018427387904 ∧ k.toNat * bytes ≤ 281474976710656 then some (.own nk 0 0 k.toNat, [(nk, some (0, t, sz, repD z k.toNat))], []) else none
    | _ => none
  | .app t sz bytes s x => match rowD H sz (getO env x) with
    | some (m, ds, rs) => match getO env s with
      | .nils => if m ≤ 4611686018427387904 ∧ m * bytes ≤ 140737488355328 ∧ ds.all D.one then some (.own nk 0 0 m, [(nk, some (0, t, sz, ds))], rs) else none
      | .own b ver 0 n => match H b with
        | some (v, t', s', cs) => if v = ver ∧ t' = t ∧ s' = sz ∧ cs.length = n * sz ∧ n + m ≤ 4611686018427387904 ∧ (n + m) * bytes ≤ 140737488355328 ∧ ds.all D.one ∧ rs.all (· != b) then some (.own b (ver + 1) 0 (n + m), [(b, some (ver + 1, t, sz, cs ++ ds))], b :: rs) else if v = ver ∧ t' = t ∧ s' = sz ∧ n = 0 ∧ m ≤ 4611686018427387904 ∧ m * bytes ≤ 140737488355328 ∧ ds.all D.one ∧ rs.all (· != b) then some (.own b (ver + 1) 0 m, [(b, some (ver + 1, t, sz, ds))], b :: rs) else none
        | none => none
      | _ => none
    | none => none
  | .appZ t sz bytes s x => match getO env s, getO env x with
    | .nils, .int _ k => if 0 < k ∧ k ≤ 4611686018427387904 ∧ k.toNat * bytes ≤ 281474976710656 then some (.own nk 0 0 k.toNat, [(nk, some (0, t, sz, []))], []) else none
    | _, _ => none
  | .lenS x => match getO env x with
    | .str s => some (.int .i64 s.size, [], [])
    | _ => none
  | .lenL x => match getO env x with
    | .sl n _ => some (.int .i64 n, [], [])
    | .own _ _ _ n => some (.int .i64 n, [], [])
    | .nils => some (.int .i64 0, [], [])
    | _ => none
  | .capL x => match getO env x with
    | .nils => some (.int .i64 0, [], [])
    | _ => none
  | .mx x y => match getO env x, getO env y with
    | .int k a, .int _ b => some (.int k (if b > a then b else a), [], [])
    | _, _ => none
  | .mn x y => match getO env x, getO env y with
    | .int k a, .int _ b => some (.int k (if b < a then b else a), [], [])
    | _, _ => none
  | .ext x i => match getO env x with
    | .tup vs => (vs[i]?).map fun d => (d, [], [])
    | _ => none
  | .nilck x => match getO env x with
    | .ptr b ver o => some (.ptr b ver o, [], [])
    | .rp cs => some (.rp cs, [], [])
    | _ => none
  | .bstr x => match rowD H 1 (getO env x) with
    | some (_, ds, rs) => match byD ds with
      | some l => some (.str ⟨⟨l⟩⟩, [], rs)
      | none => none
    | none => none
  | .idxA len sz ag x i => match getO env x, getO env i with
    | .agg cs, .int _ k => if 0 ≤ k ∧ k < len then (if ag then (if k.toNat * sz + sz ≤ cs.length then some (.agg ((cs.drop (k.toNat * sz)).take sz), [], []) else none) else (cs[k.toNat * sz]?).map fun d => (d, [], [])) else none
    | _, _ => none
  | .slcA n sz x => match getO env x with
    | .ptr b ver off => match H b with
      | some (v, _, _, cs) => if v = ver ∧ off + n * sz ≤ cs.length ∧ ((cs.drop off).take (n * sz)).all D.frozen then some (.sl n ((cs.drop off).take (n * sz)), [(b, none)], [b]) else none
      | none => none
    | .rp cs => if n * sz ≤ cs.length then some (.sl n (cs.take (n * sz)), [], []) else none
    | _ => none
  | .aeq n ne x y => match getO env x, getO env y with
    | .agg l, .agg m => if l.length = n then (eqInts l m).map fun r => (.bool (if ne then !r else r), [], []) else none
    | _, _ => none
  | .isnil ne k x => (nilD k (getO env x)).map fun r => (.bool (if ne then !r else r), [], [])
  | .seq os ne x y => match getO env x, getO env y with
    | .agg l, .agg m => (eqAt os l m).map fun r => (.bool (if ne then !r else r), [], [])
    | _, _ => none
  | .mkmap t => some (.mo nk 0, [(nk, some (0, t, 0, [.mp []]))], [])
  | .look kn ok z x k => if (getO env k).key kn then match getO env x with
    | .mo b ver => match H b with
      | some (v, _, _, [.mp kvs]) => if v = ver then (lookD (getO env k) kvs).map fun r => (foundD ok z r, [], [b]) else none
      | _ => none
    | .mf kvs => (lookD (getO env k) kvs).map fun r => (foundD ok z r, [], [])
    | .nilm => some (foundD ok z none, [], [])
    | _ => none else none
  | .mput kn x k y => match getO env x with
    | .mo b ver => match H b with
      | some (v, t, s, [.mp kvs]) => if v = ver ∧ (getO env k).key kn = true ∧ (getO env y).boxable = true then (putM (getO env k) (getO env y) kvs).map fun kvs => (.un, [(b, some (v, t, s, [.mp kvs]))], [b]) else none
      | _ => none
    | _ => none
  | .mkfn f cs => some (.fn f (cs.map (getO env)), [], [])
  | .call .. => none
  | .dcall .. => none
end Go.Proofs.YtgimaioeifnajaaGreatDoorK.AI
/-
  The abstract interpreter, part 3: the operations that leave memory alone do what stepF says.
-/
namespace Go.Proofs.YtgimaioeifnajaaGreatDoorK.AI
open Go.RowKit

def AOf (S : Nat → Prop) (R : Nat → Nat → Bnd) (H : Nat → Blk) (g : Nat) : Prop :=
  S g ∨ ∃ b ver t sz cs cap sz', H b = some (ver, t, sz, cs) ∧ R b ver = .at g cap sz'
structure HRel (R : Nat → Nat → Bnd) (S : Nat → Prop) (base : Nat → Prop) (w : World) (H : Nat → Blk) : Prop where
  blk : ∀ b, BlkRel R (AOf S R H) w base b (H b)
  vers : ∀ b ver t sz cs, H b = some (ver, t, sz, cs) → ∀ v', ver < v' → R b v' = .no
  inj : ∀ b b' ver ver' t t' sz sz' cs cs' g cap cap' s s', H b = some (ver, t, sz, cs) → H b' = some (ver', t', sz', cs') → R b ver = .at g cap s → R b' ver' = .at g cap' s' → b = b'
  ext : ∀ g, S g → base g
  bnd : ∀ b ver g cap sz, R b ver = .at g cap sz → g < w.heap.size
def updH (H : Nat → Blk) : List (Nat × Blk) → Nat → Blk
  | [] => H
  | (b, x) :: l => updH (fun c => if c = b then x else H c) l
structure Out (R : Nat → Nat → Bnd) (S : Nat → Prop) (base : Nat → Prop) (w : World) (H : Nat → Blk) (nk : Nat) (e : Eff) (R' : Nat → Nat → Bnd) (w' : World) (v : Value) : Prop where
  hrel : HRel R' S base w' (updH H e.2.1)
  rep : Rep R' (AOf S R' (updH H e.2.1)) w' v e.1
  keepR : ∀ b ver, R b ver ≠ .no → R' b ver = R b ver
  keepC : ∀ g, g < w.heap.size → ¬ AOf S R H g → ¬ AOf S R' (updH H e.2.1) g ∧ Same w w' g
  below : BelowK base w w'
  fresh : ∀ b, (∀ x, (b, x) ∉ e.2.1) → R' b = R b
theorem not_key {b b' : Nat} {y : Blk} (h : ∀ x, (b', x) ∉ [(b, y)]) : b' ≠ b := fun e => h y (by rw [e]; exact List.mem_singleton.2 rfl)
def Gives (P : Program) (R : Nat → Nat → Bnd) (S : Nat → Prop) (base : Nat → Prop) (w : World) (H : Nat → Blk) (nk : Nat) (s : Sem Next) (e : Eff) : Prop :=
  ∃ nx w' R' v, s.run P w = .ok nx w' ∧ (nx = .value v ∨ nx = .skip ∧ v = undef) ∧ Out R S base w H nk e R' w' v

section
variable {P : Program} {R : Nat → Nat → Bnd} {S : Nat → Prop} {base : Nat → Prop} {w : World} {H : Nat → Blk} {nk : Nat} {s : Sem Next}
theorem Gives.pure {v : Value} {d : D} {rs : List Nat} (hr : HRel R S base w H) (hs : s.run P w = .ok (.value v) w) (h : Rep R (AOf S R H) w v d) : Gives P R S base w H nk s (d, [], rs) :=
  ⟨_, w, R, v, hs, .inl rfl, hr, h, fun _ _ _ => rfl, fun g _ h => ⟨h, Same.refl _ g⟩, BelowK.refl _ _, fun _ _ => rfl⟩

def Opds (R : Nat → Nat → Bnd) (A : Nat → Prop) (w : World) (ρ : Operand → Value) (env : Nat → D) : Prop := ∀ x xo, compOpd x = some xo → Rep R A w (ρ x) (getO env xo)
variable {ρ : Operand → Value} {env : Nat → D}

theorem pure_mv {x : Operand} {xo : Opd} {o : Oper} (hr : HRel R S base w H) (hv : Opds R (AOf S R H) w ρ env) (ho : o.op = .move x ∨ o.op = .assign x) (hx : compOpd x = some xo) :
    Gives P R S base w H nk (execOp ρ o) (getO env xo, [], []) := by
  refine Gives.pure hr (v := ρ x) ?_ (hv x xo hx)
  rcases ho with ho | ho <;> simp [execOp, ho]
theorem pure_pick {c a b : Operand} {co ao bo : Opd} {o : Oper} {t : Bool} (hr : HRel R S base w H) (hv : Opds R (AOf S R H) w ρ env) (ho : o.op = .pick c a b)
    (hc : compOpd c = some co) (ha : compOpd a = some ao) (hb : compOpd b = some bo) (ht : getO env co = .bool t) :
    Gives P R S base w H nk (execOp ρ o) (if t then getO env ao else getO env bo, [], []) := by
  have h1 := hv c co hc
  rw [ht] at h1
  have h2 := h1.bool_inv
  refine Gives.pure hr (v := if t then ρ a else ρ b) ?_ ?_
  · simp [execOp, ho, h2, asBool]
  · cases t
    · exact hv b bo hb
    · exact hv a ao ha
theorem run_eqGuard_int {op : BinOp} {t : TypeId} {x y : Operand} {k k' : IntKind} {a b : Int} : (eqGuard op t x y (.int k a) (.int k' b)).run P w = .ok () w := by
  unfold eqGuard
  split <;> simp
theorem run_eqGuard_bool {op : BinOp} {t : TypeId} {x y : Operand} {a b : Bool} : (eqGuard op t x y (.bool a) (.bool b)).run P w = .ok () w := by
  unfold eqGuard
  split <;> simp
theorem run_eqGuard_str {op : BinOp} {t : TypeId} {x y : Operand} {a b : ByteArray} : (eqGuard op t x y (.string a) (.string b)).run P w = .ok () w := by
  unfold eqGuard
  split <;> simp
theorem run_equal_bool {t : TypeId} (h : P.underlying t = some .bool) (a b : Bool) : (Op.equal t (.bool a) (.bool b)).run P w = .ok (a == b) w := by
  unfold Op.equal
  rw [show Op.maxDepth = 9999 + 1 from rfl, Op.equalIn]
  simp [run_underlying h]
theorem pure_beq {ne : Bool} {t t' : TypeId} {x y : Operand} {xo yo : Opd} {o : Oper} {a b : Bool} (hr : HRel R S base w H) (hv : Opds R (AOf S R H) w ρ env) (ho : o.op = .binOp (if ne then .neq else .eql) t x y t')
    (hx : compOpd x = some xo) (hy : compOpd y = some yo) (hu : P.underlying t = some .bool) (hd : getO env xo = .bool a) (he : getO env yo = .bool b) :
    Gives P R S base w H nk (execOp ρ o) (.bool (if ne then !(a == b) else a == b), [], []) := by
  have h1 := hv x xo hx
  have h2 := hv y yo hy
  rw [hd] at h1
  rw [he] at h2
  refine Gives.pure hr ?_ (.imm (.bool _))
  cases ne <;> simp [execOp, ho, h1.bool_inv, h2.bool_inv, run_eqGuard_bool, binOp, run_equal_bool hu]
theorem pure_bin {op : BinOp} {t t' : TypeId} {x y : Operand} {xo yo : Opd} {o : Oper} {d : D} (hr : HRel R S base w H) (hv : Opds R (AOf S R H) w ρ env) (ho : o.op = .binOp op t x y t')
    (hx : compOpd x = some xo) (hy : compOpd y = some yo) (hd : binD op (getO env xo) (getO env yo) = some d) :
    Gives P R S base w H nk (execOp ρ o) (d, [], []) := by
  have h1 := hv x xo hx
  have h2 := hv y yo hy
  generalize getO env xo = dx at *
  generalize getO env yo = dy at *
  cases dx with
  | int k a =>
    cases dy with
    | int k' b =>
      have e1 := h1.int_inv
      have e2 := h2.int_inv
      by_cases hs : op = .shl ∨ op = .shr
      · simp only [binD, if_pos hs, shiftBin] at hd
        split at hd
        · cases hd
        · rename_i hneg
          rcases hs with rfl | rfl <;>
          · simp only [Option.some.injEq] at hd
            subst hd
            refine Gives.pure hr ?_ (.imm (.int _ _))
            simp [execOp, ho, e1, e2, run_eqGuard_int, binOp, Op.shift, hneg]
      · simp only [binD, if_neg hs] at hd
        split at hd
        case isFalse => cases hd
        rename_i hk
        subst hk
        have E : (execOp ρ o).run P w = ((binOp op t (.int k a) (.int k b)).run P w).andThen fun v w' => .ok (.value v) w' := by
          simp [execOp, ho, e1, e2, run_eqGuard_int]
        cases op
        case shl => exact absurd (.inl rfl) hs
        case shr => exact absurd (.inr rfl) hs
        case quo =>
          simp only [intBin] at hd
          split at hd
          · cases hd
          · rename_i hz
            cases hd
            refine Gives.pure hr ?_ (.imm (.int _ _))
            rw [E]
            simp only [binOp, Op.intDiv, ne_eq, not_true, if_false, if_neg hz]
            rfl
        case rem =>
          simp only [intBin] at hd
          split at hd
          · cases hd
          · rename_i hz
            cases hd
            refine Gives.pure hr ?_ (.imm (.int _ _))
            rw [E]
            simp only [binOp, Op.intDiv, ne_eq, not_true, if_false, if_neg hz]
            rfl
        all_goals
          simp only [intBin, Option.some.injEq] at hd
          subst hd
          refine Gives.pure hr ?_ (by first | exact .imm (.int _ _) | exact .imm (.bool _))
          rw [E]
          simp [binOp, Op.intArith, Op.intBits, Op.intCmp]
    | _ => simp [binD] at hd
  | str a =>
    cases dy with
    | str b =>
      have e1 := h1.str_inv
      have e2 := h2.str_inv
      have E : (execOp ρ o).run P w = ((binOp op t (.string a) (.string b)).run P w).andThen fun v w' => .ok (.value v) w' := by
        simp [execOp, ho, e1, e2, run_eqGuard_str]
      simp only [binD] at hd
      cases op
      case add =>
        simp only [strBin] at hd
        split at hd
        · cases hd
        · rename_i hle
          cases hd
          refine Gives.pure hr ?_ (.imm (.str _))
          rw [E]
          simp only [binOp, Op.stringOp, if_neg hle]
          rfl
      all_goals first | (simp only [strBin, reduceCtorEq] at hd; done) | skip
      all_goals
        simp only [strBin, Option.some.injEq] at hd
        subst hd
        refine Gives.pure hr ?_ (.imm (.bool _))
        rw [E]
        simp [binOp, Op.stringOp]
    | _ => simp [binD] at hd
  | _ => simp [binD] at hd
theorem pure_neg {t : TypeId} {x : Operand} {xo : Opd} {o : Oper} {k : IntKind} {n : Int} (hr : HRel R S base w H) (hv : Opds R (AOf S R H) w ρ env) (ho : o.op = .unOp .neg t x)
    (hx : compOpd x = some xo) (hd : getO env xo = .int k n) : Gives P R S base w H nk (execOp ρ o) (.int k (k.wrap (0 - n)), [], []) := by
  have h1 := hv x xo hx
  rw [hd] at h1
  exact Gives.pure hr (by simp [execOp, ho, h1.int_inv, Op.unary, Op.intArith]) (.imm (.int _ _))
theorem pure_not {t : TypeId} {x : Operand} {xo : Opd} {o : Oper} {b : Bool} (hr : HRel R S base w H) (hv : Opds R (AOf S R H) w ρ env) (ho : o.op = .unOp .not t x)
    (hx : compOpd x = some xo) (hd : getO env xo = .bool b) : Gives P R S base w H nk (execOp ρ o) (.bool !b, [], []) := by
  have h1 := hv x xo hx
  rw [hd] at h1
  exact Gives.pure hr (by simp [execOp, ho, h1.bool_inv, Op.unary]) (.imm (.bool _))
theorem pure_conv {t t' : TypeId} {x : Operand} {xo : Opd} {o : Oper} {k k0 k1 : IntKind} {n : Int} (hr : HRel R S base w H) (hv : Opds R (AOf S R H) w ρ env) (ho : o.op = .convert t t' x)
    (h0 : P.underlying t = some (.int k0)) (h1 : P.underlying t' = some (.int k)) (hx : compOpd x = some xo) (hd : getO env xo = .int k1 n) : Gives P R S base w H nk (execOp ρ o) (.int k (k.wrap n), [], []) := by
  have h2 := hv x xo hx
  rw [hd] at h2
  exact Gives.pure hr (by simp [execOp, ho, h2.int_inv, convert, run_underlying h0, run_underlying h1, Conv.intToInt]) (.imm (.int _ _))
theorem pure_ext {x : Operand} {xo : Opd} {o : Oper} {i : Nat} {vs : List D} {d : D} (hr : HRel R S base w H) (hv : Opds R (AOf S R H) w ρ env) (ho : o.op = .extract x i)
    (hx : compOpd x = some xo) (hd : getO env xo = .tup vs) (hi : vs[i]? = some d) : Gives P R S base w H nk (execOp ρ o) (d, [], []) := by
  have h1 := hv x xo hx
  rw [hd] at h1
  obtain ⟨us, e, hl, h⟩ := h1.tup_inv
  have hlt : i < us.size := by rw [hl]; exact (List.getElem?_eq_some_iff.1 hi).1
  refine Gives.pure hr (v := us.getD i undef) ?_ (h i d hi)
  simp [execOp, ho, e, Instr.extract, hlt, Array.getD]
theorem pure_nilck {x : Operand} {xo : Opd} {o : Oper} (hr : HRel R S base w H) (hv : Opds R (AOf S R H) w ρ env) (ho : o.op = .nilCheck x)
    (hx : compOpd x = some xo) (hd : (∃ b v o, getO env xo = .ptr b v o) ∨ ∃ cs, getO env xo = .rp cs) : Gives P R S base w H nk (execOp ρ o) (getO env xo, [], []) := by
  have h1 := hv x xo hx
  refine Gives.pure hr (v := ρ x) ?_ h1
  rcases hd with ⟨b, v, o', hd⟩ | ⟨cs, hd⟩
  · rw [hd] at h1
    obtain ⟨g, cap, sz, _, _, e⟩ := h1.ptr_inv
    simp [execOp, ho, e]
  · rw [hd] at h1
    obtain ⟨g, o', us, e, _⟩ := h1.rp_inv.rp_form
    simp [execOp, ho, e]
theorem pure_mx {o : Oper} {c : Call} {x y : Operand} {xo yo : Opd} {k k' : IntKind} {a b : Int} (hr : HRel R S base w H) (hv : Opds R (AOf S R H) w ρ env) (ho : o.op = .call c) (hc : c.callee = .builtin .max) (ha : c.args.toList = [x, y])
    (hx : compOpd x = some xo) (hy : compOpd y = some yo) (hd : getO env xo = .int k a) (he : getO env yo = .int k' b) : Gives P R S base w H nk (execOp ρ o) (.int k (if b > a then b else a), [], []) := by
  have h1 := hv x xo hx
  have h2 := hv y yo hy
  rw [hd] at h1
  rw [he] at h2
  have ha' : c.args = #[x, y] := by rw [← Array.toArray_toList (xs := c.args), ha]
  exact Gives.pure hr (by simp [execOp, ho, resolve, hc, ha', h1.int_inv, h2.int_inv, invoke, builtin, Builtin.max_, Builtin.max2]) (.imm (.int _ _))
theorem pure_mn {o : Oper} {c : Call} {x y : Operand} {xo yo : Opd} {k k' : IntKind} {a b : Int} (hr : HRel R S base w H) (hv : Opds R (AOf S R H) w ρ env) (ho : o.op = .call c) (hc : c.callee = .builtin .min) (ha : c.args.toList = [x, y])
    (hx : compOpd x = some xo) (hy : compOpd y = some yo) (hd : getO env xo = .int k a) (he : getO env yo = .int k' b) : Gives P R S base w H nk (execOp ρ o) (.int k (if b < a then b else a), [], []) := by
  have h1 := hv x xo hx
  have h2 := hv y yo hy
  rw [hd] at h1
  rw [he] at h2
  have ha' : c.args = #[x, y] := by rw [← Array.toArray_toList (xs := c.args), ha]
  exact Gives.pure hr (by simp [execOp, ho, resolve, hc, ha', h1.int_inv, h2.int_inv, invoke, builtin, Builtin.min_, Builtin.min2]) (.imm (.int _ _))
theorem pure_idxs {t : TypeId} {x i : Operand} {xo io : Opd} {o : Oper} {s : ByteArray} {k : IntKind} {n : Int} (hr : HRel R S base w H) (hv : Opds R (AOf S R H) w ρ env) (ho : o.op = .index t x i) (hu : P.underlying t = some .string)
    (hx : compOpd x = some xo) (hi : compOpd i = some io) (hd : getO env xo = .str s) (he : getO env io = .int k n) (h0 : 0 ≤ n) (h1 : n < s.size) : Gives P R S base w H nk (execOp ρ o) (.int .u8 (bt s n.toNat), [], []) := by
  have h2 := hv x xo hx
  have h3 := hv i io hi
  rw [hd] at h2
  rw [he] at h3
  have hlt : n.toNat < s.size := by omega
  have e : s[n.toNat]? = some (s[n.toNat]'hlt) := by simp [hlt]
  refine Gives.pure hr ?_ (.imm (.int _ _))
  have e2 : bt s n.toNat = ((s[n.toNat]'hlt).toNat : Int) := by
    unfold bt
    simp only [Array.getD]
    rw [dif_pos (show n.toNat < s.data.size from hlt)]
    rfl
  simp [execOp, ho, h2.str_inv, h3.int_inv, Instr.index, asIntOf, run_underlying hu, h0, e, e2]
end
end Go.Proofs.YtgimaioeifnajaaGreatDoorK.AI
/-
  The abstract interpreter, part 4: reading fields, elements, cells; cutting; building values.
-/
namespace Go.Proofs.YtgimaioeifnajaaGreatDoorK.AI
open Go.RowKit

section
variable {P : Program} {w : World}
theorem run_size {t : TypeId} {s : Nat} (h : sizeT P t = some s) : (sizeOf t).run P w = .ok s w := by
  unfold sizeT at h
  obtain ⟨i, hi, rfl⟩ := Option.map_eq_some_iff.1 h
  simp [sizeOf, typeInfo, hi]
theorem run_isAggT {t : TypeId} {b : Bool} (h : aggT P t = some b) : (isAgg t).run P w = .ok b w := by
  unfold aggT at h
  obtain ⟨d, hd, rfl⟩ := Option.map_eq_some_iff.1 h
  unfold isAgg
  simp only [Sem.run_bind, run_underlying hd, Result.andThen_ok]
  cases d <;> rfl
theorem run_part_agg {t : TypeId} {s off : Nat} {cs : Array Value} (ha : aggT P t = some true) (hs : sizeT P t = some s) : (part t cs off).run P w = .ok (.agg (cs.extract off (off + s))) w := by
  simp [part, run_isAggT ha, run_size hs]
theorem run_part_cell {t : TypeId} {off : Nat} {cs : Array Value} {v : Value} (ha : aggT P t = some false) (hv : cs[off]? = some v) : (part t cs off).run P w = .ok v w := by
  simp [part, run_isAggT ha, hv]
theorem add_off (g o i : Nat) : (⟨g, o, none⟩ : Addr).add i = ⟨g, o + i, none⟩ := by unfold Addr.add; split <;> simp_all
theorem run_cells {g o : Nat} {us : List Value} (h : ∀ j v, us[j]? = some v → cellv w g (o + j) = some v) : (loadCells ⟨g, o, none⟩ us.length).run P w = .ok us.toArray w :=
  run_loadCells_list w _ us (fun j v hj => by rw [add_off]; exact h j v hj)
theorem run_load_agg {t : TypeId} {g o : Nat} {us : List Value} (ha : aggT P t = some true) (hs : sizeT P t = some us.length) (h : ∀ j v, us[j]? = some v → cellv w g (o + j) = some v) :
    (loadVar t ⟨g, o, none⟩).run P w = .ok (.agg us.toArray) w := by
  simp [loadVar, run_isAggT ha, run_size hs, run_cells h]
theorem run_load_cell {t : TypeId} {g o : Nat} {v : Value} (ha : aggT P t = some false) (h : cellv w g o = some v) : (loadVar t ⟨g, o, none⟩).run P w = .ok v w := by
  unfold cellv at h
  simp [loadVar, run_isAggT ha, h]

variable {R : Nat → Nat → Bnd} {S : Nat → Prop} {base : Nat → Prop} {H : Nat → Blk} {nk : Nat} {ρ : Operand → Value} {env : Nat → D} {A : Nat → Prop}
theorem rep_agg_of {us : List Value} {cs : List D} (hl : us.length = cs.length) (h : ∀ j d, cs[j]? = some d → Rep R A w (us.getD j undef) d) : Rep R A w (.agg us.toArray) (.agg cs) :=
  .agg _ _ (by simpa using hl) (fun j d hj => by have := h j d hj; simpa [List.getD, Array.getD_eq_getD_getElem?] using this)
theorem getD_some {us : Array Value} {j : Nat} (hj : j < us.size) : us[j]? = some (us.getD j undef) := by simp [Array.getD, hj]

theorem pure_fld_agg {t : TypeId} {x : Operand} {xo : Opd} {o : Oper} {i s : Nat} {fs : Array Field} {f : Field} {cs : List D} (hr : HRel R S base w H) (hv : Opds R (AOf S R H) w ρ env) (ho : o.op = .field t x i)
    (hu : P.underlying t = some (.struct fs)) (hf : fs[i]? = some f) (hg : aggT P f.type = some true) (hs : sizeT P f.type = some s) (hx : compOpd x = some xo) (hd : getO env xo = .agg cs) (hl : f.offset + s ≤ cs.length) :
    Gives P R S base w H nk (execOp ρ o) (.agg ((cs.drop f.offset).take s), [], []) := by
  have h1 := hv x xo hx
  rw [hd] at h1
  obtain ⟨us, e, hsz, h⟩ := h1.agg_inv
  refine Gives.pure hr (v := .agg (us.extract f.offset (f.offset + s))) ?_ ?_
  · simp [execOp, ho, e, Instr.field, run_underlying hu, hf, asAgg, run_part_agg hg hs]
  · refine .agg _ _ (by simp; omega) (fun j d hj => ?_)
    rw [List.getElem?_take] at hj
    split at hj
    · rename_i hjs
      rw [List.getElem?_drop] at hj
      have := h _ _ hj
      have e2 : (us.extract f.offset (f.offset + s)).getD j undef = us.getD (f.offset + j) undef := by
        rw [Array.getD_eq_getD_getElem?, Array.getD_eq_getD_getElem?, Array.getElem?_extract, if_pos (by omega)]
      rw [e2]
      exact this
    · cases hj
theorem pure_fld_cell {t : TypeId} {x : Operand} {xo : Opd} {o : Oper} {i : Nat} {fs : Array Field} {f : Field} {cs : List D} {d : D} (hr : HRel R S base w H) (hv : Opds R (AOf S R H) w ρ env) (ho : o.op = .field t x i)
    (hu : P.underlying t = some (.struct fs)) (hf : fs[i]? = some f) (hg : aggT P f.type = some false) (hx : compOpd x = some xo) (hd : getO env xo = .agg cs) (hl : cs[f.offset]? = some d) :
    Gives P R S base w H nk (execOp ρ o) (d, [], []) := by
  have h1 := hv x xo hx
  rw [hd] at h1
  obtain ⟨us, e, hsz, h⟩ := h1.agg_inv
  have hlt : f.offset < us.size := by rw [hsz]; exact (List.getElem?_eq_some_iff.1 hl).1
  refine Gives.pure hr (v := us.getD f.offset undef) ?_ (h _ _ hl)
  simp [execOp, ho, e, Instr.field, run_underlying hu, hf, asAgg, run_part_cell hg (getD_some hlt)]

theorem rp_drop {g o : Nat} {us : Nat → Value} {cs : List D} {k : Nat} (hA : cs ≠ [] → ¬ A g) (hu : ∀ j d, cs[j]? = some d → cellv w g (o + j) = some (us j)) (h : ∀ j d, cs[j]? = some d → RepI A w (us j) d) :
    RepI A w (.pointer (some ⟨g, o + k, none⟩)) (.rp (cs.drop k)) := by
  refine .rp _ g (o + k) (fun j => us (k + j)) (fun hne => hA (fun e => hne (by simp [e]))) (fun j d hj => ?_) (fun j d hj => ?_)
  · rw [List.getElem?_drop] at hj
    rw [Nat.add_assoc]
    exact hu _ _ hj
  · rw [List.getElem?_drop] at hj
    exact h _ _ hj
theorem rp_take {g o : Nat} {us : Nat → Value} {cs : List D} {k : Nat} (hA : cs ≠ [] → ¬ A g) (hu : ∀ j d, cs[j]? = some d → cellv w g (o + j) = some (us j)) (h : ∀ j d, cs[j]? = some d → RepI A w (us j) d) :
    RepI A w (.pointer (some ⟨g, o, none⟩)) (.rp (cs.take k)) := by
  refine .rp _ g o us (fun hne => hA (fun e => hne (by simp [e]))) (fun j d hj => ?_) (fun j d hj => ?_)
  · rw [List.getElem?_take] at hj
    split at hj
    · exact hu _ _ hj
    · cases hj
  · rw [List.getElem?_take] at hj
    split at hj
    · exact h _ _ hj
    · cases hj
theorem run_fieldPlace {g o : Nat} {f : Field} {s : Nat} (hs : sizeT P f.type = some s) (h0 : s ≠ 0) : (fieldPlace ⟨g, o, none⟩ f).run P w = .ok ⟨g, o + f.offset, none⟩ w := by
  simp [fieldPlace, run_size hs, h0, add_off]
theorem pure_faddr {t : TypeId} {x : Operand} {xo : Opd} {o : Oper} {i s : Nat} {fs : Array Field} {f : Field} {d : D} (hr : HRel R S base w H) (hv : Opds R (AOf S R H) w ρ env) (ho : o.op = .fieldAddr t x i)
    (hu : P.underlying t = some (.struct fs)) (hf : fs[i]? = some f) (hs : sizeT P f.type = some s) (h0 : s ≠ 0) (hx : compOpd x = some xo)
    (hd : (∃ b v o, getO env xo = .ptr b v o ∧ d = .ptr b v (o + f.offset)) ∨ ∃ cs, getO env xo = .rp cs ∧ d = .rp (cs.drop f.offset)) :
    Gives P R S base w H nk (execOp ρ o) (d, [], []) := by
  have h1 := hv x xo hx
  rcases hd with ⟨b, v, o', hd, rfl⟩ | ⟨cs, hd, rfl⟩
  · rw [hd] at h1
    obtain ⟨g, cap, sz, hR, h0s, e⟩ := h1.ptr_inv
    refine Gives.pure hr ?_ (.ptr b v (o' + f.offset) g cap sz hR h0s)
    simp [execOp, ho, e, Instr.fieldAt, run_underlying hu, hf, Instr.sureAddr, run_fieldPlace hs h0]
  · rw [hd] at h1
    obtain ⟨g, o', us, e, hA, hc, h⟩ := h1.rp_inv.rp_form
    refine Gives.pure hr ?_ (.imm (rp_drop (k := f.offset) hA hc h))
    simp [execOp, ho, e, Instr.fieldAt, run_underlying hu, hf, Instr.sureAddr, run_fieldPlace hs h0]
theorem pure_iaddrA {t e : TypeId} {x y : Operand} {xo yo : Opd} {o : Oper} {n s : Nat} {k : IntKind} {i : Int} {d : D} (hr : HRel R S base w H) (hv : Opds R (AOf S R H) w ρ env) (ho : o.op = .indexAddr t x y)
    (hu : P.underlying t = some (.array n e)) (hs : sizeT P e = some s) (hx : compOpd x = some xo) (hy : compOpd y = some yo) (he : getO env yo = .int k i) (h0 : 0 ≤ i) (h1 : i < n)
    (hd : (∃ b v o, getO env xo = .ptr b v o ∧ d = .ptr b v (o + i.toNat * s)) ∨ ∃ cs, getO env xo = .rp cs ∧ d = .rp (cs.drop (i.toNat * s))) :
    Gives P R S base w H nk (execOp ρ o) (d, [], []) := by
  have h2 := hv x xo hx
  have h3 := hv y yo hy
  rw [he] at h3
  rcases hd with ⟨b, v, o', hd, rfl⟩ | ⟨cs, hd, rfl⟩
  · rw [hd] at h2
    obtain ⟨g, cap, sz, hR, h0s, e1⟩ := h2.ptr_inv
    refine Gives.pure hr ?_ (.ptr b v (o' + i.toNat * s) g cap sz hR h0s)
    simp [execOp, ho, e1, h3.int_inv, Instr.indexAt, asIntOf, run_underlying hu, Instr.sureAddr, h0, h1, run_size hs, add_off]
  · rw [hd] at h2
    obtain ⟨g, o', us, e1, hA, hc, h⟩ := h2.rp_inv.rp_form
    refine Gives.pure hr ?_ (.imm (rp_drop (k := i.toNat * s) hA hc h))
    simp [execOp, ho, e1, h3.int_inv, Instr.indexAt, asIntOf, run_underlying hu, Instr.sureAddr, h0, h1, run_size hs, add_off]
theorem pure_iaddrS_sl {t e : TypeId} {x y : Operand} {xo yo : Opd} {o : Oper} {n s : Nat} {k : IntKind} {i : Int} {cs : List D} (hr : HRel R S base w H) (hv : Opds R (AOf S R H) w ρ env) (ho : o.op = .indexAddr t x y)
    (hu : P.underlying t = some (.slice e)) (hs : sizeT P e = some s) (hx : compOpd x = some xo) (hy : compOpd y = some yo) (he : getO env yo = .int k i) (h0 : 0 ≤ i) (h1 : i < n) (hd : getO env xo = .sl n cs) (hl : i.toNat * s < cs.length) :
    Gives P R S base w H nk (execOp ρ o) (.rp ((cs.drop (i.toNat * s)).take s), [], []) := by
  have h2 := hv x xo hx
  have h3 := hv y yo hy
  rw [he] at h3
  rw [hd] at h2
  obtain ⟨a, c, g, o', us, e1, hn, hc, ha, hA, hcell, h⟩ := h2.sl_inv.sl_form
  have hne : cs ≠ [] := by rintro rfl; simp at hl
  have hq := rp_drop (k := i.toNat * s) hA hcell h
  obtain ⟨g', o2, us', e2, hA', hc', h'⟩ := hq.rp_form
  simp only [Value.pointer.injEq, Option.some.injEq, Addr.mk.injEq, and_true] at e2
  obtain ⟨rfl, rfl⟩ := e2
  refine Gives.pure hr ?_ (.imm (rp_take (k := s) hA' hc' h'))
  simp [execOp, ho, e1, ha hne, h3.int_inv, Instr.indexAt, asIntOf, run_underlying hu, h0, h1, run_size hs, add_off]
theorem pure_iaddrS_own {t e : TypeId} {x y : Operand} {xo yo : Opd} {o : Oper} {b ver off n : Nat} {k : IntKind} {i : Int} {t' s : Nat} {cs : List D} (hr : HRel R S base w H) (hv : Opds R (AOf S R H) w ρ env) (ho : o.op = .indexAddr t x y)
    (hu : P.underlying t = some (.slice e)) (hs : sizeT P e = some s) (hx : compOpd x = some xo) (hy : compOpd y = some yo) (he : getO env yo = .int k i) (h0 : 0 ≤ i) (h1 : i < n) (hd : getO env xo = .own b ver off n) (hH : H b = some (ver, t', s, cs)) :
    Gives P R S base w H nk (execOp ρ o) (.ptr b ver ((off + i.toNat) * s), [], [b]) := by
  have h2 := hv x xo hx
  have h3 := hv y yo hy
  rw [he] at h3
  rw [hd] at h2
  have hb := hr.blk b
  rw [hH] at hb
  rcases h2.own_inv with ⟨hR, rfl, rfl, e1⟩ | ⟨g, cap, sz, o', hR, h0s, ho', hn, e1⟩
  · omega
  · rcases hb with ⟨hR', _⟩ | ⟨g', cap', vs, hR', hb⟩ | ⟨g', es, c, kvs, hR', hb⟩
    · rw [hR] at hR'; cases hR'
    case inr.inr => rw [hR] at hR'; cases hR'; exact absurd rfl h0s
    · rw [hR] at hR'
      cases hR'
      have ho2 : o' = off * s := by
        rcases ho' with rfl | ⟨rfl, _⟩
        · rfl
        · omega
      refine Gives.pure hr ?_ (.ptr b ver ((off + i.toNat) * s) g cap s hR h0s)
      simp [execOp, ho, e1, h3.int_inv, Instr.indexAt, asIntOf, run_underlying hu, h0, h1, run_size hs, add_off, ho2, Nat.add_mul]
end
end Go.Proofs.YtgimaioeifnajaaGreatDoorK.AI
/-
  The abstract interpreter, part 5: loads, cuts, lengths, values that are built.
-/
namespace Go.Proofs.YtgimaioeifnajaaGreatDoorK.AI
open Go.RowKit

section
variable {P : Program} {R : Nat → Nat → Bnd} {S : Nat → Prop} {base : Nat → Prop} {w : World} {H : Nat → Blk} {nk : Nat} {ρ : Operand → Value} {env : Nat → D} {A : Nat → Prop}

theorem HRel.at (hr : HRel R S base w H) {b ver t sz g cap s : Nat} {cs : List D} (hH : H b = some (ver, t, sz, cs)) (hR : R b ver = .at g cap s) (h0 : s ≠ 0) :
    ∃ vs, s = sz ∧ ¬ base g ∧ w.heap[g]? = some (.cells vs t (0, 0)) ∧ vs.size = cap * sz ∧ cap ≤ maxLen ∧ cs.length ≤ vs.size ∧ ∀ j d, cs[j]? = some d → Rep R (AOf S R H) w (vs.getD j undef) d := by
  have hb := hr.blk b
  rw [hH] at hb
  rcases hb with ⟨hR', _⟩ | ⟨g', cap', vs, hR', h⟩ | ⟨g', es, c, kvs, hR', h⟩
  · rw [hR] at hR'; cases hR'
  · rw [hR] at hR'
    cases hR'
    exact ⟨vs, rfl, h⟩
  · rw [hR] at hR'
    cases hR'
    exact absurd rfl h0
theorem HRel.mapAt (hr : HRel R S base w H) {b ver t sz g cap s : Nat} {kvs : List D} (hH : H b = some (ver, t, sz, [.mp kvs])) (hR : R b ver = .at g cap s) :
    ∃ es c, cap = 0 ∧ s = 0 ∧ sz = 0 ∧ ¬ base g ∧ w.heap[g]? = some (.map es c) ∧ kvs.length = 2 * es.size ∧ ∀ j d, kvs[j]? = some d → Rep R (AOf S R H) w (kvv es j) d := by
  have hb := hr.blk b
  rw [hH] at hb
  rcases hb with ⟨hR', _⟩ | ⟨g', cap', vs, hR', _, _, _, _, _, h⟩ | ⟨g', es, c, kvs', hR', h1, h2, h3, h4, h5, h6⟩
  · rw [hR] at hR'; cases hR'
  · exact (h 0 _ rfl).mp_inv.elim
  · rw [hR] at hR'
    cases hR'
    cases h4
    exact ⟨es, c, rfl, rfl, h1, h2, h3, h5, h6⟩

theorem gives_load_ptr_cell {t : TypeId} {x : Operand} {xo : Opd} {o : Oper} {b ver off t' s' : Nat} {cs : List D} {d : D} (hr : HRel R S base w H) (hv : Opds R (AOf S R H) w ρ env) (ho : o.op = .load t x)
    (hg : aggT P t = some false) (hx : compOpd x = some xo) (hd : getO env xo = .ptr b ver off) (hH : H b = some (ver, t', s', cs)) (hc : cs[off]? = some d) :
    Gives P R S base w H nk (execOp ρ o) (d, [], [b]) := by
  have h1 := hv x xo hx
  rw [hd] at h1
  obtain ⟨g, cap, sz, hR, h0s, e⟩ := h1.ptr_inv
  obtain ⟨vs, _, _, hw, _, _, hl, h⟩ := hr.at hH hR h0s
  have hlt : off < vs.size := by have := (List.getElem?_eq_some_iff.1 hc).1; omega
  refine Gives.pure hr (v := vs.getD off undef) ?_ (h _ _ hc)
  have : cellv w g off = some (vs.getD off undef) := by rw [cellv_of_block hw, getD_some hlt]
  simp [execOp, ho, e, Instr.loadAt, Instr.sureAddr, run_load_cell hg this]
theorem gives_load_ptr_agg {t : TypeId} {x : Operand} {xo : Opd} {o : Oper} {b ver off t' s' s : Nat} {cs : List D} (hr : HRel R S base w H) (hv : Opds R (AOf S R H) w ρ env) (ho : o.op = .load t x)
    (hg : aggT P t = some true) (hs : sizeT P t = some s) (hx : compOpd x = some xo) (hd : getO env xo = .ptr b ver off) (hH : H b = some (ver, t', s', cs)) (hc : off + s ≤ cs.length) :
    Gives P R S base w H nk (execOp ρ o) (.agg ((cs.drop off).take s), [], [b]) := by
  have h1 := hv x xo hx
  rw [hd] at h1
  obtain ⟨g, cap, sz, hR, h0s, e⟩ := h1.ptr_inv
  obtain ⟨vs, _, _, hw, _, _, hl, h⟩ := hr.at hH hR h0s
  have hus : ((vs.toList.drop off).take s).length = s := by simp; omega
  have hcell : ∀ j v, ((vs.toList.drop off).take s)[j]? = some v → cellv w g (off + j) = some v := fun j v hj => by
    rw [List.getElem?_take] at hj
    split at hj
    · rw [List.getElem?_drop] at hj
      rw [cellv_of_block hw]
      simpa using hj
    · cases hj
  have hs' : sizeT P t = some ((vs.toList.drop off).take s).length := by rw [hus]; exact hs
  refine Gives.pure hr (v := .agg ((vs.toList.drop off).take s).toArray) ?_ (rep_agg_of (by simp; omega) (fun j d hj => ?_))
  · simp only [execOp, ho, e, Instr.loadAt, Instr.sureAddr, Sem.run_bind, Sem.run_pure, Result.andThen_ok, run_load_agg hg hs' hcell]
  · rw [List.getElem?_take] at hj
    split at hj
    · rename_i hjs
      rw [List.getElem?_drop] at hj
      have := h _ _ hj
      have e2 : ((vs.toList.drop off).take s).getD j undef = vs.getD (off + j) undef := by
        rw [List.getD_eq_getElem?_getD, List.getElem?_take, if_pos hjs, List.getElem?_drop, Array.getD_eq_getD_getElem?]
        simp
      rw [e2]
      exact this
    · cases hj
theorem gives_load_rp_cell {t : TypeId} {x : Operand} {xo : Opd} {o : Oper} {cs : List D} {d : D} (hr : HRel R S base w H) (hv : Opds R (AOf S R H) w ρ env) (ho : o.op = .load t x)
    (hg : aggT P t = some false) (hx : compOpd x = some xo) (hd : getO env xo = .rp cs) (hc : cs[0]? = some d) :
    Gives P R S base w H nk (execOp ρ o) (d, [], []) := by
  have h1 := hv x xo hx
  rw [hd] at h1
  obtain ⟨g, o', us, e, hA, hu, h⟩ := h1.rp_inv.rp_form
  refine Gives.pure hr (v := us 0) ?_ (.imm (h _ _ hc))
  have := hu _ _ hc
  rw [Nat.add_zero] at this
  simp [execOp, ho, e, Instr.loadAt, Instr.sureAddr, run_load_cell hg this]
theorem gives_load_rp_agg {t : TypeId} {x : Operand} {xo : Opd} {o : Oper} {s : Nat} {cs : List D} (hr : HRel R S base w H) (hv : Opds R (AOf S R H) w ρ env) (ho : o.op = .load t x)
    (hg : aggT P t = some true) (hs : sizeT P t = some s) (hx : compOpd x = some xo) (hd : getO env xo = .rp cs) (hc : s ≤ cs.length) :
    Gives P R S base w H nk (execOp ρ o) (.agg (cs.take s), [], []) := by
  have h1 := hv x xo hx
  rw [hd] at h1
  obtain ⟨g, o', us, e, hA, hu, h⟩ := h1.rp_inv.rp_form
  have hus : ((List.range s).map us).length = s := by simp
  have hcell : ∀ j v, ((List.range s).map us)[j]? = some v → cellv w g (o' + j) = some v := fun j v hj => by
    have hjs : j < s := by have := (List.getElem?_eq_some_iff.1 hj).1; simpa using this
    have hjc : j < cs.length := by omega
    have := hu j _ (List.getElem?_eq_getElem hjc)
    simp [hjs] at hj
    rw [this, hj]
  have hs' : sizeT P t = some ((List.range s).map us).length := by rw [hus]; exact hs
  refine Gives.pure hr (v := .agg ((List.range s).map us).toArray) ?_ (rep_agg_of (by simp; omega) (fun j d hj => ?_))
  · simp only [execOp, ho, e, Instr.loadAt, Instr.sureAddr, Sem.run_bind, Sem.run_pure, Result.andThen_ok, run_load_agg hg hs' hcell]
  · rw [List.getElem?_take] at hj
    split at hj
    · rename_i hjs
      have e2 : ((List.range s).map us).getD j undef = us j := by simp [hjs]
      rw [e2]
      exact .imm (h _ _ hj)
    · cases hj

/-! cuts -/
def compOpt (y : Option Operand) : Option (Option Opd) := match y with | none => some none | some y => (compOpd y).map some
theorem bound_val {A : Nat → Prop} {y : Option Operand} {yo : Option Opd} {dflt : Nat} {z : Int} (hv : Opds R A w ρ env) (hy : compOpt y = some yo) (hb : boundO env dflt yo = some z) :
    (y.map ρ = none ∧ z = dflt) ∨ ∃ k, y.map ρ = some (.int k z) := by
  cases y with
  | none =>
    simp [compOpt] at hy
    subst hy
    simp [boundO] at hb
    exact .inl ⟨rfl, hb.symm⟩
  | some y =>
    simp only [compOpt, Option.map_eq_some_iff] at hy
    obtain ⟨yo', hy, rfl⟩ := hy
    simp only [boundO] at hb
    split at hb
    · rename_i k n hd
      cases hb
      have := hv y yo' hy
      rw [hd] at this
      exact .inr ⟨k, by simp [this.int_inv]⟩
    · cases hb
theorem run_bounds {isS : Bool} {len cap : Nat} {lo hi : Option Value} {l h : Int} (hh : (hi = none ∧ h = len) ∨ ∃ k, hi = some (.int k h)) (hl : (lo = none ∧ l = (0 : Nat)) ∨ ∃ k, lo = some (.int k l))
    (h0 : 0 ≤ l) (h1 : l ≤ h) (h2 : h ≤ cap) : (Instr.sliceBounds isS len cap lo hi none).run P w = .ok (l.toNat, h.toNat, cap) w := by
  have h0h : 0 ≤ h := by omega
  have h1' : l ≤ (h.toNat : Int) := by omega
  rcases hh with ⟨rfl, rfl⟩ | ⟨kh, rfl⟩ <;> rcases hl with ⟨rfl, rfl⟩ | ⟨kl, rfl⟩ <;>
    simp_all [Instr.sliceBounds, Instr.sliceBound, asIntOf]
theorem gives_slcS {t : TypeId} {x : Operand} {lo hi : Option Operand} {xo : Opd} {loo hio : Option Opd} {o : Oper} {s : ByteArray} {l h : Int} (hr : HRel R S base w H) (hv : Opds R (AOf S R H) w ρ env) (ho : o.op = .slice t x lo hi none)
    (hu : P.underlying t = some .string) (hx : compOpd x = some xo) (hlo : compOpt lo = some loo) (hhi : compOpt hi = some hio) (hd : getO env xo = .str s) (hbh : boundO env s.size hio = some h) (hbl : boundO env 0 loo = some l)
    (h0 : 0 ≤ l) (h1 : l ≤ h) (h2 : h ≤ s.size) : Gives P R S base w H nk (execOp ρ o) (.str (s.extract l.toNat h.toNat), [], []) := by
  have e := hv x xo hx
  rw [hd] at e
  refine Gives.pure hr ?_ (.imm (.str _))
  have hb := run_bounds (P := P) (w := w) (isS := false) (bound_val hv hhi hbh) (bound_val hv hlo hbl) h0 h1 h2
  simp [execOp, ho, e.str_inv, Instr.sliceAt, Instr.slice, run_underlying hu, hb]
theorem gives_slcL_sl {t e : TypeId} {x : Operand} {lo hi : Option Operand} {xo : Opd} {loo hio : Option Opd} {o : Oper} {n s : Nat} {cs : List D} {l h : Int} (hr : HRel R S base w H) (hv : Opds R (AOf S R H) w ρ env) (ho : o.op = .slice t x lo hi none)
    (hu : P.underlying t = some (.slice e)) (hs : sizeT P e = some s) (hx : compOpd x = some xo) (hlo : compOpt lo = some loo) (hhi : compOpt hi = some hio) (hd : getO env xo = .sl n cs) (hbh : boundO env n hio = some h) (hbl : boundO env 0 loo = some l)
    (h0 : 0 ≤ l) (h1 : l ≤ h) (h2 : h ≤ n) : Gives P R S base w H nk (execOp ρ o) (.sl (h - l).toNat ((cs.drop (l.toNat * s)).take ((h - l).toNat * s)), [], []) := by
  have e1 := hv x xo hx
  rw [hd] at e1
  obtain ⟨a, c, g, o', us, e1, hn, hc, ha, hA, hcell, hrep⟩ := e1.sl_inv.sl_form
  have hb := run_bounds (P := P) (w := w) (isS := true) (len := n) (cap := c) (bound_val hv hhi hbh) (bound_val hv hlo hbl) h0 h1 (by omega)
  refine Gives.pure hr (v := .slice (if c = l.toNat then a else a.map (·.add (l.toNat * s))) (h.toNat - l.toNat) (c - l.toNat)) ?_ ?_
  · simp [execOp, ho, e1, Instr.sliceAt, Instr.slice, run_underlying hu, hb, run_size hs]
  · have e2 : h.toNat - l.toNat = (h - l).toNat := by omega
    rw [e2]
    refine .imm (.sl _ _ _ _ g (o' + l.toNat * s) (fun j => us (l.toNat * s + j)) (by omega) (by omega) (fun hne => ?_) (fun hne => hA (fun e => hne (by simp [e]))) (fun j d hj => ?_) (fun j d hj => ?_))
    · have hcs : cs ≠ [] := fun e => hne (by simp [e])
      rw [ha hcs]
      have : c ≠ l.toNat := by
        intro hcl
        have : (h - l).toNat = 0 := by omega
        rw [this] at hne
        simp at hne
      rw [if_neg this]
      simp [add_off]
    · rw [List.getElem?_take] at hj
      split at hj
      · rw [List.getElem?_drop] at hj
        rw [Nat.add_assoc]
        exact hcell _ _ hj
      · cases hj
    · rw [List.getElem?_take] at hj
      split at hj
      · rw [List.getElem?_drop] at hj
        exact hrep _ _ hj
      · cases hj
theorem gives_slcL_nils {t e : TypeId} {x : Operand} {lo hi : Option Operand} {xo : Opd} {loo hio : Option Opd} {o : Oper} {s : Nat} (hr : HRel R S base w H) (hv : Opds R (AOf S R H) w ρ env) (ho : o.op = .slice t x lo hi none)
    (hu : P.underlying t = some (.slice e)) (hs : sizeT P e = some s) (hx : compOpd x = some xo) (hlo : compOpt lo = some loo) (hhi : compOpt hi = some hio) (hd : getO env xo = .nils) (hbh : boundO env 0 hio = some 0) (hbl : boundO env 0 loo = some 0) :
    Gives P R S base w H nk (execOp ρ o) (.nils, [], []) := by
  have e1 := hv x xo hx
  rw [hd] at e1
  have hb := run_bounds (P := P) (w := w) (isS := true) (len := 0) (cap := 0) (bound_val hv hhi hbh) (bound_val hv hlo hbl) (by omega) (by omega) (by omega)
  refine Gives.pure hr (v := .slice none 0 0) ?_ (.imm .nils)
  simp [execOp, ho, e1.nils_inv, Instr.sliceAt, Instr.slice, run_underlying hu, hb, run_size hs]
theorem gives_slcL_own {t e : TypeId} {x : Operand} {lo hi : Option Operand} {xo : Opd} {loo hio : Option Opd} {o : Oper} {b ver off n t' s : Nat} {cs : List D} {l h : Int} (hr : HRel R S base w H) (hv : Opds R (AOf S R H) w ρ env) (ho : o.op = .slice t x lo hi none)
    (hu : P.underlying t = some (.slice e)) (hs : sizeT P e = some s) (hx : compOpd x = some xo) (hlo : compOpt lo = some loo) (hhi : compOpt hi = some hio) (hd : getO env xo = .own b ver off n) (hH : H b = some (ver, t', s, cs)) (hbh : boundO env n hio = some h) (hbl : boundO env 0 loo = some l)
    (h0 : 0 ≤ l) (h1 : l ≤ h) (h2 : h ≤ n) : Gives P R S base w H nk (execOp ρ o) (.own b ver (off + l.toNat) (h - l).toNat, [], [b]) := by
  have e1 := hv x xo hx
  rw [hd] at e1
  have e2 : h.toNat - l.toNat = (h - l).toNat := by omega
  rcases e1.own_inv with ⟨hR, rfl, rfl, ev⟩ | ⟨g, cap, sz, o', hR, h0s, ho', hn, ev⟩
  · have hl0 : l = 0 := by omega
    have hh0 : h = 0 := by omega
    have hb := run_bounds (P := P) (w := w) (isS := true) (len := 0) (cap := 0) (bound_val hv hhi hbh) (bound_val hv hlo hbl) h0 h1 (by omega)
    subst hl0 hh0
    refine Gives.pure hr (v := .slice none 0 0) ?_ (.ownn b ver hR)
    simp [execOp, ho, ev, Instr.sliceAt, Instr.slice, run_underlying hu, hb, run_size hs]
  · obtain ⟨vs, hsz, _⟩ := hr.at hH hR h0s
    subst hsz
    have hb := run_bounds (P := P) (w := w) (isS := true) (len := n) (cap := cap - off) (bound_val hv hhi hbh) (bound_val hv hlo hbl) h0 h1 (by omega)
    by_cases hm : cap - off = l.toNat
    · refine Gives.pure hr (v := .slice (some ⟨g, o', none⟩) (h - l).toNat (cap - (off + l.toNat))) ?_ (.own b ver _ _ g cap sz o' hR h0s ?_ (by omega))
      · rw [hm] at hb
        simp [execOp, ho, ev, Instr.sliceAt, Instr.slice, run_underlying hu, hb, run_size hs, hm]
        omega
      · by_cases h00 : off + l.toNat = 0
        · rcases ho' with ho' | ⟨_, ho'⟩
          · left
            have : off = 0 := by omega
            rw [h00, ho', this]
          · omega
        · exact .inr ⟨by omega, h00⟩
    · refine Gives.pure hr (v := .slice (some ⟨g, o' + l.toNat * sz, none⟩) (h - l).toNat (cap - (off + l.toNat))) ?_ (.own b ver _ _ g cap sz _ hR h0s (.inl ?_) (by omega))
      · simp [execOp, ho, ev, Instr.sliceAt, Instr.slice, run_underlying hu, hb, run_size hs, hm, add_off]
        exact ⟨by omega, by omega⟩
      · rcases ho' with rfl | ⟨rfl, _⟩
        · rw [Nat.add_mul]
        · omega
theorem gives_len {t : TypeId} {td : TypeDesc} {x : Operand} {xo : Opd} {o : Oper} {c : Call} {n : Int} (hr : HRel R S base w H) (hv : Opds R (AOf S R H) w ρ env) (ho : o.op = .call c) (hc : c.callee = .builtin .len) (ha : c.args.toList = [x]) (ht : c.argTypes[0]? = some t)
    (hu : P.underlying t = some td) (hx : compOpd x = some xo)
    (hd : (td = .string ∨ ∃ e, td = .slice e)) (hn : (∃ s, getO env xo = .str s ∧ n = s.size ∧ td = .string) ∨ (∃ m cs, getO env xo = .sl m cs ∧ n = m) ∨ (∃ b v f m, getO env xo = .own b v f m ∧ n = m) ∨ (getO env xo = .nils ∧ n = 0)) (hns : td = .string → ∃ s, getO env xo = .str s) :
    Gives P R S base w H nk (execOp ρ o) (.int .i64 n, [], []) := by
  have e1 := hv x xo hx
  have ha' : c.args = #[x] := by rw [← Array.toArray_toList (xs := c.args), ha]
  refine Gives.pure hr (v := .int .i64 n) ?_ (.imm (.int _ _))
  rcases hn with ⟨s, hs, rfl, rfl⟩ | ⟨m, cs, hs, rfl⟩ | ⟨b, v, f, m, hs, rfl⟩ | ⟨hs, rfl⟩
  · rw [hs] at e1
    simp [execOp, ho, resolve, hc, ha', e1.str_inv, invoke, builtin, Builtin.len_, ht, run_underlying hu, goInt]
  · rcases hd with rfl | ⟨e, rfl⟩
    · obtain ⟨s, h'⟩ := hns rfl; rw [hs] at h'; cases h'
    · rw [hs] at e1
      obtain ⟨a, c', g, o', us, ev, _⟩ := e1.sl_inv.sl_form
      simp [execOp, ho, resolve, hc, ha', ev, invoke, builtin, Builtin.len_, ht, run_underlying hu, goInt]
  · rcases hd with rfl | ⟨e, rfl⟩
    · obtain ⟨s, h'⟩ := hns rfl; rw [hs] at h'; cases h'
    · rw [hs] at e1
      rcases e1.own_inv with ⟨hR, rfl, rfl, ev⟩ | ⟨g, cap, sz, o', hR, h0s, ho', hn, ev⟩ <;>
        simp [execOp, ho, resolve, hc, ha', ev, invoke, builtin, Builtin.len_, ht, run_underlying hu, goInt]
  · rcases hd with rfl | ⟨e, rfl⟩
    · obtain ⟨s, h'⟩ := hns rfl; rw [hs] at h'; cases h'
    · rw [hs] at e1
      simp [execOp, ho, resolve, hc, ha', e1.nils_inv, invoke, builtin, Builtin.len_, ht, run_underlying hu, goInt]
theorem gives_cap {t e : TypeId} {x : Operand} {xo : Opd} {o : Oper} {c : Call} (hr : HRel R S base w H) (hv : Opds R (AOf S R H) w ρ env) (ho : o.op = .call c) (hc : c.callee = .builtin .cap) (ha : c.args.toList = [x]) (ht : c.argTypes[0]? = some t)
    (hu : P.underlying t = some (.slice e)) (hx : compOpd x = some xo) (hd : getO env xo = .nils) : Gives P R S base w H nk (execOp ρ o) (.int .i64 0, [], []) := by
  have e1 := hv x xo hx
  have ha' : c.args = #[x] := by rw [← Array.toArray_toList (xs := c.args), ha]
  rw [hd] at e1
  refine Gives.pure hr (v := .int .i64 0) ?_ (.imm (.int _ _))
  simp [execOp, ho, resolve, hc, ha', e1.nils_inv, invoke, builtin, Builtin.cap_, ht, run_underlying hu, goInt]
end
end Go.Proofs.YtgimaioeifnajaaGreatDoorK.AI
/-
  The abstract interpreter, part 6: one own block is made, written, or appended to.
-/
namespace Go.Proofs.YtgimaioeifnajaaGreatDoorK.AI
open Go.RowKit

def updB (H : Nat → Blk) (b0 : Nat) (x : Blk) : Nat → Blk := fun c => if c = b0 then x else H c
theorem updH_one (H : Nat → Blk) (b : Nat) (x : Blk) : updH H [(b, x)] = updB H b x := rfl
def Own0 (R : Nat → Nat → Bnd) (H : Nat → Blk) (b0 k : Nat) : Prop := ∃ ver t sz cs cap s, H b0 = some (ver, t, sz, cs) ∧ R b0 ver = .at k cap s

section
variable {P : Program} {R R' : Nat → Nat → Bnd} {S : Nat → Prop} {base : Nat → Prop} {w w' : World} {H : Nat → Blk} {nk : Nat} {ρ : Operand → Value} {env : Nat → D}
theorem Own0.a {b0 k : Nat} (h : Own0 R H b0 k) : AOf S R H k := by
  obtain ⟨ver, t, sz, cs, cap, s, h, h'⟩ := h
  exact .inr ⟨b0, ver, t, sz, cs, cap, s, h, h'⟩

theorem hrel_upd (hr : HRel R S base w H) {b0 ver t sz : Nat} {cs : List D} (hR : ∀ b v, R b v ≠ .no → R' b v = R b v) (hRo : ∀ b, b ≠ b0 → R' b = R b) (hv : ∀ v', ver < v' → R' b0 v' = .no)
    (hb0 : ∀ v g cap s, R' b0 v = .at g cap s → g < w'.heap.size)
    (hnew : (R' b0 ver = .nil ∧ cs = []) ∨ (∃ g cap vs, R' b0 ver = .at g cap sz ∧ ¬ base g ∧ w'.heap[g]? = some (.cells vs t (0, 0)) ∧ vs.size = cap * sz ∧ cap ≤ maxLen ∧ cs.length ≤ vs.size ∧
      (∀ j d, cs[j]? = some d → Rep R (AOf S R H) w (vs.getD j undef) d) ∧ (w.heap.size ≤ g ∨ Own0 R H b0 g)) ∨
      ∃ g es c kvs, R' b0 ver = .at g 0 0 ∧ sz = 0 ∧ ¬ base g ∧ w'.heap[g]? = some (.map es c) ∧ cs = [.mp kvs] ∧ kvs.length = 2 * es.size ∧ (∀ j d, kvs[j]? = some d → Rep R (AOf S R H) w (kvv es j) d) ∧ (w.heap.size ≤ g ∨ Own0 R H b0 g))
    (hsz : w.heap.size ≤ w'.heap.size) (hch : ∀ k, k < w.heap.size → ¬ Own0 R H b0 k → w'.heap[k]? = w.heap[k]?) :
    HRel R' S base w' (updB H b0 (some (ver, t, sz, cs))) ∧
      (∀ g, g < w.heap.size → ¬ AOf S R H g → ¬ AOf S R' (updB H b0 (some (ver, t, sz, cs))) g ∧ Same w w' g) := by
  have keep : ∀ g, g < w.heap.size → ¬ AOf S R H g → ¬ AOf S R' (updB H b0 (some (ver, t, sz, cs))) g ∧ Same w w' g := by
    intro g hg hA
    constructor
    · rintro (hS | ⟨b, v, t', s', cs', cap, s2, hb, hRb⟩)
      · exact hA (.inl hS)
      · unfold updB at hb
        split at hb
        · rename_i e
          subst e
          simp only [Option.some.injEq, Prod.mk.injEq] at hb
          obtain ⟨rfl, _⟩ := hb
          rcases hnew with ⟨hn, _⟩ | ⟨g', cap', vs, hR', _, _, _, _, _, _, hg'⟩ | ⟨g', es, c, kvs, hR', _, _, _, _, _, _, hg'⟩
          · rw [hn] at hRb; cases hRb
          all_goals
            rw [hR'] at hRb
            cases hRb
            rcases hg' with hg' | hg'
            · omega
            · exact hA hg'.a
        · rename_i hne
          rw [hRo b hne] at hRb
          exact hA (.inr ⟨b, v, t', s', cs', cap, s2, hb, hRb⟩)
    · exact Same.of_eq (hch g hg (fun h => hA h.a))
  refine ⟨⟨fun b => ?_, fun b v t' s' cs' hb v' hlt => ?_, ?_, hr.ext, fun b v g cap s hRb => ?_⟩, keep⟩
  · unfold updB
    split
    · rename_i e
      subst e
      rcases hnew with hn | ⟨g, cap, vs, h1, h2, h3, h4, h5, h6, h7, _⟩ | ⟨g, es, c, kvs, h1, h2, h3, h4, h5, h6, h7, _⟩
      · exact .inl hn
      · exact .inr (.inl ⟨g, cap, vs, h1, h2, h3, h4, h5, h6, fun j d hj => (h7 j d hj).mono hR keep⟩)
      · exact .inr (.inr ⟨g, es, c, kvs, h1, h2, h3, h4, h5, h6, fun j d hj => (h7 j d hj).mono hR keep⟩)
    · rename_i hne
      have hb := hr.blk b
      cases hH : H b with
      | none => exact trivial
      | some x =>
        obtain ⟨v, t', s', cs'⟩ := x
        rw [hH] at hb
        rcases hb with ⟨h1, h2⟩ | ⟨g, cap, vs, h1, h2, h3, h4, h5, h6, h7⟩ | ⟨g, es, c, kvs, h1, h2, h3, h4, h5, h6, h7⟩
        · exact .inl ⟨by rw [hRo b hne]; exact h1, h2⟩
        · refine .inr (.inl ⟨g, cap, vs, by rw [hRo b hne]; exact h1, h2, ?_, h4, h5, h6, fun j d hj => (h7 j d hj).mono hR keep⟩)
          have hlt := hr.bnd b v g cap s' h1
          rw [hch g hlt ?_]
          · exact h3
          · rintro ⟨v0, t0, s0, cs0, cap0, s1, hH0, hR0⟩
            exact hne (hr.inj b b0 v v0 t' t0 s' s0 cs' cs0 g cap cap0 s' s1 hH hH0 h1 hR0)
        · refine .inr (.inr ⟨g, es, c, kvs, by rw [hRo b hne]; exact h1, h2, h3, ?_, h5, h6, fun j d hj => (h7 j d hj).mono hR keep⟩)
          have hlt := hr.bnd b v g 0 0 h1
          rw [hch g hlt ?_]
          · exact h4
          · rintro ⟨v0, t0, s0, cs0, cap0, s1, hH0, hR0⟩
            exact hne (hr.inj b b0 v v0 t' t0 s' s0 cs' cs0 g 0 cap0 0 s1 hH hH0 h1 hR0)
  · unfold updB at hb
    split at hb
    · rename_i e
      subst e
      simp only [Option.some.injEq, Prod.mk.injEq] at hb
      obtain ⟨rfl, _⟩ := hb
      exact hv v' hlt
    · rename_i hne
      rw [hRo b hne]
      exact hr.vers b v t' s' cs' hb v' hlt
  · intro b b' v v' t1 t2 s1 s2 c1 c2 g cap cap' z z' hb hb' hRb hRb'
    have aux : ∀ b v t1 s1 c1 cap z, b ≠ b0 → updB H b0 (some (ver, t, sz, cs)) b = some (v, t1, s1, c1) → R' b v = .at g cap z → ∀ v' t2 s2 c2 cap' z', updB H b0 (some (ver, t, sz, cs)) b0 = some (v', t2, s2, c2) → R' b0 v' = .at g cap' z' → False := by
      intro b v t1 s1 c1 cap z hne hb hRb v' t2 s2 c2 cap' z' hb' hRb'
      unfold updB at hb hb'
      rw [if_neg hne] at hb
      rw [if_pos rfl] at hb'
      simp only [Option.some.injEq, Prod.mk.injEq] at hb'
      obtain ⟨rfl, _⟩ := hb'
      rw [hRo b hne] at hRb
      rcases hnew with ⟨hn, _⟩ | ⟨g', cap2, vs, h1, _, _, _, _, _, _, hg'⟩ | ⟨g', es, c, kvs, h1, _, _, _, _, _, _, hg'⟩
      · rw [hn] at hRb'; cases hRb'
      all_goals
        rw [h1] at hRb'
        cases hRb'
        rcases hg' with hg' | ⟨v0, t0, s0, cs0, cap0, s3, hH0, hR0⟩
        · have := hr.bnd _ _ _ _ _ hRb
          omega
        · exact hne (hr.inj _ _ _ _ _ _ _ _ _ _ _ _ _ _ _ hb hH0 hRb hR0)
    by_cases e : b = b0
    · by_cases e' : b' = b0
      · rw [e, e']
      · subst e
        exact (aux b' v' t2 s2 c2 cap' z' e' hb' hRb' v t1 s1 c1 cap z hb hRb).elim
    · by_cases e' : b' = b0
      · subst e'
        exact (aux b v t1 s1 c1 cap z e hb hRb v' t2 s2 c2 cap' z' hb' hRb').elim
      · unfold updB at hb hb'
        rw [if_neg e] at hb
        rw [if_neg e'] at hb'
        rw [hRo b e] at hRb
        rw [hRo b' e'] at hRb'
        exact hr.inj _ _ _ _ _ _ _ _ _ _ _ _ _ _ _ hb hb' hRb hRb'
  · by_cases e : b = b0
    · subst e; exact hb0 v g cap s hRb
    · rw [hRo b e] at hRb
      have := hr.bnd b v g cap s hRb
      omega

def bindR (R : Nat → Nat → Bnd) (b0 ver : Nat) (x : Bnd) : Nat → Nat → Bnd := fun b v => if b = b0 ∧ v = ver then x else R b v
theorem bindR_same {b0 ver : Nat} {x : Bnd} : bindR R b0 ver x b0 ver = x := by simp [bindR]
theorem bindR_other {b0 ver b v : Nat} {x : Bnd} (h : R b0 ver = .no) (hne : R b v ≠ .no) : bindR R b0 ver x b v = R b v := by
  unfold bindR
  rw [if_neg]
  rintro ⟨rfl, rfl⟩
  exact hne h
theorem bindR_key {b0 ver b : Nat} {x : Bnd} (h : b ≠ b0) : bindR R b0 ver x b = R b := by
  funext v
  simp [bindR, h]

theorem gives_new {s : Sem Next} {t sz cap : Nat} {vs : Array Value} {cs : List D} {v : Value} {d : D} {rs : List Nat} (hr : HRel R S base w H) (hf : ∀ v, R nk v = .no) (hH : H nk = none) (hbase : ∀ k, base k → k < w.heap.size)
    (hs : s.run P w = .ok (.value v) { w with heap := w.heap.push (.cells vs t) }) (hsz : vs.size = cap * sz) (hcap : cap ≤ maxLen) (hl : cs.length ≤ vs.size)
    (hc : ∀ j d, cs[j]? = some d → Rep R (AOf S R H) w (vs.getD j undef) d)
    (hd : ∀ R' A w', R' nk 0 = .at w.heap.size cap sz → Rep R' A w' v d) : Gives P R S base w H nk s (d, [(nk, some (0, t, sz, cs))], rs) := by
  have hno : ∀ k, ¬ Own0 R H nk k := by rintro k ⟨ver, t', sz', cs', cap', s', h, _⟩; rw [hH] at h; cases h
  have hR : ∀ b v, R b v ≠ .no → bindR R nk 0 (.at w.heap.size cap sz) b v = R b v := fun b v h => bindR_other (hf 0) h
  obtain ⟨h1, h2⟩ := hrel_upd (w' := { w with heap := w.heap.push (.cells vs t) }) (b0 := nk) (ver := 0) (t := t) (sz := sz) (cs := cs) hr hR (fun b h => bindR_key h)
    (fun v' h => by unfold bindR; rw [if_neg (by omega)]; exact hf v')
    (fun v g cap' s' h => by
      unfold bindR at h
      split at h
      · cases h; simp
      · rw [hf v] at h; cases h)
    (.inr (.inl ⟨w.heap.size, cap, vs, bindR_same, (fun h => Nat.lt_irrefl _ (hbase _ h)), by simp, hsz, hcap, hl, hc, .inl (Nat.le_refl _)⟩)) (by simp) (fun k hk _ => by simp [Array.getElem?_push, Nat.ne_of_lt hk])
  exact ⟨_, _, _, v, hs, .inl rfl, ⟨h1, hd _ _ _ bindR_same, hR, h2, (BelowK.refl base w).alloc hbase _, fun b hb => bindR_key (not_key hb)⟩⟩

theorem cells_boxable {v : Value} {d : D} {A : Nat → Prop} (h : Rep R A w v d) (hb : d.boxable = true) : v.cells.size = d.cells.length ∧ ∀ j x, d.cells[j]? = some x → Rep R A w (v.cells.getD j undef) x := by
  have single : ∀ v : Value, v.cells = #[v] → Rep R A w v d → (v.cells.size = [d].length ∧ ∀ j x, [d][j]? = some x → Rep R A w (v.cells.getD j undef) x) := by
    intro v hv h
    refine ⟨by simp [hv], fun j x hj => ?_⟩
    cases j with
    | zero => simp at hj; subst hj; simpa [hv] using h
    | succ j => simp at hj
  cases d with
  | un => simp [D.boxable] at hb
  | tup l => simp [D.boxable] at hb
  | agg cs =>
    obtain ⟨us, rfl, hl, h⟩ := h.agg_inv
    exact ⟨hl, h⟩
  | null => exact single v (by rw [h.null_inv]; rfl) h
  | nils => exact single v (by rw [h.nils_inv]; rfl) h
  | bool b => exact single v (by rw [h.bool_inv]; rfl) h
  | int k n => exact single v (by rw [h.int_inv]; rfl) h
  | str s => exact single v (by rw [h.str_inv]; rfl) h
  | sl n cs => obtain ⟨a, c, g, o, us, e, _⟩ := h.sl_inv.sl_form; exact single v (by rw [e]; rfl) h
  | rp cs => obtain ⟨g, o, us, e, _⟩ := h.rp_inv.rp_form; exact single v (by rw [e]; rfl) h
  | own b ver off n => rcases h.own_inv with ⟨_, _, _, e⟩ | ⟨g, cap, sz, o, _, _, _, _, e⟩ <;> exact single v (by rw [e]; rfl) h
  | ptr b ver off => obtain ⟨g, cap, sz, _, _, e⟩ := h.ptr_inv; exact single v (by rw [e]; rfl) h
  | nilm => exact single v (by rw [h.nilm_inv]; rfl) h
  | fn f cs => obtain ⟨vs, e, _⟩ := h.fn_inv; exact single v (by rw [e]; rfl) h
  | mp kvs => simp [D.boxable] at hb
  | mo b ver => obtain ⟨g, _, e⟩ := h.mo_inv; exact single v (by rw [e]; rfl) h
  | mf kvs => obtain ⟨g, es, c, e, _⟩ := h.mf_inv; exact single v (by rw [e]; rfl) h
theorem one_boxable {d : D} (h : d.one = true) : d.boxable = true := by cases d <;> simp_all [D.one, D.boxable]
theorem one_cells {d : D} (h : d.one = true) : d.cells = [d] := by cases d <;> simp_all [D.one, D.cells]
theorem rep_one {v : Value} {d : D} {A : Nat → Prop} (h : Rep R A w v d) (h1 : d.one = true) : v.oneCell' = true := by
  cases d with
  | un => simp [D.one] at h1
  | tup l => simp [D.one] at h1
  | agg cs => simp [D.one] at h1
  | null => rw [h.null_inv]; rfl
  | nils => rw [h.nils_inv]; rfl
  | bool b => rw [h.bool_inv]; rfl
  | int k n => rw [h.int_inv]; rfl
  | str s => rw [h.str_inv]; rfl
  | sl n cs => obtain ⟨a, c, g, o, us, e, _⟩ := h.sl_inv.sl_form; rw [e]; rfl
  | rp cs => obtain ⟨g, o, us, e, _⟩ := h.rp_inv.rp_form; rw [e]; rfl
  | own b ver off n => rcases h.own_inv with ⟨_, _, _, e⟩ | ⟨g, cap, sz, o, _, _, _, _, e⟩ <;> (rw [e]; rfl)
  | ptr b ver off => obtain ⟨g, cap, sz, _, _, e⟩ := h.ptr_inv; rw [e]; rfl
  | nilm => rw [h.nilm_inv]; rfl
  | fn f cs => obtain ⟨vs, e, _⟩ := h.fn_inv; rw [e]; rfl
  | mp kvs => simp [D.one] at h1
  | mo b ver => obtain ⟨g, _, e⟩ := h.mo_inv; rw [e]; rfl
  | mf kvs => obtain ⟨g, es, c, e, _⟩ := h.mf_inv; rw [e]; rfl

theorem gives_box {t : TypeId} {x : Operand} {xo : Opd} {o : Oper} {sz : Nat} (hr : HRel R S base w H) (hv : Opds R (AOf S R H) w ρ env) (hf : ∀ v, R nk v = .no) (hH : H nk = none) (hbase : ∀ k, base k → k < w.heap.size) (ho : o.op = .box t x)
    (hx : compOpd x = some xo) (hl : (getO env xo).cells.length = sz) (hb : (getO env xo).boxable = true) (h0 : sz ≠ 0) :
    Gives P R S base w H nk (execOp ρ o) (.ptr nk 0 0, [(nk, some (0, t, sz, (getO env xo).cells))], []) := by
  obtain ⟨h1, h2⟩ := cells_boxable (hv x xo hx) hb
  refine gives_new (cap := 1) (vs := (ρ x).cells) (v := .pointer (some ⟨w.heap.size, 0, none⟩)) hr hf hH hbase ?_ (by omega) (by simp [maxLen]) (by omega) h2 (fun R' A w' h => .ptr nk 0 0 _ _ _ h h0)
  simp [execOp, ho, Instr.box, newVar, newRow]

theorem constDs_get : ∀ {l : List Value} {z : List D}, constDs l = some z → l.length = z.length ∧ ∀ (j : Nat) (d : D), z[j]? = some d → ∃ v, l[j]? = some v ∧ constD1 v = some d
  | [], z, h => by simp [constDs] at h; subst h; simp
  | v :: l, z, h => by
    simp only [constDs, Option.bind_eq_some_iff, Option.some.injEq] at h
    obtain ⟨d, hd, r, hr, rfl⟩ := h
    obtain ⟨h1, h2⟩ := constDs_get hr
    refine ⟨by simp [h1], fun j x hj => ?_⟩
    cases j with
    | zero => simp at hj; subst hj; exact ⟨v, rfl, hd⟩
    | succ j => exact h2 j x (by simpa using hj)
theorem rep_const1 {v : Value} {d : D} {A : Nat → Prop} (h : constD1 v = some d) : RepI A w v d := by
  unfold constD1 at h
  split at h <;> (try simp only [Option.some.injEq, reduceCtorEq] at h) <;> (try subst h)
  · exact .bool _
  · exact .int _ _
  · exact .str _
  · exact .null
  · exact .nils
  · exact .nilm
  · rename_i f first captured
    split at h
    · rename_i hc
      cases h
      obtain ⟨h1, h2⟩ := hc
      have e1 : first = #[] := Array.eq_empty_of_size_eq_zero h1
      have e2 : captured = #[] := Array.eq_empty_of_size_eq_zero h2
      subst e1 e2
      exact .fn f #[] [] rfl (fun j d hj => by simp at hj)
    · cases h
theorem rep_constDs {l : List Value} {z : List D} {A : Nat → Prop} (h : constDs l = some z) : ∀ j d, z[j]? = some d → Rep R A w (l.getD j undef) d := fun j d hj => by
  obtain ⟨v, hv, hd⟩ := (constDs_get h).2 j d hj
  rw [List.getD_eq_getElem?_getD, hv]
  exact .imm (rep_const1 hd)
theorem rep_const {v : Value} {d : D} {A : Nat → Prop} (h : constD v = some d) : Rep R A w v d := by
  unfold constD at h
  split at h
  · rename_i cs
    obtain ⟨z, hz, rfl⟩ := Option.map_eq_some_iff.1 h
    have := rep_agg_of (R := R) (w := w) (A := A) (constDs_get hz).1 (rep_constDs hz)
    simpa using this
  · exact .imm (rep_const1 h)
theorem zeroT_some {t : TypeId} {z : List D} (h : zeroT P t = some z) : ∃ i v, P.info? t = some i ∧ i.zero = some v ∧ constDs v.cells.toList = some z := by
  unfold zeroT at h
  obtain ⟨v, hv, hz⟩ := Option.bind_eq_some_iff.1 h
  obtain ⟨i, hi, hv⟩ := Option.bind_eq_some_iff.1 hv
  exact ⟨i, v, hi, hv, hz⟩
theorem run_zero {t : TypeId} {i : TypeInfo} {v : Value} (hi : P.info? t = some i) (hv : i.zero = some v) : (zeroValue t).run P w = .ok v w := by
  simp [zeroValue, typeInfo, hi, hv]
theorem gives_alloc {t : TypeId} {o : Oper} {z : List D} (hr : HRel R S base w H) (hf : ∀ v, R nk v = .no) (hH : H nk = none) (hbase : ∀ k, base k → k < w.heap.size) (ho : o.op = .alloc t) (hz : zeroT P t = some z) (h0 : z.length ≠ 0) :
    Gives P R S base w H nk (execOp ρ o) (.ptr nk 0 0, [(nk, some (0, t, z.length, z))], []) := by
  obtain ⟨i, v, hi, hv, hd⟩ := zeroT_some hz
  have hl := (constDs_get hd).1
  refine gives_new (cap := 1) (vs := v.cells) (v := .pointer (some ⟨w.heap.size, 0, none⟩)) hr hf hH hbase ?_ (by simp only [Array.length_toList] at hl; omega) (by simp [maxLen]) (by simp only [Array.length_toList] at hl; omega) (fun j d hj => ?_) (fun R' A w' h => .ptr nk 0 0 _ _ _ h h0)
  · simp [execOp, ho, Instr.alloc, run_zero hi hv, newVar, newRow]
  · have := rep_constDs (R := R) (A := AOf S R H) (w := w) hd j d hj
    simpa [List.getD, Array.getD_eq_getD_getElem?] using this
end
end Go.Proofs.YtgimaioeifnajaaGreatDoorK.AI
/-
  The abstract interpreter, part 7: composite values, stores, make, append.
-/
namespace Go.Proofs.YtgimaioeifnajaaGreatDoorK.AI
open Go.RowKit

theorem putD_length : ∀ (ds cs : List D) (off : Nat), (putD cs off ds).length = cs.length
  | [], _, _ => rfl
  | d :: l, cs, off => by rw [putD, putD_length l]; simp
theorem putD_get : ∀ (ds cs : List D) (off : Nat), off + ds.length ≤ cs.length → ∀ (j : Nat), (putD cs off ds)[j]? = if off ≤ j ∧ j < off + ds.length then ds[j - off]? else cs[j]?
  | [], cs, off, _, j => by
    rw [putD, if_neg (by rintro ⟨_, h2⟩; simp at h2; omega)]
  | d :: l, cs, off, h, j => by
    simp only [List.length_cons] at h
    rw [putD, putD_get l (cs.set off d) (off + 1) (by simp; omega) j]
    by_cases h1 : off + 1 ≤ j ∧ j < off + 1 + l.length
    · rw [if_pos h1, if_pos (by simp; omega), show j - off = (j - (off + 1)) + 1 by omega, List.getElem?_cons_succ]
    · rw [if_neg h1]
      by_cases h2 : j = off
      · subst h2
        rw [if_pos (by simp), List.getElem?_set_self (by omega), Nat.sub_self]
        rfl
      · rw [if_neg (by simp; omega), List.getElem?_set_ne (by omega)]
theorem fold_size (off : Nat) : ∀ (l : List (Value × Nat)) (cs : Array Value), (l.foldl (fun cs (p : Value × Nat) => cs.setIfInBounds (off + p.2) p.1) cs).size = cs.size
  | [], _ => rfl
  | p :: l, cs => by rw [List.foldl_cons, fold_size off l]; simp
theorem fold_get (off : Nat) : ∀ (l : List Value) (k : Nat) (cs : Array Value), off + k + l.length ≤ cs.size → ∀ (j : Nat),
    ((l.zipIdx k).foldl (fun cs (p : Value × Nat) => cs.setIfInBounds (off + p.2) p.1) cs)[j]? = if off + k ≤ j ∧ j < off + k + l.length then l[j - (off + k)]? else cs[j]?
  | [], k, cs, _, j => by
    simp only [List.zipIdx_nil, List.foldl_nil, List.length_nil]
    rw [if_neg (by omega)]
  | v :: l, k, cs, h, j => by
    simp only [List.length_cons] at h
    rw [List.zipIdx_cons, List.foldl_cons, fold_get off l (k + 1) _ (by simp; omega) j]
    by_cases h1 : off + (k + 1) ≤ j ∧ j < off + (k + 1) + l.length
    · rw [if_pos h1, if_pos (by simp only [List.length_cons]; omega), show j - (off + k) = (j - (off + (k + 1))) + 1 by omega, List.getElem?_cons_succ]
    · rw [if_neg h1]
      by_cases h2 : j = off + k
      · subst h2
        rw [if_pos (by simp only [List.length_cons]; omega), Nat.sub_self, Array.getElem?_setIfInBounds_self, if_pos (by omega)]
        rfl
      · rw [if_neg (by simp only [List.length_cons]; omega), Array.getElem?_setIfInBounds_ne (by omega)]

section
variable {P : Program} {R R' : Nat → Nat → Bnd} {S : Nat → Prop} {base : Nat → Prop} {w w' : World} {H : Nat → Blk} {nk : Nat} {ρ : Operand → Value} {env : Nat → D} {A : Nat → Prop}

def Cells (R : Nat → Nat → Bnd) (A : Nat → Prop) (w : World) (vs : Array Value) (cs : List D) : Prop := vs.size = cs.length ∧ ∀ j d, cs[j]? = some d → Rep R A w (vs.getD j undef) d
theorem Cells.put {vs us : Array Value} {cs ds : List D} {off : Nat} (h : Cells R A w vs cs) (k : Cells R A w us ds) (hl : off + ds.length ≤ cs.length) :
    Cells R A w (us.toList.zipIdx.foldl (fun cs (p : Value × Nat) => cs.setIfInBounds (off + p.2) p.1) vs) (putD cs off ds) := by
  refine ⟨by rw [fold_size, putD_length]; exact h.1, fun j d hj => ?_⟩
  have hul : us.toList.length = ds.length := by rw [Array.length_toList]; exact k.1
  rw [putD_get ds cs off hl j] at hj
  have hg := fold_get off us.toList 0 vs (by rw [hul, h.1]; omega) j
  simp only [Nat.add_zero] at hg
  rw [hul] at hg
  split at hj
  · rename_i hc
    rw [if_pos hc] at hg
    have := k.2 _ _ hj
    rw [Array.getD_eq_getD_getElem?, hg]
    rw [Array.getD_eq_getD_getElem?] at this
    simpa using this
  · rename_i hc
    rw [if_neg hc] at hg
    rw [Array.getD_eq_getD_getElem?, hg, ← Array.getD_eq_getD_getElem?]
    exact h.2 _ _ hj
theorem fillD_ok {place : Nat → Option (Nat × Nat)} (hv : Opds R A w ρ env) : ∀ (parts : List (Nat × Operand)) (ps : List (Nat × Nat × Opd)) (vs : Array Value) (cs cs' : List D), compParts place parts = some ps → Cells R A w vs cs → fillD env cs ps = some cs' → ∃ vs', Instr.fill place vs (parts.map fun p => (p.1, ρ p.2)) = some vs' ∧ Cells R A w vs' cs'
  | [], ps, vs, cs, cs', hp, hc, hf => by
    simp [compParts] at hp
    subst hp
    simp [fillD] at hf
    subst hf
    exact ⟨vs, rfl, hc⟩
  | (i, x) :: l, ps, vs, cs, cs', hp, hc, hf => by
    simp only [compParts, Option.bind_eq_some_iff, Option.some.injEq] at hp
    obtain ⟨⟨off, sz⟩, hpl, xo, hx, r, hr, rfl⟩ := hp
    simp only [fillD] at hf
    split at hf
    · rename_i hcond
      obtain ⟨hb, hsz, hle⟩ := hcond
      obtain ⟨k1, k2⟩ := cells_boxable (hv x xo hx) hb
      have hput := hc.put (us := (ρ x).cells) (ds := (getO env xo).cells) (off := off) ⟨k1, k2⟩ (by omega)
      obtain ⟨vs', e, h'⟩ := fillD_ok hv l r _ _ cs' hr hput hf
      refine ⟨vs', ?_, h'⟩
      rw [List.map_cons, Instr.fill, hpl]
      simp only
      rw [if_neg (by rw [hc.1]; simp; omega), ← e]
      congr 1
      rw [← Array.foldl_toList, Array.toList_zipIdx]
    · cases hf
theorem parts_map {ρ : Operand → Value} (parts : Array (Nat × Operand)) : (parts.map fun (i, x) => (i, ρ x)).toList = parts.toList.map fun p => (p.1, ρ p.2) := by
  rw [Array.toList_map]
theorem built_struct {t : TypeId} {fs : Array Field} {it : TypeInfo} {z : Value} {places : List (Nat × Nat)} {parts : List (Nat × Value)} (hi : P.info? t = some it) (hu : P.underlying t = some (.struct fs)) (hz : it.zero = some z)
    (hp : fs.toList.mapM (fun f => (P.info? f.type).map fun i => (f.offset, i.size)) = some places) : P.built t parts = Instr.fill (places.toArray[·]?) z.cells parts := by
  unfold Program.built
  simp only [hi, hu, hz, hp]
theorem built_array {t e : TypeId} {n : Nat} {it ie : TypeInfo} {z : Value} {parts : List (Nat × Value)} (hi : P.info? t = some it) (hu : P.underlying t = some (.array n e)) (hz : it.zero = some z)
    (hp : P.info? e = some ie) : P.built t parts = Instr.fill (fun i => some (i * ie.size, ie.size)) z.cells parts := by
  unfold Program.built
  simp only [hi, hu, hz, hp]
theorem cells_zero {v : Value} {z : List D} (h : constDs v.cells.toList = some z) : Cells R A w v.cells z :=
  ⟨by have := (constDs_get h).1; simpa using this, fun j d hj => by have := rep_constDs (R := R) (A := A) (w := w) h j d hj; simpa [List.getD, Array.getD_eq_getD_getElem?] using this⟩
theorem gives_build_struct {t : TypeId} {fs : Array Field} {o : Oper} {places : List (Nat × Nat)} {parts : Array (Nat × Operand)} {ps : List (Nat × Nat × Opd)} {z cs : List D} (hr : HRel R S base w H) (hv : Opds R (AOf S R H) w ρ env) (ho : o.op = .build t parts)
    (hu : P.underlying t = some (.struct fs)) (hz : zeroT P t = some z) (hpl : fs.toList.mapM (fun f => (P.info? f.type).map fun i => (f.offset, i.size)) = some places) (hp : compParts (places.toArray[·]?) parts.toList = some ps) (hf : fillD env z ps = some cs) :
    Gives P R S base w H nk (execOp ρ o) (.agg cs, [], []) := by
  obtain ⟨it, v, hi, hzv, hd⟩ := zeroT_some hz
  obtain ⟨vs, he, hc⟩ := fillD_ok hv _ _ _ _ _ hp (cells_zero hd) hf
  refine Gives.pure hr (v := .agg vs) ?_ (.agg _ _ hc.1 hc.2)
  have hb := run_build (P := P) w t (parts.map fun (i, x) => (i, ρ x)) vs (by rw [parts_map, built_struct hi hu hzv hpl]; exact he)
  simp only [execOp, ho, Sem.run_bind, hb, Result.andThen_ok, Sem.run_pure]
theorem gives_build_array {t e : TypeId} {n s : Nat} {o : Oper} {parts : Array (Nat × Operand)} {ps : List (Nat × Nat × Opd)} {z cs : List D} (hr : HRel R S base w H) (hv : Opds R (AOf S R H) w ρ env) (ho : o.op = .build t parts)
    (hu : P.underlying t = some (.array n e)) (hz : zeroT P t = some z) (hs : sizeT P e = some s) (hp : compParts (fun i => some (i * s, s)) parts.toList = some ps) (hf : fillD env z ps = some cs) :
    Gives P R S base w H nk (execOp ρ o) (.agg cs, [], []) := by
  obtain ⟨it, v, hi, hzv, hd⟩ := zeroT_some hz
  unfold sizeT at hs
  obtain ⟨ie, hie, rfl⟩ := Option.map_eq_some_iff.1 hs
  obtain ⟨vs, he, hc⟩ := fillD_ok hv _ _ _ _ _ hp (cells_zero hd) hf
  refine Gives.pure hr (v := .agg vs) ?_ (.agg _ _ hc.1 hc.2)
  have hb := run_build (P := P) w t (parts.map fun (i, x) => (i, ρ x)) vs (by rw [parts_map, built_array hi hu hzv hie]; exact he)
  simp only [execOp, ho, Sem.run_bind, hb, Result.andThen_ok, Sem.run_pure]

theorem repD_length (z : List D) : ∀ n, (repD z n).length = n * z.length
  | 0 => by simp [repD]
  | n + 1 => by rw [repD, List.length_append, repD_length z n, Nat.succ_mul]; omega
theorem repD_get (z : List D) (hz : 0 < z.length) : ∀ (n j : Nat), j < n * z.length → (repD z n)[j]? = z[j % z.length]?
  | 0, j, h => by simp at h
  | n + 1, j, h => by
    rw [repD]
    by_cases hj : j < z.length
    · rw [List.getElem?_append_left hj, Nat.mod_eq_of_lt hj]
    · rw [Nat.succ_mul] at h
      rw [List.getElem?_append_right (by omega), repD_get z hz n (j - z.length) (by omega), ← Nat.mod_eq_sub_mod (by omega)]
theorem cells_rep {v : Value} {z : List D} (h : constDs v.cells.toList = some z) (hz : 0 < z.length) (n : Nat) : Cells R A w ((Array.range (n * z.length)).map (v.cells[· % v.cells.size]!)) (repD z n) := by
  have hc := cells_zero (R := R) (A := A) (w := w) h
  refine ⟨by rw [repD_length]; simp, fun j d hj => ?_⟩
  have hlt : j < n * z.length := by have := (List.getElem?_eq_some_iff.1 hj).1; rwa [repD_length] at this
  rw [repD_get z hz n j hlt] at hj
  have := hc.2 _ _ hj
  have e : ((Array.range (n * z.length)).map (v.cells[· % v.cells.size]!)).getD j undef = v.cells.getD (j % z.length) undef := by
    have hm : j % z.length < v.cells.size := by rw [hc.1]; exact Nat.mod_lt _ hz
    simp [Array.getD, hlt, hc.1]
    rw [dif_pos (Nat.mod_lt _ hz)]
    exact getElem!_pos v.cells _ hm
  rw [e]
  exact this
theorem own_new {n sz g : Nat} {R' : Nat → Nat → Bnd} {w' : World} (h : R' nk 0 = .at g n sz) (h0 : sz ≠ 0) : Rep R' A w' (.slice (some ⟨g, 0, none⟩) n n) (.own nk 0 0 n) := by
  have := Rep.own (R := R') (A := A) (w := w') nk 0 0 n g n sz 0 h h0 (.inl (by simp)) (by omega)
  simpa using this
theorem gives_lit {t e : TypeId} {n s : Nat} {o : Oper} {parts : Array (Nat × Operand)} {ps : List (Nat × Nat × Opd)} {z cs : List D} (hr : HRel R S base w H) (hv : Opds R (AOf S R H) w ρ env) (hf0 : ∀ v, R nk v = .no) (hH : H nk = none) (hbase : ∀ k, base k → k < w.heap.size) (ho : o.op = .buildSlice t n parts)
    (hu : P.underlying t = some (.slice e)) (hz : zeroT P e = some z) (hs : sizeT P e = some s) (hzs : z.length = s) (h0 : 0 < s) (hsm : n * s ≤ 16777216) (hp : compParts (fun i => some (i * s, s)) parts.toList = some ps) (hf : fillD env (repD z n) ps = some cs) :
    Gives P R S base w H nk (execOp ρ o) (.own nk 0 0 n, [(nk, some (0, e, s, cs))], []) := by
  obtain ⟨ie, v, hie, hzv, hd⟩ := zeroT_some hz
  have hs' : s = ie.size := by unfold sizeT at hs; rw [hie] at hs; simpa using hs.symm
  subst hzs
  obtain ⟨vs, he, hc⟩ := fillD_ok hv _ _ _ _ _ hp (cells_rep hd h0 n) hf
  have hvl : vs.size = n * z.length := by
    have h1 := hc.1
    have h2 : cs.length = (repD z n).length := by
      clear hc he hp
      have : ∀ (ps : List (Nat × Nat × Opd)) (c c' : List D), fillD env c ps = some c' → c'.length = c.length := by
        intro ps
        induction ps with
        | nil => intro c c' h; simp [fillD] at h; rw [h]
        | cons p l ih =>
          intro c c' h
          obtain ⟨off, sz, x⟩ := p
          simp only [fillD] at h
          split at h
          · rw [ih _ _ h, putD_length]
          · cases h
      exact this _ _ _ hf
    rw [h1, h2, repD_length]
  refine gives_new (cap := n) (vs := vs) (v := .slice (some ⟨w.heap.size, 0, none⟩) n n) hr hf0 hH hbase ?_ hvl ?_ (by rw [hc.1]; exact Nat.le_refl _) hc.2 (fun R' A w' h => own_new h (by omega))
  · by_cases hn : n = 0
    · subst hn
      have hpl : Instr.fill (fun i => some (i * ie.size, ie.size)) #[] (parts.map fun (i, x) => (i, ρ x)).toList = some vs := by
        rw [parts_map, ← hs', ← he]
        simp [Array.range_zero']
      rw [parts_map] at hpl
      simp only [execOp, ho, Sem.run_bind, Instr.buildSlice, run_underlying hu, Result.andThen_ok, sizeOf, typeInfo]
      simp [hie, hpl, newRow, Array.range_zero']
    · have hb := run_buildSlice (P := P) w t e n (parts.map fun (i, x) => (i, ρ x)) vs ie v hu hie hzv (by rw [← hs']; omega) (by rw [← hs']; have := Nat.mul_pos (show 0 < n by omega) h0; omega)
        (by rw [parts_map, ← hs', ← he])
      simp only [execOp, ho, Sem.run_bind, hb, Result.andThen_ok, Sem.run_pure]
      rfl
  · have : n * 1 ≤ n * z.length := Nat.mul_le_mul_left n h0
    simp only [maxLen]
    omega
theorem gives_make {t e : TypeId} {l : Nat} {i : TypeInfo} {o : Oper} {z : List D} {k : Int} (hr : HRel R S base w H) (hv : Opds R (AOf S R H) w ρ env) (hf0 : ∀ v, R nk v = .no) (hH : H nk = none) (hbase : ∀ k, base k → k < w.heap.size) (ho : o.op = .makeSlice t (.tmp l) (.tmp l))
    (hu : P.underlying t = some (.slice e)) (hi : P.info? e = some i) (hz : zeroT P e = some z) (hzs : z.length = i.size) (h0 : 0 < i.size) (hd : getO env (.t l) = .int .i64 k) (hk0 : 0 ≤ k) (hk : k ≤ 4611686018427387904) (hb : k.toNat * i.bytes ≤ 281474976710656) :
    Gives P R S base w H nk (execOp ρ o) (.own nk 0 0 k.toNat, [(nk, some (0, e, i.size, repD z k.toNat))], []) := by
  obtain ⟨ie, v, hie, hzv, hdz⟩ := zeroT_some hz
  rw [hi] at hie
  cases hie
  have h1 := hv (.tmp l) (.t l) rfl
  rw [hd] at h1
  have hc := cells_rep (R := R) (A := AOf S R H) (w := w) hdz (by omega) k.toNat
  refine gives_new (cap := k.toNat) (vs := madeCells v.cells (k.toNat * i.size)) (v := .slice (some ⟨w.heap.size, 0, none⟩) k.toNat k.toNat) hr hf0 hH hbase ?_ (size_madeCells _ _) (by simp only [maxLen]; omega) (by rw [repD_length, size_madeCells, hzs]; exact Nat.le_refl _) ?_ (fun R' A w' h => own_new h (by omega))
  · have hm := run_make (P := P) w t e i v hu hi hzv .i64 .i64 k k hk0 (Int.le_refl _) (by
      have : ((k.toNat * i.bytes : Nat) : Int) ≤ 281474976710656 := by omega
      rw [Int.natCast_mul, Int.toNat_of_nonneg hk0, Int.mul_comm] at this
      exact this) (by omega)
    simp only [execOp, ho, h1.int_inv, Sem.run_bind, hm, Result.andThen_ok, Sem.run_pure]
    rfl
  · have := hc.2
    rw [hzs] at this
    exact this
end
end Go.Proofs.YtgimaioeifnajaaGreatDoorK.AI
/-
  The abstract interpreter, part 8: stores and appends.
-/
namespace Go.Proofs.YtgimaioeifnajaaGreatDoorK.AI
open Go.RowKit

section
variable {P : Program} {R R' : Nat → Nat → Bnd} {S : Nat → Prop} {base : Nat → Prop} {w w' : World} {H : Nat → Blk} {nk : Nat} {ρ : Operand → Value} {env : Nat → D} {A : Nat → Prop}

theorem Own0.mk' {b ver t sz g cap s : Nat} {cs : List D} (hH : H b = some (ver, t, sz, cs)) (hR : R b ver = .at g cap s) : Own0 R H b g := ⟨ver, t, sz, cs, cap, s, hH, hR⟩
theorem take_put_get {vs us : List Value} {off : Nat} (hl : off + us.length ≤ vs.length) (j : Nat) : ((vs.take off ++ us ++ vs.drop (off + us.length)).getD j undef) = if off ≤ j ∧ j < off + us.length then us.getD (j - off) undef else vs.getD j undef := by
  simp only [List.getD_eq_getElem?_getD]
  by_cases h1 : j < off
  · rw [if_neg (by omega), List.append_assoc, List.getElem?_append_left (by rw [List.length_take]; omega), List.getElem?_take, if_pos h1]
  · by_cases h2 : j < off + us.length
    · rw [if_pos (by omega), List.append_assoc, List.getElem?_append_right (by rw [List.length_take]; omega), List.length_take, Nat.min_eq_left (by omega), List.getElem?_append_left (by omega)]
    · rw [if_neg (by omega), List.getElem?_append_right (by rw [List.length_append, List.length_take]; omega), List.length_append, List.length_take, Nat.min_eq_left (by omega), List.getElem?_drop]
      congr 2
      omega
theorem gives_store {t : TypeId} {x y : Operand} {xo yo : Opd} {o : Oper} {b ver off t' s' s : Nat} {cs : List D} (hr : HRel R S base w H) (hv : Opds R (AOf S R H) w ρ env) (ho : o.op = .store t x y)
    (hs : sizeT P t = some s) (hx : compOpd x = some xo) (hy : compOpd y = some yo) (hd : getO env xo = .ptr b ver off) (hH : H b = some (ver, t', s', cs)) (hl : (getO env yo).cells.length = s) (hle : off + s ≤ cs.length)
    (h1 : (getO env yo).cells.all D.one = true) (hbx : (getO env yo).boxable = true) :
    Gives P R S base w H nk (execOp ρ o) (.un, [(b, some (ver, t', s', putD cs off (getO env yo).cells))], [b]) := by
  have e1 := hv x xo hx
  have e2 := hv y yo hy
  rw [hd] at e1
  obtain ⟨g, cap, sz, hR, h0s, e1⟩ := e1.ptr_inv
  obtain ⟨vs, rfl, hbg, hw, hvs, hcap, hcl, hrep⟩ := hr.at hH hR h0s
  obtain ⟨k1, k2⟩ := cells_boxable e2 hbx
  have hus : (ρ y).cells.toList.length = s := by rw [Array.length_toList, k1, hl]
  have hone : ∀ v ∈ (ρ y).cells.toList, v.oneCell' = true := fun v hv' => by
    obtain ⟨j, hj, rfl⟩ := List.mem_iff_getElem.1 hv'
    have hjd : j < (getO env yo).cells.length := by rw [hl, ← hus]; exact hj
    have := k2 j _ (List.getElem?_eq_getElem hjd)
    have e : (ρ y).cells.getD j undef = (ρ y).cells.toList[j] := by
      have : j < (ρ y).cells.size := by simpa using hj
      simp [Array.getD, this]
    rw [e] at this
    exact rep_one this (List.all_eq_true.1 h1 _ (List.getElem_mem hjd))
  have hst := run_storeCells_at P g off t' (ρ y).cells.toList 0 vs w hw (by rw [hus]; omega) hone
  simp only [Nat.add_zero] at hst
  have hch : ∀ k, k < w.heap.size → ¬ Own0 R H b k → (w.setRow g (vs.toList.take off ++ (ρ y).cells.toList ++ vs.toList.drop (off + (ρ y).cells.toList.length)).toArray).heap[k]? = w.heap[k]? := fun k _ hk =>
    setRow_other w g k _ (fun e => hk (e ▸ Own0.mk' hH hR))
  obtain ⟨p1, p2⟩ := hrel_upd (R' := R) (b0 := b) (ver := ver) (t := t') (sz := sz) (cs := putD cs off (getO env yo).cells) hr (fun _ _ _ => rfl) (fun _ _ => rfl) (fun v' hlt => hr.vers b ver t' sz cs hH v' hlt)
    (fun v g cap s h => by rw [setRow_size]; exact hr.bnd b v g cap s h)
    (.inr (.inl ⟨g, cap, _, hR, hbg, setRow_heap w g vs _ t' (0, 0) hw, by
        rw [← hvs]
        simp only [List.size_toArray, List.length_append, List.length_take, List.length_drop, Array.length_toList]
        have : (ρ y).cells.size = s := by simpa using hus
        omega, hcap, by
        rw [putD_length]
        simp only [List.size_toArray, List.length_append, List.length_take, List.length_drop, Array.length_toList]
        have : (ρ y).cells.size = s := by simpa using hus
        omega, fun j d hj => by
        have hg := take_put_get (vs := vs.toList) (us := (ρ y).cells.toList) (off := off) (by rw [hus, Array.length_toList]; omega) j
        rw [putD_get _ cs off (by rw [hl]; exact hle) j, hl] at hj
        rw [hus] at hg
        have e : ((vs.toList.take off ++ (ρ y).cells.toList ++ vs.toList.drop (off + (ρ y).cells.toList.length)).toArray).getD j undef = (vs.toList.take off ++ (ρ y).cells.toList ++ vs.toList.drop (off + s)).getD j undef := by
          rw [hus, Array.getD_eq_getD_getElem?, List.getD_eq_getElem?_getD]
          simp
        rw [e, hg]
        split at hj
        · rename_i hc
          rw [if_pos hc]
          have := k2 _ _ hj
          simpa [List.getD, Array.getD_eq_getD_getElem?] using this
        · rename_i hc
          rw [if_neg hc]
          have := hrep _ _ hj
          simpa [List.getD, Array.getD_eq_getD_getElem?] using this, .inr (Own0.mk' hH hR)⟩)) (by rw [setRow_size]; exact Nat.le_refl _) hch
  refine ⟨_, _, R, undef, ?_, .inr ⟨rfl, rfl⟩, p1, .imm (.un _), fun _ _ _ => rfl, p2, ?_, fun _ _ => rfl⟩
  · simp only [execOp, ho, e1, Instr.storeAt, Instr.sureAddr, Sem.run_bind, Sem.run_pure, Result.andThen_ok, storeVar, run_size hs]
    rw [if_neg (by simpa using hus), hst]
    rfl
  · refine ⟨rfl, rfl, rfl, by rw [setRow_size]; exact Nat.le_refl _, fun k hk => setRow_other w g k _ (fun e => hbg (e ▸ hk))⟩

/-! append -/
theorem rowD_ok (hr : HRel R S base w H) {v : Value} {d : D} {sz m : Nat} {ds : List D} {rs : List Nat} (hsz : 0 < sz) (h : Rep R (AOf S R H) w v d) (hd : rowD H sz d = some (m, ds, rs)) :
    ∃ a c, v = .slice a m c ∧ ds.length = m * sz ∧ ∃ news : List Value, news.length = m * sz ∧ (m = 0 ∨ ∃ ad, a = some ad ∧ ∀ j u, news[j]? = some u → w.cell? (ad.add j) = some u) ∧ ∀ j x, ds[j]? = some x → Rep R (AOf S R H) w (news.getD j undef) x := by
  cases d <;> simp only [rowD, reduceCtorEq] at hd
  case nils =>
    cases hd
    exact ⟨none, 0, h.nils_inv, by simp, [], by simp, .inl rfl, fun j x hj => by simp at hj⟩
  case sl n cs =>
    split at hd
    · rename_i hl
      cases hd
      obtain ⟨a, c, g, o, us, e, _, _, ha, _, hu, hrep⟩ := h.sl_inv.sl_form
      refine ⟨a, c, e, hl, (List.range ds.length).map us, by simp [hl], ?_, fun j x hj => ?_⟩
      · by_cases hne : ds = []
        · left
          subst hne
          have h0 : m * sz = 0 := hl.symm
          rcases Nat.mul_eq_zero.1 h0 with h | h <;> omega
        · right
          refine ⟨_, ha hne, fun j u hj => ?_⟩
          have hjl : j < ds.length := by have := (List.getElem?_eq_some_iff.1 hj).1; simpa using this
          have := hu j _ (List.getElem?_eq_getElem hjl)
          rw [add_off]
          simp [hjl] at hj
          rw [← hj]
          exact this
      · have hjl : j < ds.length := (List.getElem?_eq_some_iff.1 hj).1
        have e2 : ((List.range ds.length).map us).getD j undef = us j := by simp [hjl]
        rw [e2]
        exact .imm (hrep _ _ hj)
    · cases hd
  case own b ver off n =>
    split at hd
    · rename_i v' t' s' cs hH
      split at hd
      · rename_i hc
        obtain ⟨rfl, rfl, hle⟩ := hc
        cases hd
        rcases h.own_inv with ⟨hR, rfl, rfl, e⟩ | ⟨g, cap, sz', o, hR, h0s, ho, hn, e⟩
        · exact ⟨none, 0, e, by simp, [], by simp, .inl rfl, fun j x hj => by simp at hj⟩
        · obtain ⟨vs, rfl, hbg, hw, hvs, hcap, hcl, hrep⟩ := hr.at hH hR h0s
          have hlen : ((vs.toList.drop (off * sz')).take (m * sz')).length = m * sz' := by simp; omega
          refine ⟨_, _, e, by simp; omega, (vs.toList.drop (off * sz')).take (m * sz'), hlen, ?_, fun j x hj => ?_⟩
          · rcases ho with rfl | ⟨ho, _⟩
            · right
              refine ⟨_, rfl, fun j u hj => ?_⟩
              rw [List.getElem?_take] at hj
              split at hj
              · rw [List.getElem?_drop] at hj
                rw [add_off]
                have := cellv_of_block (o := off * sz' + j) hw
                unfold cellv at this
                rw [this]
                simpa using hj
              · cases hj
            · left
              omega
          · rw [List.getElem?_take] at hj
            split at hj
            · rename_i hjl
              rw [List.getElem?_drop] at hj
              have := hrep _ _ hj
              have e2 : ((vs.toList.drop (off * sz')).take (m * sz')).getD j undef = vs.getD (off * sz' + j) undef := by
                rw [List.getD_eq_getElem?_getD, List.getElem?_take, if_pos hjl, List.getElem?_drop, Array.getD_eq_getD_getElem?]
                simp
              rw [e2]
              exact this
            · cases hj
      · cases hd
    · cases hd
theorem run_app_none {t ty e : TypeId} {i : TypeInfo} (ht : P.underlying t = some (.slice e)) (hi : P.info? e = some i) (a : Option Addr) (n cap c : Nat) (hn : n ≤ cap) (b : Option Addr) :
    (Builtin.append_ #[t, t] ty #[.slice a n cap, .slice b 0 c]).run P w = .ok (.slice a n cap) w := by
  cases a <;> cases b <;> simp [Builtin.append_, run_underlying ht, sizeOf, typeInfo, hi, Builtin.lenOf, Builtin.firstCells, hn, storeCells, loadCells, loadCellsFrom]
/-! bytes as a text -/
theorem byD_ints : ∀ {ds : List D} {l : List UInt8}, byD ds = some l → ∃ ns : List Int, ds = ns.map (D.int .u8 ·) ∧ l = ns.map (fun n => UInt8.ofNat n.toNat)
  | [], l, h => by cases h; exact ⟨[], rfl, rfl⟩
  | d :: ds, l, h => by
    unfold byD at h
    split at h
    · cases ‹_ = []›
    · rename_i n l' he
      cases he
      split at h
      · rename_i l2 hl
        cases h
        obtain ⟨ns, rfl, rfl⟩ := byD_ints hl
        exact ⟨n :: ns, rfl, rfl⟩
      · cases h
    · cases h
theorem push_fold : ∀ (ns : List Int) (s : ByteArray), ns.foldl (fun r n => r.push (UInt8.ofNat n.toNat)) s = ⟨⟨s.data.toList ++ ns.map (fun n => UInt8.ofNat n.toNat)⟩⟩
  | [], s => by simp
  | n :: ns, s => by
    rw [List.foldl_cons, push_fold ns]
    simp [ByteArray.push]
theorem gives_bstr {o : Oper} {x : Operand} {xo : Opd} {t t' e : TypeId} {m : Nat} {ds : List D} {rs : List Nat} {l : List UInt8} (hr : HRel R S base w H) (hv : Opds R (AOf S R H) w ρ env) (ho : o.op = .convert t t' x)
    (h0 : P.underlying t = some (.slice e)) (he : P.underlying e = some (.int .u8)) (h1 : P.underlying t' = some .string) (hx : compOpd x = some xo) (hrow : rowD H 1 (getO env xo) = some (m, ds, rs)) (hb : byD ds = some l) :
    Gives P R S base w H nk (execOp ρ o) (.str ⟨⟨l⟩⟩, [], rs) := by
  obtain ⟨a, c, e2, hdl, news, hnl, hnews, hrep⟩ := rowD_ok hr (Nat.succ_pos 0) (hv x xo hx) hrow
  obtain ⟨ns, rfl, rfl⟩ := byD_ints hb
  rw [Nat.mul_one] at hdl hnl
  rw [List.length_map] at hdl
  have hn : news = ns.map (Value.int .u8) := by
    refine List.ext_getElem? fun j => ?_
    by_cases hj : j < ns.length
    · have h2 := hrep j (.int .u8 ns[j]) (by rw [List.getElem?_map, List.getElem?_eq_getElem hj]; rfl)
      have h3 := h2.int_inv
      have hj2 : j < news.length := by omega
      rw [List.getD_eq_getElem?_getD, List.getElem?_eq_getElem hj2] at h3
      rw [List.getElem?_map, List.getElem?_eq_getElem hj, List.getElem?_eq_getElem hj2]
      exact congrArg some h3
    · rw [List.getElem?_eq_none (by omega), List.getElem?_eq_none (by rw [List.length_map]; omega)]
  have hrun : (convert t t' (ρ x)).run P w = .ok (.string ⟨⟨ns.map (fun n => UInt8.ofNat n.toNat)⟩⟩) w := by
    rw [e2, run_convert_bytes_string w t t' e a m c h0 he h1]
    cases a with
    | none =>
      have hm : m = 0 := by
        rcases hnews with h | ⟨_, h, _⟩
        · exact h
        · cases h
      have : ns = [] := List.eq_nil_of_length_eq_zero (by omega)
      subst this
      rfl
    | some ad =>
      have hld : (loadCells ad m).run P w = .ok (ns.map (Value.int .u8)).toArray w := by
        have h4 := run_loadCells_list (P := P) w ad (ns.map (Value.int .u8)) (fun j u hj => by
          rcases hnews with h | ⟨ad', h, h5⟩
          · have : ns = [] := List.eq_nil_of_length_eq_zero (by omega)
            subst this
            simp at hj
          · cases h
            exact h5 j u (by rw [hn]; exact hj))
        rwa [List.length_map, hdl] at h4
      rw [run_bytesToString w ad m c ns hld, push_fold]
      rfl
  exact Gives.pure hr (by simp [execOp, ho, hrun]) (.imm (.str _))
end
end Go.Proofs.YtgimaioeifnajaaGreatDoorK.AI
/-
  The abstract interpreter, part 9: append.
-/
namespace Go.Proofs.YtgimaioeifnajaaGreatDoorK.AI
open Go.RowKit

section
variable {P : Program} {R R' : Nat → Nat → Bnd} {S : Nat → Prop} {base : Nat → Prop} {w w' : World} {H : Nat → Blk} {nk : Nat} {ρ : Operand → Value} {env : Nat → D} {A : Nat → Prop}

theorem app_run {t ty e n m sz : Nat} {i : TypeInfo} {z v : Value} {a : Option Addr} {c : Nat} {xs news : List Value} (hu : P.underlying t = some (.slice e)) (hi : P.info? e = some i) (hz : i.zero = some z) (hsz : i.size = sz) (hzs : z.cells.size = sz) (h0 : 0 < sz)
    (hold : (v = .slice none 0 0 ∧ n = 0 ∧ xs = []) ∨ ∃ g cap cur, v = .slice (some ⟨g, 0, none⟩) n cap ∧ w.heap[g]? = some (.cells cur e (0, 0)) ∧ n ≤ cap ∧ cap ≤ maxLen ∧ cur.size = cap * sz ∧ cur.toList.take (n * sz) = xs)
    (hl : news.length = m * sz) (hn : m = 0 ∨ ∃ ad, a = some ad ∧ ∀ j u, news[j]? = some u → w.cell? (ad.add j) = some u) (h1 : ∀ u ∈ news, u.oneCell' = true) (h63 : n + m ≤ 4611686018427387904) (hb : (n + m) * i.bytes ≤ 140737488355328) :
    ∃ v' w', (Builtin.append_ #[t, t] ty #[v, .slice a m c]).run P w = .ok v' w' ∧
      ((v' = .slice none 0 0 ∧ v = .slice none 0 0 ∧ n = 0 ∧ m = 0) ∨ ∃ g' cap' cur', v' = .slice (some ⟨g', 0, none⟩) (n + m) cap' ∧ w'.heap[g']? = some (.cells cur' e (0, 0)) ∧ n + m ≤ cap' ∧ cap' ≤ maxLen ∧ cur'.size = cap' * sz ∧
        cur'.toList.take ((n + m) * sz) = xs ++ news ∧ (g' = w.heap.size ∨ v.ownBlock = some g') ∧ g' < w'.heap.size) ∧
      w.heap.size ≤ w'.heap.size ∧ (∀ k, k < w.heap.size → some k ≠ v.ownBlock → w'.heap[k]? = w.heap[k]?) ∧ w'.os = w.os ∧ w'.tape = w.tape ∧ w'.output = w.output := by
  subst hsz
  have hm63 : n + m ≤ maxLen := by simp only [maxLen]; omega
  rcases Nat.eq_zero_or_pos m with hm | hm
  · subst hm
    have hnn : news = [] := List.eq_nil_of_length_eq_zero (by simpa using hl)
    subst hnn
    rcases hold with ⟨rfl, rfl, rfl⟩ | ⟨g, cap, cur, rfl, hg, hnc, hcm, hcs, hx⟩
    · exact ⟨_, w, run_app_none hu hi none 0 0 c (Nat.le_refl _) a, .inl ⟨rfl, rfl, rfl, rfl⟩, Nat.le_refl _, fun _ _ _ => rfl, rfl, rfl, rfl⟩
    · exact ⟨_, w, run_app_none hu hi _ n cap c hnc a, .inr ⟨g, cap, cur, rfl, hg, hnc, hcm, hcs, by simpa using hx, .inr rfl, (Array.getElem?_eq_some_iff.1 hg).1⟩, Nat.le_refl _, fun _ _ _ => rfl, rfl, rfl, rfl⟩
  · obtain ⟨ad, rfl, hnews⟩ := hn.resolve_left (by omega)
    have hsmall : n + m ≤ 9223372036854775807 := by omega
    have grown : ∀ (old : Nat) (xs : List Value), xs.length = n * i.size → old < n + m → 
        (w.drew.alloc (.cells (xs.toArray ++ news.toArray ++ Builtin.zeroCells z.cells (grownCap w (n + m) old e - (n + m))) e)).heap[w.heap.size]? = some (.cells (xs.toArray ++ news.toArray ++ Builtin.zeroCells z.cells (grownCap w (n + m) old e - (n + m))) e (0, 0)) ∧
        n + m ≤ grownCap w (n + m) old e ∧ grownCap w (n + m) old e ≤ maxLen ∧ (xs.toArray ++ news.toArray ++ Builtin.zeroCells z.cells (grownCap w (n + m) old e - (n + m))).size = grownCap w (n + m) old e * i.size ∧
        (xs.toArray ++ news.toArray ++ Builtin.zeroCells z.cells (grownCap w (n + m) old e - (n + m))).toList.take ((n + m) * i.size) = xs ++ news := by
      intro old xs hx ho
      have hge := grownCap_ge w (n + m) old e
      refine ⟨heap_alloc_new w.drew _, hge, grownCap_le_maxLen w (n + m) old e hm63, ?_, ?_⟩
      · simp only [Array.size_append, List.size_toArray, size_zeroCells, hzs, hx, hl, ← Nat.add_mul]
        congr 1
        omega
      · have hlen : (xs ++ news).length = (n + m) * i.size := by rw [List.length_append, hx, hl, Nat.add_mul]
        simp only [Array.toList_append, List.append_assoc]
        rw [← List.append_assoc, ← hlen]
        exact List.take_left
    rcases hold with ⟨rfl, rfl, rfl⟩ | ⟨g, cap, cur, rfl, hg, hnc, hcm, hcs, hx⟩
    · have hr := run_append_nil (P := P) w t ty e i z hu hi hz ad m c news hl hnews hm (by omega) (by have := hb; simp only [Nat.zero_add] at this; omega)
      obtain ⟨p1, p2, p3, p4, p5⟩ := grown 0 [] (by simp) (by omega)
      simp only [Nat.zero_add, List.nil_append] at p1 p2 p3 p4 p5
      simp only [Array.empty_append] at p1 p4 p5
      refine ⟨_, _, hr, .inr ⟨w.heap.size, _, _, by simp, p1, by simpa using p2, p3, p4, by simpa using p5, .inl rfl, by simp⟩, by simp, fun k hk _ => by (simp [World.alloc, Array.getElem?_push, Nat.ne_of_lt hk]; rfl), rfl, rfl, rfl⟩
    · by_cases hroom : n + m ≤ cap
      · have hfit : n * i.size + news.length ≤ cur.size := by rw [hl, hcs, ← Nat.add_mul]; exact Nat.mul_le_mul_right _ hroom
        have hr := run_append_room (P := P) w t ty e i hu hi g n cap cur hg ad m c news hl hnews h1 hroom hfit
        have hxl : xs.length = n * i.size := by rw [← hx, List.length_take, Array.length_toList]; omega
        refine ⟨_, _, hr, .inr ⟨g, cap, _, rfl, setRow_heap w g cur _ e _ hg, hroom, hcm, ?_, ?_, .inr rfl, by rw [setRow_size]; exact (Array.getElem?_eq_some_iff.1 hg).1⟩, by rw [setRow_size]; exact Nat.le_refl _, fun k _ hk => setRow_other w g k _ (fun e => hk (by simp [Value.ownBlock, e])), rfl, rfl, rfl⟩
        · simp only [List.size_toArray, List.length_append, List.length_take, List.length_drop, Array.length_toList]
          omega
        · have hlen : (xs ++ news).length = (n + m) * i.size := by rw [List.length_append, hxl, hl, Nat.add_mul]
          rw [hx, ← hlen]
          exact List.take_left
      · have hxl : xs.length = n * i.size := by
          rw [← hx, List.length_take, Array.length_toList, hcs]
          have := Nat.mul_le_mul_right i.size hnc
          omega
        have holds : ∀ j u, xs[j]? = some u → w.cell? ((⟨g, 0, none⟩ : Addr).add j) = some u := fun j u hj => by
          rw [← hx, List.getElem?_take] at hj
          split at hj
          · have := cellv_of_block (o := j) hg
            unfold cellv at this
            rw [add_off, Nat.zero_add, this]
            simpa using hj
          · cases hj
        have hr := run_append_grow (P := P) w t ty e i z hu hi hz ⟨g, 0, none⟩ n cap xs hxl holds ad m c news hl hnews (by omega) (by omega) (growslice_fits (by omega) hb)
        obtain ⟨p1, p2, p3, p4, p5⟩ := grown cap xs hxl (by omega)
        exact ⟨_, _, hr, .inr ⟨w.heap.size, _, _, rfl, p1, p2, p3, p4, p5, .inl rfl, by simp⟩, by simp, fun k hk _ => by (simp [World.alloc, Array.getElem?_push, Nat.ne_of_lt hk]; rfl), rfl, rfl, rfl⟩
theorem run_app_op {o : Oper} {cl : Call} {s x : Operand} {t : TypeId} (ho : o.op = .call cl) (hc : cl.callee = .builtin .append) (ha : cl.args.toList = [s, x]) (ht : cl.argTypes.toList = [t, t]) :
    (execOp ρ o).run P w = ((Builtin.append_ #[t, t] o.type #[ρ s, ρ x]).run P w).andThen fun v w' => .ok (.value v) w' := by
  have ha' : cl.args = #[s, x] := by rw [← Array.toArray_toList (xs := cl.args), ha]
  have ht' : cl.argTypes = #[t, t] := by rw [← Array.toArray_toList (xs := cl.argTypes), ht]
  simp [execOp, ho, resolve, hc, ha', ht', invoke, builtin]
theorem app_cells {cur' : Array Value} {xs news : List Value} {cs ds : List D} {n m sz : Nat} (htake : cur'.toList.take ((n + m) * sz) = xs ++ news) (hx : xs.length = n * sz) (hcl : cs.length = n * sz) (hdl : ds.length = m * sz) (hnl : news.length = m * sz)
    (h1 : ∀ j d, cs[j]? = some d → Rep R A w (xs.getD j undef) d) (h2 : ∀ j d, ds[j]? = some d → Rep R A w (news.getD j undef) d) : ∀ j d, (cs ++ ds)[j]? = some d → Rep R A w (cur'.getD j undef) d := fun j d hj => by
  have hlt : j < (n + m) * sz := by have := (List.getElem?_eq_some_iff.1 hj).1; rw [List.length_append] at this; rw [Nat.add_mul]; omega
  have e : cur'.getD j undef = (xs ++ news).getD j undef := by
    rw [← htake, List.getD_eq_getElem?_getD, List.getElem?_take, if_pos hlt, Array.getD_eq_getD_getElem?]
    simp
  rw [e, List.getD_eq_getElem?_getD]
  by_cases hc : j < n * sz
  · rw [List.getElem?_append_left (by omega)] at hj
    rw [List.getElem?_append_left (by omega), ← List.getD_eq_getElem?_getD]
    exact h1 _ _ hj
  · rw [List.getElem?_append_right (by omega)] at hj
    rw [List.getElem?_append_right (by omega), ← List.getD_eq_getElem?_getD]
    rw [hcl] at hj
    rw [hx]
    exact h2 _ _ hj
theorem ones_of {news : List Value} {ds : List D} (hl : news.length = ds.length) (h : ∀ j d, ds[j]? = some d → Rep R A w (news.getD j undef) d) (h1 : ds.all D.one = true) : ∀ u ∈ news, u.oneCell' = true := fun u hu => by
  obtain ⟨j, hj, rfl⟩ := List.mem_iff_getElem.1 hu
  have hjd : j < ds.length := by omega
  have := h j _ (List.getElem?_eq_getElem hjd)
  rw [List.getD_eq_getElem?_getD, List.getElem?_eq_getElem hj] at this
  exact rep_one this (List.all_eq_true.1 h1 _ (List.getElem_mem hjd))
theorem zero_size {i : TypeInfo} {z : List D} {v : Value} (hz : constDs v.cells.toList = some z) (hzs : z.length = i.size) : v.cells.size = i.size := by
  have := (constDs_get hz).1
  simp only [Array.length_toList] at this
  omega

theorem gives_app_nils {o : Oper} {cl : Call} {s x : Operand} {so xo : Opd} {t e m : Nat} {i : TypeInfo} {z ds : List D} {rs : List Nat} (hr : HRel R S base w H) (hv : Opds R (AOf S R H) w ρ env) (hf : ∀ v, R nk v = .no) (hH : H nk = none) (hbase : ∀ k, base k → k < w.heap.size)
    (ho : o.op = .call cl) (hc : cl.callee = .builtin .append) (ha : cl.args.toList = [s, x]) (ht : cl.argTypes.toList = [t, t]) (hu : P.underlying t = some (.slice e)) (hi : P.info? e = some i) (hz : zeroT P e = some z) (hzs : z.length = i.size) (h0 : 0 < i.size)
    (hs : compOpd s = some so) (hx : compOpd x = some xo) (hd : getO env so = .nils) (hrow : rowD H i.size (getO env xo) = some (m, ds, rs)) (h63 : m ≤ 4611686018427387904) (hb : m * i.bytes ≤ 140737488355328) (h1 : ds.all D.one = true) :
    Gives P R S base w H nk (execOp ρ o) (.own nk 0 0 m, [(nk, some (0, e, i.size, ds))], rs) := by
  have e1 := hv s so hs
  rw [hd] at e1
  obtain ⟨a, c, e2, hdl, news, hnl, hnews, hrep⟩ := rowD_ok hr h0 (hv x xo hx) hrow
  obtain ⟨it, v, hit, hzv, hdz⟩ := zeroT_some hz
  rw [hi] at hit
  cases hit
  obtain ⟨v', w', hrun, hcase, hsz, hch, hos, htape, hout⟩ := app_run (P := P) (w := w) (t := t) (ty := o.type) (n := 0) (m := m) (c := c) (v := .slice none 0 0) (xs := []) hu hi hzv rfl (zero_size hdz hzs) h0 (.inl ⟨rfl, rfl, rfl⟩) hnl hnews (ones_of (by omega) hrep h1) (by omega) (by simpa using hb)
  have hno : ∀ k, ¬ Own0 R H nk k := by rintro k ⟨ver, t', sz', cs', cap', s', h, _⟩; rw [hH] at h; cases h
  have hxf : (execOp ρ o).run P w = .ok (.value v') w' := by rw [run_app_op ho hc ha ht, e1.nils_inv, e2, hrun]; rfl
  have hch' : ∀ k, k < w.heap.size → w'.heap[k]? = w.heap[k]? := fun k hk => hch k hk (by simp [Value.ownBlock])
  have hbel : BelowK base w w' := ⟨hos, htape, hout, hsz, fun k hk => hch' k (hbase k hk)⟩
  rcases hcase with ⟨rfl, _, _, rfl⟩ | ⟨g', cap', cur', rfl, hg, hnc, hcm, hcs, htake, hloc, hglt⟩
  · have hds : ds = [] := List.eq_nil_of_length_eq_zero (by simpa using hdl)
    subst hds
    have hR : ∀ b v, R b v ≠ .no → bindR R nk 0 .nil b v = R b v := fun b v h => bindR_other (hf 0) h
    obtain ⟨p1, p2⟩ := hrel_upd (w' := w') (R' := bindR R nk 0 .nil) (b0 := nk) (ver := 0) (t := e) (sz := i.size) (cs := []) hr hR (fun b h => bindR_key h) (fun v' h => by unfold bindR; rw [if_neg (by omega)]; exact hf v')
      (fun v g cap s h => by unfold bindR at h; split at h; · cases h
                             · rw [hf v] at h; cases h) (.inl ⟨bindR_same, rfl⟩) hsz (fun k hk _ => hch' k hk)
    exact ⟨_, _, _, _, hxf, .inl rfl, p1, .ownn nk 0 bindR_same, hR, p2, hbel, fun b hb => bindR_key (not_key hb)⟩
  · have hg' : g' = w.heap.size := by rcases hloc with h | h; · exact h
                                      · simp [Value.ownBlock] at h
    have hR : ∀ b v, R b v ≠ .no → bindR R nk 0 (.at g' cap' i.size) b v = R b v := fun b v h => bindR_other (hf 0) h
    simp only [Nat.zero_add, List.nil_append] at htake hnc
    have hcells : ∀ j d, ds[j]? = some d → Rep R (AOf S R H) w (cur'.getD j undef) d := by
      have := app_cells (R := R) (A := AOf S R H) (w := w) (cur' := cur') (xs := []) (news := news) (cs := []) (ds := ds) (n := 0) (m := m) (sz := i.size) (by simpa using htake) (by simp) (by simp) hdl hnl (fun j d hj => by simp at hj) hrep
      simpa using this
    obtain ⟨p1, p2⟩ := hrel_upd (w' := w') (R' := bindR R nk 0 (.at g' cap' i.size)) (b0 := nk) (ver := 0) (t := e) (sz := i.size) (cs := ds) hr hR (fun b h => bindR_key h) (fun v' h => by unfold bindR; rw [if_neg (by omega)]; exact hf v')
      (fun v g cap s h => by unfold bindR at h; split at h; · cases h; exact hglt
                             · rw [hf v] at h; cases h)
      (.inr (.inl ⟨g', cap', cur', bindR_same, (fun h => by have := hbase _ h; omega), hg, hcs, hcm, by rw [hcs, hdl]; exact Nat.mul_le_mul_right _ hnc, hcells, .inl (by omega)⟩)) hsz (fun k hk _ => hch' k hk)
    · refine ⟨_, _, _, _, hxf, .inl rfl, p1, ?_, hR, p2, hbel, fun b hb => bindR_key (not_key hb)⟩
      have := Rep.own (R := bindR R nk 0 (.at g' cap' i.size)) (A := AOf S (bindR R nk 0 (.at g' cap' i.size)) (updH H [(nk, some (0, e, i.size, ds))])) (w := w') nk 0 0 m g' cap' i.size 0 bindR_same (Nat.ne_of_gt h0) (.inl (by simp)) (by omega)
      simpa using this
theorem gives_appZ {o : Oper} {cl : Call} {s x : Operand} {so xo : Opd} {t tn e : Nat} {q : IntKind} {k : Int} {i : TypeInfo} {z : List D} (hr : HRel R S base w H) (hv : Opds R (AOf S R H) w ρ env) (hf : ∀ v, R nk v = .no) (hH : H nk = none) (hbase : ∀ k, base k → k < w.heap.size)
    (ho : o.op = .call cl) (hc : cl.callee = .builtin .append) (ha : cl.args.toList = [s, x]) (ht : cl.argTypes.toList = [t, tn]) (hu : P.underlying t = some (.slice e)) (hn : isIntT P tn = true) (hi : P.info? e = some i) (hz : zeroT P e = some z) (hzs : z.length = i.size) (h0 : 0 < i.size)
    (hs : compOpd s = some so) (hx : compOpd x = some xo) (hd : getO env so = .nils) (he : getO env xo = .int q k) (hk0 : 0 < k) (h63 : k ≤ 4611686018427387904) (hb : k.toNat * i.bytes ≤ 281474976710656) :
    Gives P R S base w H nk (execOp ρ o) (.own nk 0 0 k.toNat, [(nk, some (0, e, i.size, []))], []) := by
  have e1 := hv s so hs
  rw [hd] at e1
  have e2 := hv x xo hx
  rw [he] at e2
  obtain ⟨it, v, hit, hzv, hdz⟩ := zeroT_some hz
  rw [hi] at hit
  cases hit
  obtain ⟨kn, htn⟩ : ∃ kn, P.underlying tn = some (.int kn) := by
    unfold isIntT at hn
    split at hn
    · exact ⟨_, by assumption⟩
    · cases hn
  obtain ⟨m, rfl⟩ : ∃ m : Nat, k = m := ⟨k.toNat, by omega⟩
  simp only [Int.toNat_natCast] at hb ⊢
  have hm63 : m ≤ maxLen := by simp only [maxLen]; omega
  have hrun := Lib.run_append_nil_zeros (P := P) (ty := o.type) w t tn e i v q kn hu htn hi hzv m (by omega) h0 (by omega) hb
  have ha' : cl.args = #[s, x] := by rw [← Array.toArray_toList (xs := cl.args), ha]
  have ht' : cl.argTypes = #[t, tn] := by rw [← Array.toArray_toList (xs := cl.argTypes), ht]
  have hxf : (execOp ρ o).run P w = .ok (.value (.slice (some ⟨w.heap.size, 0, none⟩) m (grownCap w m 0 e))) (w.drew.alloc (.cells (Builtin.zeroCells v.cells m ++ Builtin.zeroCells v.cells (grownCap w m 0 e - m)) e)) := by
    have : (execOp ρ o).run P w = ((Builtin.append_ #[t, tn] o.type #[ρ s, ρ x]).run P w).andThen fun v w' => .ok (.value v) w' := by
      simp [execOp, ho, resolve, hc, ha', ht', invoke, builtin]
    rw [this, e1.nils_inv, e2.int_inv, hrun]; rfl
  have hno : ∀ k, ¬ Own0 R H nk k := by rintro k ⟨ver, t', sz', cs', cap', s', h, _⟩; rw [hH] at h; cases h
  have hR : ∀ b v, R b v ≠ .no → bindR R nk 0 (.at w.heap.size (grownCap w m 0 e) i.size) b v = R b v := fun b v h => bindR_other (hf 0) h
  have hold : ∀ k, k < w.heap.size → (w.drew.alloc (.cells (Builtin.zeroCells v.cells m ++ Builtin.zeroCells v.cells (grownCap w m 0 e - m)) e)).heap[k]? = w.heap[k]? := fun k hk => Below.heap_alloc w.drew _ _ hk
  have hge := grownCap_ge w m 0 e
  have hcs : (Builtin.zeroCells v.cells m ++ Builtin.zeroCells v.cells (grownCap w m 0 e - m)).size = grownCap w m 0 e * i.size := by
    rw [Array.size_append, size_zeroCells, size_zeroCells, zero_size hdz hzs, ← Nat.add_mul]
    congr 1
    omega
  obtain ⟨p1, p2⟩ := hrel_upd (w' := w.drew.alloc (.cells (Builtin.zeroCells v.cells m ++ Builtin.zeroCells v.cells (grownCap w m 0 e - m)) e)) (R' := bindR R nk 0 (.at w.heap.size (grownCap w m 0 e) i.size)) (b0 := nk) (ver := 0) (t := e) (sz := i.size) (cs := []) hr hR (fun b h => bindR_key h) (fun v' h => by unfold bindR; rw [if_neg (by omega)]; exact hf v')
    (fun v' g cap s h => by unfold bindR at h; split at h; · cases h; simp
                            · rw [hf v'] at h; cases h)
    (.inr (.inl ⟨w.heap.size, grownCap w m 0 e, _, bindR_same, (fun h => by have := hbase _ h; omega), heap_alloc_new w.drew _, hcs, grownCap_le_maxLen w m 0 e hm63, Nat.zero_le _, fun j d hj => by simp at hj, .inl (Nat.le_refl _)⟩)) (by simp) (fun k hk _ => hold k hk)
  refine ⟨_, _, _, _, hxf, .inl rfl, p1, ?_, hR, p2, ⟨rfl, rfl, rfl, by simp, fun k hk => hold k (hbase k hk)⟩, fun b hb => bindR_key (not_key hb)⟩
  have := Rep.own (R := bindR R nk 0 (.at w.heap.size (grownCap w m 0 e) i.size)) (A := AOf S (bindR R nk 0 (.at w.heap.size (grownCap w m 0 e) i.size)) (updH H [(nk, some (0, e, i.size, []))])) (w := w.drew.alloc (.cells (Builtin.zeroCells v.cells m ++ Builtin.zeroCells v.cells (grownCap w m 0 e - m)) e)) nk 0 0 m w.heap.size (grownCap w m 0 e) i.size 0 bindR_same (Nat.ne_of_gt h0) (.inl (by simp)) (by omega)
  simpa using this
theorem gives_app_own {o : Oper} {cl : Call} {s x : Operand} {so xo : Opd} {t e b ver n m : Nat} {i : TypeInfo} {z cs ds : List D} {rs : List Nat} (hr : HRel R S base w H) (hv : Opds R (AOf S R H) w ρ env) (hbase : ∀ k, base k → k < w.heap.size)
    (ho : o.op = .call cl) (hc : cl.callee = .builtin .append) (ha : cl.args.toList = [s, x]) (ht : cl.argTypes.toList = [t, t]) (hu : P.underlying t = some (.slice e)) (hi : P.info? e = some i) (hz : zeroT P e = some z) (hzs : z.length = i.size) (h0 : 0 < i.size)
    (hs : compOpd s = some so) (hx : compOpd x = some xo) (hd : getO env so = .own b ver 0 n) (hH : H b = some (ver, e, i.size, cs)) (hcl0 : n * i.size ≤ cs.length) (hrow : rowD H i.size (getO env xo) = some (m, ds, rs)) (h63 : n + m ≤ 4611686018427387904) (hb : (n + m) * i.bytes ≤ 140737488355328) (h1 : ds.all D.one = true) :
    Gives P R S base w H nk (execOp ρ o) (.own b (ver + 1) 0 (n + m), [(b, some (ver + 1, e, i.size, cs.take (n * i.size) ++ ds))], b :: rs) := by
  have hcl : (cs.take (n * i.size)).length = n * i.size := by rw [List.length_take]; omega
  have hget : ∀ (j : Nat) (d : D), (cs.take (n * i.size))[j]? = some d → cs[j]? = some d := fun j d hj => by
    rw [List.getElem?_take] at hj
    split at hj
    · exact hj
    · cases hj
  have hbk := hr.blk b
  rw [hH] at hbk
  have hfv : R b (ver + 1) = .no := hr.vers b ver e i.size cs hH (ver + 1) (by omega)
  have hvers := hr.vers b ver e i.size cs hH
  have hatb : ∀ g cap sz, R b ver = .at g cap sz → sz ≠ 0 → _ := fun g cap sz hR h0s => hr.at hH hR h0s
  have hOwn : ∀ g cap sz, R b ver = .at g cap sz → Own0 R H b g := fun g cap sz hR => Own0.mk' hH hR
  clear hcl0
  generalize cs.take (n * i.size) = cs0 at *
  have e1 := hv s so hs
  rw [hd] at e1
  obtain ⟨a, c, e2, hdl, news, hnl, hnews, hrep⟩ := rowD_ok hr h0 (hv x xo hx) hrow
  obtain ⟨it, v, hit, hzv, hdz⟩ := zeroT_some hz
  rw [hi] at hit
  cases hit
  -- the row that was there
  have hold : ∃ xs : List Value, xs.length = n * i.size ∧ (∀ j d, cs0[j]? = some d → Rep R (AOf S R H) w (xs.getD j undef) d) ∧ ((ρ s = .slice none 0 0 ∧ n = 0 ∧ xs = [] ∧ R b ver = .nil) ∨ ∃ g cap cur, ρ s = .slice (some ⟨g, 0, none⟩) n cap ∧ w.heap[g]? = some (.cells cur e (0, 0)) ∧ n ≤ cap ∧ cap ≤ maxLen ∧ cur.size = cap * i.size ∧ cur.toList.take (n * i.size) = xs ∧ R b ver = .at g cap i.size ∧ ¬ base g) := by
    rcases e1.own_inv with ⟨hR, _, rfl, ev⟩ | ⟨g, cap, sz, o', hR, h0s, ho', hn, ev⟩
    · have hcs0 : cs0 = [] := List.eq_nil_of_length_eq_zero (by simpa using hcl)
      subst hcs0
      exact ⟨[], by simp, fun j d hj => by simp at hj, .inl ⟨ev, rfl, rfl, hR⟩⟩
    · obtain ⟨vs, rfl, hbg, hw, hvs, hcap, hcll, hrepc⟩ := hatb g cap sz hR h0s
      have ho0 : o' = 0 := by rcases ho' with h | ⟨_, h⟩; · simpa using h
                              · exact absurd rfl h
      subst ho0
      have hle : n * i.size ≤ vs.size := by rw [hvs]; exact Nat.mul_le_mul_right _ (by omega)
      refine ⟨vs.toList.take (n * i.size), by simp; omega, fun j d hj => ?_, .inr ⟨g, cap, vs, by simpa using ev, hw, by omega, hcap, hvs, rfl, hR, hbg⟩⟩
      have hjl : j < n * i.size := by have := (List.getElem?_eq_some_iff.1 hj).1; omega
      have := hrepc _ _ (hget _ _ hj)
      have e3 : (vs.toList.take (n * i.size)).getD j undef = vs.getD j undef := by
        rw [List.getD_eq_getElem?_getD, List.getElem?_take, if_pos hjl, Array.getD_eq_getD_getElem?]
        simp
      rw [e3]
      exact this
  obtain ⟨xs, hxl, hxrep, hcases⟩ := hold
  obtain ⟨v', w', hrun, hcase, hsz, hch, hos, htape, hout⟩ := app_run (P := P) (w := w) (t := t) (ty := o.type) (n := n) (m := m) (c := c) (v := ρ s) (xs := xs) hu hi hzv rfl (zero_size hdz hzs) h0
    (by rcases hcases with ⟨h1, h2, h3, _⟩ | ⟨g, cap, cur, h1, h2, h3, h4, h5, h6, _⟩
        · exact .inl ⟨h1, h2, h3⟩
        · exact .inr ⟨g, cap, cur, h1, h2, h3, h4, h5, h6⟩) hnl hnews (ones_of (by omega) hrep h1) h63 hb
  have hxf : (execOp ρ o).run P w = .ok (.value v') w' := by rw [run_app_op ho hc ha ht, e2, hrun]; rfl
  have hown : ∀ k, (ρ s).ownBlock = some k → Own0 R H b k ∧ ¬ base k := fun k hk => by
    rcases hcases with ⟨h1, _⟩ | ⟨g, cap, cur, h1, _, _, _, _, _, hR, hbg⟩
    · rw [h1] at hk; simp [Value.ownBlock] at hk
    · rw [h1] at hk
      simp only [Value.ownBlock, Option.some.injEq] at hk
      subst hk
      exact ⟨hOwn _ _ _ hR, hbg⟩
  have hch' : ∀ k, k < w.heap.size → ¬ Own0 R H b k → w'.heap[k]? = w.heap[k]? := fun k hk hno => hch k hk (fun e => hno (hown k e.symm).1)
  have hbel : BelowK base w w' := ⟨hos, htape, hout, hsz, fun k hk => hch k (hbase k hk) (fun e => (hown k e.symm).2 hk)⟩
  have hvv : ∀ (x : Bnd) v', ver + 1 < v' → bindR R b (ver + 1) x b v' = .no := fun x v' h => by unfold bindR; rw [if_neg (by omega)]; exact hvers v' (by omega)
  rcases hcase with ⟨rfl, _, rfl, rfl⟩ | ⟨g', cap', cur', rfl, hg, hnc, hcm, hcs, htake, hloc, hglt⟩
  · have hds : ds = [] := List.eq_nil_of_length_eq_zero (by simpa using hdl)
    have hcs0 : cs0 = [] := List.eq_nil_of_length_eq_zero (by simpa using hcl)
    subst hds hcs0
    have hR : ∀ b' v, R b' v ≠ .no → bindR R b (ver + 1) .nil b' v = R b' v := fun b' v h => bindR_other hfv h
    obtain ⟨p1, p2⟩ := hrel_upd (w' := w') (R' := bindR R b (ver + 1) .nil) (b0 := b) (ver := ver + 1) (t := e) (sz := i.size) (cs := []) hr hR (fun b h => bindR_key h) (hvv _)
      (fun v g cap s h => by unfold bindR at h; split at h; · cases h
                             · have := hr.bnd _ _ _ _ _ h; omega) (.inl ⟨bindR_same, rfl⟩) hsz hch'
    exact ⟨_, _, _, _, hxf, .inl rfl, p1, .ownn b (ver + 1) bindR_same, hR, p2, hbel, fun b' hb' => bindR_key (not_key hb')⟩
  · have hbg' : ¬ base g' := by
      rcases hloc with h | h
      · exact fun h' => by have := hbase _ h'; omega
      · exact (hown _ h).2
    have hloc' : w.heap.size ≤ g' ∨ Own0 R H b g' := by
      rcases hloc with h | h
      · exact .inl (by omega)
      · exact .inr (hown _ h).1
    have hR : ∀ b' v, R b' v ≠ .no → bindR R b (ver + 1) (.at g' cap' i.size) b' v = R b' v := fun b' v h => bindR_other hfv h
    obtain ⟨p1, p2⟩ := hrel_upd (w' := w') (R' := bindR R b (ver + 1) (.at g' cap' i.size)) (b0 := b) (ver := ver + 1) (t := e) (sz := i.size) (cs := cs0 ++ ds) hr hR (fun b h => bindR_key h) (hvv _)
      (fun v g cap s h => by unfold bindR at h; split at h; · cases h; exact hglt
                             · have := hr.bnd _ _ _ _ _ h; omega)
      (.inr (.inl ⟨g', cap', cur', bindR_same, hbg', hg, hcs, hcm, by rw [hcs, List.length_append, hcl, hdl, ← Nat.add_mul]; exact Nat.mul_le_mul_right _ hnc, app_cells htake hxl hcl hdl hnl hxrep hrep, hloc'⟩)) hsz hch'
    · refine ⟨_, _, _, _, hxf, .inl rfl, p1, ?_, hR, p2, hbel, fun b' hb' => bindR_key (not_key hb')⟩
      have := Rep.own (R := bindR R b (ver + 1) (.at g' cap' i.size)) (A := AOf S (bindR R b (ver + 1) (.at g' cap' i.size)) (updH H [(b, some (ver + 1, e, i.size, cs0 ++ ds))])) (w := w') b (ver + 1) 0 (n + m) g' cap' i.size 0 bindR_same (Nat.ne_of_gt h0) (.inl (by simp)) (by omega)
      simpa using this
end
end Go.Proofs.YtgimaioeifnajaaGreatDoorK.AI
/-
  The abstract interpreter: arrays, maps, functions as values.
-/
namespace Go.Proofs.YtgimaioeifnajaaGreatDoorK.AI
open Go.RowKit

section
variable {P : Program} {R R' : Nat → Nat → Bnd} {S : Nat → Prop} {base : Nat → Prop} {w w' : World} {H : Nat → Blk} {nk : Nat} {ρ : Operand → Value} {env : Nat → D} {A : Nat → Prop}

theorem intsT_some {u : TypeDesc} {n : Nat} (h : intsT P u = some n) : ∃ e k, u = .array n e ∧ P.underlying e = some (.int k) ∧ sizeT P e = some 1 ∧ aggT P e = some false := by
  unfold intsT at h
  split at h
  · rename_i n' e
    split at h
    · rename_i k hk
      split at h
      · rename_i hc
        cases h
        exact ⟨e, k, rfl, hk, hc.1, hc.2⟩
      · cases h
    · cases h
  · cases h
theorem sizeT_info {e : TypeId} {s : Nat} (h : sizeT P e = some s) : ∃ i, P.info? e = some i ∧ P.cellsOf e = s := by
  unfold sizeT at h
  obtain ⟨i, hi, rfl⟩ := Option.map_eq_some_iff.1 h
  exact ⟨i, hi, by simp [Program.cellsOf, hi]⟩
theorem drop_ex {α : Type} {l : List α} {j : Nat} (h : j < l.length) : ∃ x, l[j]? = some x ∧ l.drop j = x :: l.drop (j + 1) := ⟨l[j]'h, List.getElem?_eq_getElem h, List.drop_eq_getElem_cons h⟩
theorem run_eqItems_ints {e : TypeId} {k : IntKind} (hk : P.underlying e = some (.int k)) (hg : aggT P e = some false) (d : Nat) {xs ys : Array Value} {l m : List D} (hxs : xs.size = l.length) (hys : ys.size = m.length)
    (hx : ∀ j d, l[j]? = some d → Rep R A w (xs.getD j undef) d) (hy : ∀ j d, m[j]? = some d → Rep R A w (ys.getD j undef) d) : ∀ (c j : Nat) (r : Bool), j + c = l.length → eqInts (l.drop j) (m.drop j) = some r →
    (Op.eqItems (d + 1) e 1 xs ys (List.range' j c)).run P w = .ok r w
  | 0, j, r, hl, h => by
    rw [List.drop_eq_nil_of_le (by omega)] at h
    unfold eqInts at h
    split at h
    · cases h
      simp [Op.eqItems]
    · rename_i heq _; cases heq
    · cases h
  | c + 1, j, r, hl, h => by
    obtain ⟨x, hxj, hxd⟩ := drop_ex (l := l) (j := j) (by omega)
    by_cases hm : j < m.length
    · obtain ⟨y, hyj, hyd⟩ := drop_ex (l := m) (j := j) hm
      rw [hxd, hyd] at h
      unfold eqInts at h
      split at h
      · rename_i heq _; cases heq
      · rename_i k1 a l' k2 b m' e1 e2
        cases e1
        cases e2
        split at h
        · rename_i hkk
          subst hkk
          obtain ⟨r', hr', rfl⟩ := Option.map_eq_some_iff.1 h
          have ih := run_eqItems_ints hk hg d hxs hys hx hy c (j + 1) r' (by omega) hr'
          have v1 := (hx _ _ hxj).int_inv
          have v2 := (hy _ _ hyj).int_inv
          have p1 := run_part_cell (P := P) (w := w) hg (getD_some (us := xs) (j := j) (by omega))
          have p2 := run_part_cell (P := P) (w := w) hg (getD_some (us := ys) (j := j) (by omega))
          rw [v1] at p1
          rw [v2] at p2
          simp only [List.range'_succ, Op.eqItems, Sem.run_bind, Nat.mul_one, p1, p2, Result.andThen_ok, run_equalIn_int w d e k1 k a b hk]
          cases hab : a == b
          · simp
          · simpa using ih
        · cases h
      · cases h
    · rw [hxd, List.drop_eq_nil_of_le (Nat.le_of_not_lt hm)] at h
      unfold eqInts at h
      split at h
      · rename_i heq _; cases heq
      · rename_i heq; cases heq
      · cases h
theorem run_equal_ints {t : TypeId} {u : TypeDesc} (hu : P.underlying t = some u) {n : Nat} (hn : intsT P u = some n) {xs ys : Array Value} {l m : List D} (hl : l.length = n) (hxs : xs.size = l.length) (hys : ys.size = m.length)
    (hx : ∀ j d, l[j]? = some d → Rep R A w (xs.getD j undef) d) (hy : ∀ j d, m[j]? = some d → Rep R A w (ys.getD j undef) d) {r : Bool} (h : eqInts l m = some r) : (Op.equal t (.agg xs) (.agg ys)).run P w = .ok r w := by
  obtain ⟨e, k, rfl, hk, hs, hg⟩ := intsT_some hn
  obtain ⟨i, hi, hc⟩ := sizeT_info hs
  unfold Op.equal
  rw [show Op.maxDepth = 9999 + 1 from rfl, run_equalIn_array w 9999 xs ys hu hi, hc, List.range_eq_range']
  exact run_eqItems_ints hk hg 9998 hxs hys hx hy n 0 r (by omega) (by simpa using h)
theorem run_eqGuard_agg {op : BinOp} {t : TypeId} {x y : Operand} {a b : Array Value} (h : P.eqGuardType P.depth t = false) : (eqGuard op t x y (.agg a) (.agg b)).run P w = .ok () w := by
  unfold eqGuard
  split <;> simp [h]
theorem pure_aeq {ne : Bool} {t t' : TypeId} {x y : Operand} {xo yo : Opd} {o : Oper} {u : TypeDesc} {n : Nat} {l m : List D} {r : Bool} (hr : HRel R S base w H) (hv : Opds R (AOf S R H) w ρ env) (ho : o.op = .binOp (if ne then .neq else .eql) t x y t')
    (hx : compOpd x = some xo) (hy : compOpd y = some yo) (hu : P.underlying t = some u) (hg : P.eqGuardType P.depth t = false) (hn : intsT P u = some n) (hd : getO env xo = .agg l) (he : getO env yo = .agg m) (hl : l.length = n) (hi : eqInts l m = some r) :
    Gives P R S base w H nk (execOp ρ o) (.bool (if ne then !r else r), [], []) := by
  have h1 := hv x xo hx
  have h2 := hv y yo hy
  rw [hd] at h1
  rw [he] at h2
  obtain ⟨xs, e1, hxs, hxr⟩ := h1.agg_inv
  obtain ⟨ys, e2, hys, hyr⟩ := h2.agg_inv
  have hq := run_equal_ints hu hn hl hxs hys hxr hyr hi
  refine Gives.pure hr ?_ (.imm (.bool _))
  cases ne <;> simp [execOp, ho, e1, e2, run_eqGuard_agg hg, binOp, hq]

theorem bas_toList (a b : ByteArray) : (a == b) = (a.toList == b.toList) := by
  obtain ⟨⟨l⟩⟩ := a
  obtain ⟨⟨m⟩⟩ := b
  rw [ByteArray.toList_eq, ByteArray.toList_eq]
  show (l.toArray == m.toArray) = (l == m)
  simp
theorem run_eq1 {e : TypeId} {k : Nat} (hk : flatK P e = some k) {x y : Value} {d1 d2 : D} {r : Bool} (h1 : Rep R A w x d1) (h2 : Rep R A w y d2) (h : eq1 k d1 d2 = some r) (d : Nat) : (Op.equalIn (d + 1) e x y).run P w = .ok r w := by
  unfold flatK at hk
  split at hk
  · split at hk
    · rename_i hu
      cases hk
      cases d1 <;> cases d2 <;> simp [eq1] at h
      subst h
      rw [h1.bool_inv, h2.bool_inv]
      exact run_equalIn_bool w d e _ _ hu
    · rename_i q hu
      cases hk
      cases d1 <;> cases d2 <;> simp [eq1] at h
      obtain ⟨rfl, rfl⟩ := h
      rw [h1.int_inv, h2.int_inv]
      exact run_equalIn_int w d e _ _ _ _ hu
    · rename_i hu
      cases hk
      cases d1 <;> cases d2 <;> simp [eq1] at h
      subst h
      rw [h1.str_inv, h2.str_inv, bas_toList]
      exact run_equalIn_string w d e _ _ hu
    · cases hk
  · cases hk
theorem run_eqFields_flat (d : Nat) {xs ys : Array Value} {l m : List D} (hxs : xs.size = l.length) (hys : ys.size = m.length)
    (hx : ∀ j d, l[j]? = some d → Rep R A w (xs.getD j undef) d) (hy : ∀ j d, m[j]? = some d → Rep R A w (ys.getD j undef) d) : ∀ (fs : List Field) (os : List (Nat × Nat)) (r : Bool), flatL P fs = some os → eqAt os l m = some r → (Op.eqFields (d + 1) xs ys fs).run P w = .ok r w
  | [], os, r, hf, h => by
    simp only [flatL, Option.some.injEq] at hf
    subst hf
    simp only [eqAt, Option.some.injEq] at h
    subst h
    simp [Op.eqFields]
  | f :: fs, os, r, hf, h => by
    simp only [flatL] at hf
    split at hf
    · cases hf
    · rename_i hn
      obtain ⟨k, hk, hf⟩ := Option.bind_eq_some_iff.1 hf
      obtain ⟨os', hos, rfl⟩ := Option.map_eq_some_iff.1 hf
      simp only [eqAt] at h
      split at h
      · rename_i a b ha hb
        split at h
        · rename_i r1 hr1
          obtain ⟨r2, hr2, rfl⟩ := Option.map_eq_some_iff.1 h
          have ih := run_eqFields_flat d hxs hys hx hy fs os' r2 hos hr2
          have hg : aggT P f.type = some false := by
            unfold flatK at hk
            split at hk
            · rename_i hc; exact hc.2
            · cases hk
          have p1 := run_part_cell (P := P) (w := w) hg (getD_some (us := xs) (j := f.offset) (by have := (List.getElem?_eq_some_iff.1 ha).1; omega))
          have p2 := run_part_cell (P := P) (w := w) hg (getD_some (us := ys) (j := f.offset) (by have := (List.getElem?_eq_some_iff.1 hb).1; omega))
          have p3 := run_eq1 hk (hx _ _ ha) (hy _ _ hb) hr1 d
          have hn' : f.name ≠ "_" := by simpa using hn
          simp only [Op.eqFields, hn', ne_eq, not_false_eq_true, if_true, Sem.run_bind, p1, p2, p3, Result.andThen_ok]
          cases r1
          · simp
          · simpa using ih
        · cases h
      · cases h
theorem pure_seq {ne : Bool} {t t' : TypeId} {x y : Operand} {xo yo : Opd} {o : Oper} {fs : Array Field} {os : List (Nat × Nat)} {l m : List D} {r : Bool} (hr : HRel R S base w H) (hv : Opds R (AOf S R H) w ρ env) (ho : o.op = .binOp (if ne then .neq else .eql) t x y t')
    (hx : compOpd x = some xo) (hy : compOpd y = some yo) (hu : P.underlying t = some (.struct fs)) (hg : P.eqGuardType P.depth t = false) (hs : P.stoodInHeld t = false) (hf : flatL P fs.toList = some os) (hd : getO env xo = .agg l) (he : getO env yo = .agg m) (hi : eqAt os l m = some r) :
    Gives P R S base w H nk (execOp ρ o) (.bool (if ne then !r else r), [], []) := by
  have h1 := hv x xo hx
  have h2 := hv y yo hy
  rw [hd] at h1
  rw [he] at h2
  obtain ⟨xs, e1, hxs, hxr⟩ := h1.agg_inv
  obtain ⟨ys, e2, hys, hyr⟩ := h2.agg_inv
  have hfo : P.fieldsOf t = fs := by simp [Program.fieldsOf, hu]
  have hq : (Op.equal t (.agg xs) (.agg ys)).run P w = .ok r w := by
    unfold Op.equal
    rw [show Op.maxDepth = 9999 + 1 from rfl, run_equalIn_struct w 9999 t xs ys (by rw [hfo]; exact hu) hs, hfo]
    exact run_eqFields_flat 9998 hxs hys hxr hyr fs.toList os r hf hi
  refine Gives.pure hr ?_ (.imm (.bool _))
  cases ne <;> simp [execOp, ho, e1, e2, run_eqGuard_agg hg, binOp, hq]

theorem nilOp_some {op : BinOp} {k : Nat} {y : Operand} {ne : Bool} (h : nilOp op k y = some ne) : op = (if ne then .neq else .eql) ∧ ((k = 0 ∧ y = .const (.pointer none)) ∨ (k = 1 ∧ y = .const (.slice none 0 0)) ∨ (k = 2 ∧ y = .const (.map none))) := by
  unfold nilOp at h
  split at h <;> cases h <;> simp
theorem pure_isnil {ne : Bool} {t t' : TypeId} {k : Nat} {x y : Operand} {xo : Opd} {o : Oper} {u : TypeDesc} {r : Bool} (hr : HRel R S base w H) (hv : Opds R (AOf S R H) w ρ env) (ho : o.op = .binOp (if ne then .neq else .eql) t x y t')
    (hx : compOpd x = some xo) (hu : P.underlying t = some u) (hk : (k = 0 ∧ (∃ e, u = .pointer e) ∧ y = .const (.pointer none)) ∨ (k = 1 ∧ (∃ e, u = .slice e) ∧ y = .const (.slice none 0 0)) ∨ (k = 2 ∧ (∃ e e', u = .map e e') ∧ y = .const (.map none)))
    (hd : nilD k (getO env xo) = some r) : Gives P R S base w H nk (execOp ρ o) (.bool (if ne then !r else r), [], []) := by
  have h1 := hv x xo hx
  have hw : ∃ vx vy, ρ x = vx ∧ ρ y = vy ∧ (eqGuard (if ne then .neq else .eql) t x y vx vy).run P w = .ok () w ∧ (Op.equal t vx vy).run P w = .ok r w ∧ ((∃ p, vx = .pointer p) ∨ (∃ a n c, vx = .slice a n c) ∨ ∃ m, vx = .map m) := by
    rcases hk with ⟨rfl, ⟨e, rfl⟩, rfl⟩ | ⟨rfl, ⟨e, rfl⟩, rfl⟩ | ⟨rfl, ⟨e, e', rfl⟩, rfl⟩
    · have hy : ρ (.const (.pointer none)) = .pointer none := (hv (.const (.pointer none)) (.c .null) rfl).null_inv
      generalize getO env xo = d at *
      cases d <;> simp only [nilD, reduceCtorEq, Option.some.injEq] at hd
      · subst hd
        refine ⟨_, _, h1.null_inv, hy, ?_, ?_, .inl ⟨_, rfl⟩⟩
        · cases ne <;> simp [eqGuard]
        · unfold Op.equal; rw [show Op.maxDepth = 9999 + 1 from rfl, Op.equalIn]; simp [run_underlying hu]
      · subst hd
        obtain ⟨g, o', us, e1, _⟩ := h1.rp_inv.rp_form
        refine ⟨_, _, e1, hy, ?_, ?_, .inl ⟨_, rfl⟩⟩
        · cases ne <;> simp [eqGuard]
        · unfold Op.equal; rw [show Op.maxDepth = 9999 + 1 from rfl, Op.equalIn]; simp [run_underlying hu]
      · subst hd
        obtain ⟨g, cap, sz, _, _, e1⟩ := h1.ptr_inv
        refine ⟨_, _, e1, hy, ?_, ?_, .inl ⟨_, rfl⟩⟩
        · cases ne <;> simp [eqGuard]
        · unfold Op.equal; rw [show Op.maxDepth = 9999 + 1 from rfl, Op.equalIn]; simp [run_underlying hu]
    · have hy : ρ (.const (.slice none 0 0)) = .slice none 0 0 := (hv (.const (.slice none 0 0)) (.c .nils) rfl).nils_inv
      generalize getO env xo = d at *
      cases d <;> simp only [nilD, reduceCtorEq, Option.some.injEq] at hd
      · subst hd
        refine ⟨_, _, h1.nils_inv, hy, ?_, ?_, .inr (.inl ⟨_, _, _, rfl⟩)⟩
        · cases ne <;> simp [eqGuard]
        · unfold Op.equal; rw [show Op.maxDepth = 9999 + 1 from rfl, Op.equalIn]; simp [run_underlying hu]
      · rename_i n cs
        cases n <;> cases cs <;> simp only [nilD, reduceCtorEq, Option.some.injEq] at hd
        subst hd
        obtain ⟨a, c, g, o', us, e1, _, _, ha, _⟩ := h1.sl_inv.sl_form
        rw [ha (by simp)] at e1
        refine ⟨_, _, e1, hy, ?_, ?_, .inr (.inl ⟨_, _, _, rfl⟩)⟩
        · cases ne <;> simp [eqGuard]
        · unfold Op.equal; rw [show Op.maxDepth = 9999 + 1 from rfl, Op.equalIn]; simp [run_underlying hu]
      · rename_i b ver off n
        cases n <;> simp only [nilD, reduceCtorEq, Option.some.injEq] at hd
        subst hd
        rcases h1.own_inv with ⟨_, _, h, _⟩ | ⟨g, cap, sz, o', _, _, _, _, e1⟩
        · cases h
        · refine ⟨_, _, e1, hy, ?_, ?_, .inr (.inl ⟨_, _, _, rfl⟩)⟩
          · cases ne <;> simp [eqGuard]
          · unfold Op.equal; rw [show Op.maxDepth = 9999 + 1 from rfl, Op.equalIn]; simp [run_underlying hu]
    · have hy : ρ (.const (.map none)) = .map none := (hv (.const (.map none)) (.c .nilm) rfl).nilm_inv
      generalize getO env xo = d at *
      cases d <;> simp only [nilD, reduceCtorEq, Option.some.injEq] at hd
      · subst hd
        refine ⟨_, _, h1.nilm_inv, hy, ?_, ?_, .inr (.inr ⟨_, rfl⟩)⟩
        · cases ne <;> simp [eqGuard]
        · unfold Op.equal; rw [show Op.maxDepth = 9999 + 1 from rfl, Op.equalIn]; simp [run_underlying hu]
      · subst hd
        obtain ⟨g, _, e1⟩ := h1.mo_inv
        refine ⟨_, _, e1, hy, ?_, ?_, .inr (.inr ⟨_, rfl⟩)⟩
        · cases ne <;> simp [eqGuard]
        · unfold Op.equal; rw [show Op.maxDepth = 9999 + 1 from rfl, Op.equalIn]; simp [run_underlying hu]
      · subst hd
        obtain ⟨g, es, c, e1, _⟩ := h1.mf_inv
        refine ⟨_, _, e1, hy, ?_, ?_, .inr (.inr ⟨_, rfl⟩)⟩
        · cases ne <;> simp [eqGuard]
        · unfold Op.equal; rw [show Op.maxDepth = 9999 + 1 from rfl, Op.equalIn]; simp [run_underlying hu]
  obtain ⟨vx, vy, e1, e2, g1, g2, hform⟩ := hw
  refine Gives.pure hr (v := .bool (if ne then !r else r)) ?_ (.imm (.bool _))
  rw [← e1, ← e2] at g1 g2
  rcases hform with ⟨p, hp⟩ | ⟨a, n, c, hp⟩ | ⟨m, hp⟩ <;> (rw [e1, hp] at g1 g2; cases ne <;> simp_all [execOp, binOp])
theorem pure_idxA_agg {t e : TypeId} {x y : Operand} {xo yo : Opd} {o : Oper} {n s : Nat} {cs : List D} {k : IntKind} {i : Int} (hr : HRel R S base w H) (hv : Opds R (AOf S R H) w ρ env) (ho : o.op = .index t x y)
    (hu : P.underlying t = some (.array n e)) (hs : sizeT P e = some s) (hg : aggT P e = some true) (hx : compOpd x = some xo) (hy : compOpd y = some yo) (hd : getO env xo = .agg cs) (he : getO env yo = .int k i) (h0 : 0 ≤ i) (h1 : i < n)
    (hl : i.toNat * s + s ≤ cs.length) : Gives P R S base w H nk (execOp ρ o) (.agg ((cs.drop (i.toNat * s)).take s), [], []) := by
  have h2 := hv x xo hx
  have h3 := hv y yo hy
  rw [hd] at h2
  rw [he] at h3
  obtain ⟨us, e1, hsz, h⟩ := h2.agg_inv
  refine Gives.pure hr (v := .agg (us.extract (i.toNat * s) (i.toNat * s + s))) ?_ ?_
  · simp [execOp, ho, e1, h3.int_inv, Instr.index, asIntOf, run_underlying hu, h0, h1, run_size hs, run_part_agg hg hs]
  · refine .agg _ _ (by simp; omega) (fun j d hj => ?_)
    rw [List.getElem?_take] at hj
    split at hj
    · rename_i hjs
      rw [List.getElem?_drop] at hj
      have := h _ _ hj
      have e2 : (us.extract (i.toNat * s) (i.toNat * s + s)).getD j undef = us.getD (i.toNat * s + j) undef := by
        rw [Array.getD_eq_getD_getElem?, Array.getD_eq_getD_getElem?, Array.getElem?_extract, if_pos (by omega)]
      rw [e2]
      exact this
    · cases hj
theorem pure_idxA_cell {t e : TypeId} {x y : Operand} {xo yo : Opd} {o : Oper} {n s : Nat} {cs : List D} {d : D} {k : IntKind} {i : Int} (hr : HRel R S base w H) (hv : Opds R (AOf S R H) w ρ env) (ho : o.op = .index t x y)
    (hu : P.underlying t = some (.array n e)) (hs : sizeT P e = some s) (hg : aggT P e = some false) (hx : compOpd x = some xo) (hy : compOpd y = some yo) (hd : getO env xo = .agg cs) (he : getO env yo = .int k i) (h0 : 0 ≤ i) (h1 : i < n)
    (hl : cs[i.toNat * s]? = some d) : Gives P R S base w H nk (execOp ρ o) (d, [], []) := by
  have h2 := hv x xo hx
  have h3 := hv y yo hy
  rw [hd] at h2
  rw [he] at h3
  obtain ⟨us, e1, hsz, h⟩ := h2.agg_inv
  have hlt : i.toNat * s < us.size := by rw [hsz]; exact (List.getElem?_eq_some_iff.1 hl).1
  refine Gives.pure hr (v := us.getD (i.toNat * s) undef) ?_ (h _ _ hl)
  simp [execOp, ho, e1, h3.int_inv, Instr.index, asIntOf, run_underlying hu, h0, h1, run_size hs, run_part_cell hg (getD_some hlt)]

/-! keys -/
theorem eq_of_bas {s s' : ByteArray} (h : (s == s') = true) : s = s' := by
  have h2 : (s.data == s'.data) = true := h
  have h3 : s.data = s'.data := by simpa using h2
  exact ByteArray.ext h3
theorem run_checkKey_ints {t : TypeId} {u : TypeDesc} (hu : P.underlying t = some u) {n : Nat} (hn : intsT P u = some n) {b : Bool} {xs : Array Value} {l : List D} (hl : l.length = n) (hxs : xs.size = l.length)
    (hx : ∀ j d, l[j]? = some d → Rep R A w (xs.getD j undef) d) (hi : (eqInts l l).isSome = true) : (Instr.checkKey b 10000 t (.agg xs)).run P w = .ok () w := by
  obtain ⟨e, k, rfl, hk, hs, hg⟩ := intsT_some hn
  have h1 : ∀ v : Value, (Instr.checkKey b 9999 e v).run P w = .ok () w := fun v => by
    rw [show (9999 : Nat) = 9998 + 1 from rfl, Instr.checkKey]
    cases v <;> simp [run_underlying hk]
  rw [show (10000 : Nat) = 9999 + 1 from rfl, Instr.checkKey]
  simp only [Sem.run_bind, run_underlying hu, Result.andThen_ok]
  simp only [Std.Legacy.Range.forIn_eq_forIn_range', Std.Legacy.Range.size, Nat.sub_zero, Nat.add_one_sub_one, Nat.div_one]
  have hall : ∀ i ∈ List.range' 0 n, i < xs.size := fun i hi => by have := List.mem_range'.1 hi; omega
  revert hall
  generalize List.range' 0 n = is
  intro hall
  induction is with
  | nil => simp
  | cons j is ih =>
    have p1 := run_part_cell (P := P) (w := w) hg (getD_some (us := xs) (j := j) (hall j (List.mem_cons_self)))
    simp only [List.forIn_cons, Sem.run_bind, run_size hs, Result.andThen_ok, Nat.mul_one, p1, h1, Sem.run_pure]
    exact ih (fun i hi => hall i (List.mem_cons_of_mem _ hi))

def kvl (es : List MapEntry) (j : Nat) : Value := match es[j / 2]? with
  | some e => if j % 2 = 0 then e.key else e.val
  | none => undef
theorem kvv_list (es : Array MapEntry) (j : Nat) : kvv es j = kvl es.toList j := by simp [kvv, kvl]
theorem kvl_two (e : MapEntry) (l : List MapEntry) (j : Nat) : kvl (e :: l) (j + 2) = kvl l j := by
  simp only [kvl, show (j + 2) / 2 = j / 2 + 1 by omega, show (j + 2) % 2 = j % 2 by omega, List.getElem?_cons_succ]
theorem findD_ind {k : D} {kvs : List D} {r : Option Nat} (h : findD k kvs = some r) : (kvs = [] ∧ r = none) ∨ ∃ k' v l, kvs = k' :: v :: l ∧ ((eqK k k' = some true ∧ r = some 0) ∨ (eqK k k' = some false ∧ ∃ r', findD k l = some r' ∧ r = r'.map (· + 1))) := by
  unfold findD at h
  split at h
  · cases h; exact .inl ⟨rfl, rfl⟩
  · rename_i k' v l
    right
    refine ⟨k', v, l, rfl, ?_⟩
    split at h
    · rename_i h1; cases h; exact .inl ⟨h1, rfl⟩
    · rename_i h1
      obtain ⟨r', hr', rfl⟩ := Option.map_eq_some_iff.1 h
      exact .inr ⟨h1, r', hr', rfl⟩
    · cases h
  · cases h
theorem eqK_str {s : ByteArray} {d : D} {b : Bool} (h : eqK (.str s) d = some b) : ∃ s', d = .str s' ∧ b = (s == s') := by
  cases d <;> simp [eqK] at h
  exact ⟨_, rfl, h.symm⟩
theorem eqK_agg {l : List D} {d : D} {b : Bool} (h : eqK (.agg l) d = some b) : ∃ m, d = .agg m ∧ eqInts l m = some b := by
  cases d <;> simp [eqK] at h
  exact ⟨_, rfl, h⟩
theorem same_ints : ∀ {l m : List D} {xs ys : List Value}, eqInts l m = some true → xs.length = l.length → ys.length = m.length → (∀ j d, l[j]? = some d → Rep R A w (xs.getD j undef) d) → (∀ j d, m[j]? = some d → Rep R A w (ys.getD j undef) d) → ys = xs
  | [], m, xs, ys, h, hx, hy, _, _ => by
    cases m with
    | nil => rw [List.eq_nil_of_length_eq_zero hx, List.eq_nil_of_length_eq_zero hy]
    | cons y m => simp [eqInts] at h
  | x :: l, [], xs, ys, h, hx, hy, _, _ => by cases x <;> simp [eqInts] at h
  | x :: l, y :: m, xs, ys, h, hx, hy, h1, h2 => by
    cases xs with
    | nil => simp at hx
    | cons u xs =>
      cases ys with
      | nil => simp at hy
      | cons v ys =>
        unfold eqInts at h
        split at h
        · rename_i heq _; cases heq
        · rename_i k1 a l' k2 b m' e1 e2
          cases e1
          cases e2
          split at h
          · rename_i hkk
            subst hkk
            obtain ⟨r', hr', he⟩ := Option.map_eq_some_iff.1 h
            simp only [Bool.and_eq_true, beq_iff_eq] at he
            obtain ⟨hab, rfl⟩ := he
            subst hab
            have v1 := (h1 0 _ rfl).int_inv
            have v2 := (h2 0 _ rfl).int_inv
            simp at v1 v2
            rw [v1, v2, same_ints (xs := xs) (ys := ys) hr' (by simpa using hx) (by simpa using hy) (fun j d hj => by simpa using h1 (j + 1) d (by simpa using hj)) (fun j d hj => by simpa using h2 (j + 1) d (by simpa using hj))]
          · cases h
        · cases h
theorem sameBits_ints : ∀ {l m : List D} {xs : List Value}, eqInts l m = some true → xs.length = l.length → (∀ j d, l[j]? = some d → Rep R A w (xs.getD j undef) d) → ∀ n, ((xs.zip xs).all fun (x, y) => Instr.sameBits n x y) = true
  | [], m, xs, h, hx, _, n => by rw [List.eq_nil_of_length_eq_zero hx]; rfl
  | x :: l, [], xs, h, hx, _, n => by cases x <;> simp [eqInts] at h
  | x :: l, y :: m, xs, h, hx, h1, n => by
    cases xs with
    | nil => simp at hx
    | cons u xs =>
      unfold eqInts at h
      split at h
      · rename_i heq _; cases heq
      · rename_i k1 a l' k2 b m' e1 e2
        cases e1
        cases e2
        split at h
        · rename_i hkk
          subst hkk
          obtain ⟨r', hr', he⟩ := Option.map_eq_some_iff.1 h
          simp only [Bool.and_eq_true, beq_iff_eq] at he
          obtain ⟨hab, rfl⟩ := he
          subst hab
          have v1 := (h1 0 _ rfl).int_inv
          simp at v1
          have ih := sameBits_ints hr' (by simpa using hx) (fun j d hj => by simpa using h1 (j + 1) d (by simpa using hj)) n
          rw [v1, List.zip_cons_cons, List.all_cons, ih]
          simp [Instr.sameBits]
        · cases h
      · cases h
def Found (P : Program) (w : World) (kt : TypeId) (k : Value) (es : List MapEntry) (r : Option Nat) : Prop := match r with
  | none => (Instr.findKey kt k es).run P w = .ok none w
  | some i => ∃ e, es[i]? = some e ∧ (Instr.findKey kt k es).run P w = .ok (some (i, e.val)) w ∧ Instr.sameBits 10000 e.key k = true
theorem findNow_str {s : ByteArray} : ∀ (kvs : List D) (es : List MapEntry) (i0 : Nat) (r : Option Nat), findD (.str s) kvs = some r → kvs.length = 2 * es.length → (∀ j d, kvs[j]? = some d → Rep R A w (kvl es j) d) →
    (r = none → Instr.findNow .string (.string s) es i0 = some none) ∧ ∀ i, r = some i → ∃ e, es[i]? = some e ∧ Instr.findNow .string (.string s) es i0 = some (some (i0 + i, e.val)) ∧ Instr.sameBits 10000 e.key (.string s) = true
  | kvs, [], i0, r, h, hl, hk => by
    have : kvs = [] := List.eq_nil_of_length_eq_zero (by simpa using hl)
    subst this
    simp [findD] at h
    subst h
    exact ⟨fun _ => rfl, fun i hi => by cases hi⟩
  | kvs, e :: es, i0, r, h, hl, hk => by
    rcases findD_ind h with ⟨rfl, _⟩ | ⟨k', v, l, rfl, hc⟩
    · simp at hl
    · rcases hc with ⟨hq, rfl⟩ | ⟨hq, r', hr', rfl⟩
      · obtain ⟨s', rfl, hb⟩ := eqK_str hq
        have ek := (hk 0 _ rfl).str_inv
        simp [kvl] at ek
        refine ⟨fun h => (by cases h), fun i hi => ?_⟩
        cases hi
        have hss : s = s' := eq_of_bas hb.symm
        subst hss
        exact ⟨e, rfl, by rw [Instr.findNow, ek]; simp only [Instr.sameNow, ← hb, Nat.add_zero], by rw [ek, show (10000 : Nat) = 9999 + 1 from rfl]; simp only [Instr.sameBits, ← hb]⟩
      · obtain ⟨s', rfl, hb⟩ := eqK_str hq
        have ek := (hk 0 _ rfl).str_inv
        simp [kvl] at ek
        obtain ⟨h1, h2⟩ := findNow_str l es (i0 + 1) r' hr' (by simp at hl; omega) (fun j d hj => by have := hk (j + 2) d (by simpa using hj); rwa [kvl_two] at this)
        have hstep : Instr.findNow .string (.string s) (e :: es) i0 = Instr.findNow .string (.string s) es (i0 + 1) := by
          rw [Instr.findNow, ek]
          simp only [Instr.sameNow, ← hb]
        rw [hstep]
        refine ⟨fun h => h1 (by simpa using h), fun i hi => ?_⟩
        obtain ⟨i', hi', rfl⟩ := Option.map_eq_some_iff.1 hi
        obtain ⟨e', h3, h4, h5⟩ := h2 i' hi'
        exact ⟨e', by simpa using h3, by rw [h4, show i0 + 1 + i' = i0 + (i' + 1) by omega], h5⟩
theorem findAsking_ints {t : TypeId} {u : TypeDesc} (hu : P.underlying t = some u) {n : Nat} (hn : intsT P u = some n) {xs : Array Value} {m : List D} (hm : m.length = n) (hxs : xs.size = m.length)
    (hx : ∀ j d, m[j]? = some d → Rep R A w (xs.getD j undef) d) : ∀ (kvs : List D) (es : List MapEntry) (i0 : Nat) (r : Option Nat), findD (.agg m) kvs = some r → kvs.length = 2 * es.length → (∀ j d, kvs[j]? = some d → Rep R A w (kvl es j) d) →
    (r = none → (Instr.findAsking t (.agg xs) es i0).run P w = .ok none w) ∧ ∀ i, r = some i → ∃ e, es[i]? = some e ∧ (Instr.findAsking t (.agg xs) es i0).run P w = .ok (some (i0 + i, e.val)) w ∧ Instr.sameBits 10000 e.key (.agg xs) = true
  | kvs, [], i0, r, h, hl, hk => by
    have : kvs = [] := List.eq_nil_of_length_eq_zero (by simpa using hl)
    subst this
    simp [findD] at h
    subst h
    exact ⟨fun _ => by simp [Instr.findAsking], fun i hi => by cases hi⟩
  | kvs, e :: es, i0, r, h, hl, hk => by
    rcases findD_ind h with ⟨rfl, _⟩ | ⟨k', v, l, rfl, hc⟩
    · simp at hl
    · rcases hc with ⟨hq, rfl⟩ | ⟨hq, r', hr', rfl⟩
      · obtain ⟨m', rfl, hb⟩ := eqK_agg hq
        have hk0 := hk 0 _ rfl
        have ek0 : kvl (e :: es) 0 = e.key := by simp [kvl]
        rw [ek0] at hk0
        obtain ⟨ys, ek, hys, hyr⟩ := hk0.agg_inv
        refine ⟨fun h => (by cases h), fun i hi => ?_⟩
        cases hi
        have hrun := run_equal_ints hu hn hm hxs hys hx hyr hb
        refine ⟨e, rfl, by simp [Instr.findAsking, ek, hrun], ?_⟩
        have hsame := same_ints (R := R) (A := A) (w := w) (xs := xs.toList) (ys := ys.toList) hb (by simpa using hxs) (by simpa using hys) (fun j d hj => by have := hx j d hj; simpa [List.getD, Array.getD_eq_getD_getElem?] using this) (fun j d hj => by have := hyr j d hj; simpa [List.getD, Array.getD_eq_getD_getElem?] using this)
        have hyx : ys = xs := by rw [← Array.toArray_toList (xs := ys), hsame, Array.toArray_toList]
        subst hyx
        rw [ek, show (10000 : Nat) = 9999 + 1 from rfl, Instr.sameBits, sameBits_ints (R := R) (A := A) (w := w) hb (by simpa using hxs) (fun j d hj => by have := hx j d hj; simpa [List.getD, Array.getD_eq_getD_getElem?] using this)]
        simp
      · obtain ⟨m', rfl, hb⟩ := eqK_agg hq
        have hk0 := hk 0 _ rfl
        have ek0 : kvl (e :: es) 0 = e.key := by simp [kvl]
        rw [ek0] at hk0
        obtain ⟨ys, ek, hys, hyr⟩ := hk0.agg_inv
        have hrun := run_equal_ints hu hn hm hxs hys hx hyr hb
        obtain ⟨h1, h2⟩ := findAsking_ints hu hn hm hxs hx l es (i0 + 1) r' hr' (by simp at hl; omega) (fun j d hj => by have := hk (j + 2) d (by simpa using hj); rwa [kvl_two] at this)
        have hstep : (Instr.findAsking t (.agg xs) (e :: es) i0).run P w = (Instr.findAsking t (.agg xs) es (i0 + 1)).run P w := by
          rw [Instr.findAsking, ek]
          simp [hrun]
        rw [hstep]
        refine ⟨fun h => h1 (by simpa using h), fun i hi => ?_⟩
        obtain ⟨i', hi', rfl⟩ := Option.map_eq_some_iff.1 hi
        obtain ⟨e', h3, h4, h5⟩ := h2 i' hi'
        exact ⟨e', by simpa using h3, by rw [h4, show i0 + 1 + i' = i0 + (i' + 1) by omega], h5⟩
theorem keyN_cases {t : TypeId} {kn : Option Nat} (h : keyN P t = some kn) : (P.underlying t = some .string ∧ kn = none) ∨ ∃ u n, P.underlying t = some u ∧ intsT P u = some n ∧ kn = some n := by
  unfold keyN at h
  obtain ⟨u, hu, h⟩ := Option.bind_eq_some_iff.1 h
  split at h
  · cases h; exact .inl ⟨hu, rfl⟩
  · obtain ⟨n, hn, rfl⟩ := Option.map_eq_some_iff.1 h
    exact .inr ⟨u, n, hu, hn, rfl⟩
theorem key_found {kt : TypeId} {kn : Option Nat} {k : Value} {kd : D} {es : Array MapEntry} {kvs : List D} {r : Option Nat} (hkn : keyN P kt = some kn) (hkd : kd.key kn = true) (hk : Rep R A w k kd) (hl : kvs.length = 2 * es.size)
    (hv : ∀ j d, kvs[j]? = some d → Rep R A w (kvv es j) d) (hf : findD kd kvs = some r) (b : Bool) : (Instr.checkKey b 10000 kt k).run P w = .ok () w ∧ Found P w kt k es.toList r := by
  have hv' : ∀ j d, kvs[j]? = some d → Rep R A w (kvl es.toList j) d := fun j d hj => by rw [← kvv_list]; exact hv j d hj
  rcases keyN_cases hkn with ⟨hu, rfl⟩ | ⟨u, n, hu, hn, rfl⟩
  · cases kd <;> simp [D.key] at hkd
    rename_i s
    obtain rfl := hk.str_inv
    refine ⟨by rw [show (10000 : Nat) = 9999 + 1 from rfl, Instr.checkKey]; simp [run_underlying hu], ?_⟩
    obtain ⟨h1, h2⟩ := findNow_str kvs es.toList 0 r hf (by simpa using hl) hv'
    cases r with
    | none => simp [Found, Instr.findKey, run_underlying hu, h1 rfl]
    | some i =>
      obtain ⟨e, h3, h4, h5⟩ := h2 i rfl
      exact ⟨e, h3, by simp [Instr.findKey, run_underlying hu, h4], h5⟩
  · cases kd <;> simp [D.key] at hkd
    rename_i m
    obtain ⟨xs, rfl, hxs, hx⟩ := hk.agg_inv
    refine ⟨run_checkKey_ints hu hn hkd.1 hxs hx hkd.2, ?_⟩
    obtain ⟨h1, h2⟩ := findAsking_ints hu hn hkd.1 hxs hx kvs es.toList 0 r hf (by simpa using hl) hv'
    obtain ⟨e, k, rfl, _⟩ := intsT_some hn
    have hstep : (Instr.findKey kt (.agg xs) es.toList).run P w = (Instr.findAsking kt (.agg xs) es.toList).run P w ∨ es.toList = [] := by
      cases he : es.toList with
      | nil => exact .inr rfl
      | cons e0 es' =>
        left
        simp [Instr.findKey, run_underlying hu, Instr.findNow, Instr.sameNow]
    cases r with
    | none =>
      rcases hstep with h | h
      · simp only [Found]; rw [h]; exact h1 rfl
      · simp [Found, h, Instr.findKey, run_underlying hu, Instr.findNow]
    | some i =>
      obtain ⟨e, h3, h4, h5⟩ := h2 i rfl
      rcases hstep with h | h
      · exact ⟨e, h3, by rw [h, h4]; simp, h5⟩
      · rw [h] at h3; simp at h3
end
end Go.Proofs.YtgimaioeifnajaaGreatDoorK.AI
/-
  The abstract interpreter: maps that are made, read, written; rows cut out of arrays; freezing.
-/
namespace Go.Proofs.YtgimaioeifnajaaGreatDoorK.AI
open Go.RowKit

def frz (H : Nat → Blk) (ks : List Nat) : Nat → Blk := fun b => if b ∈ ks then none else H b

section
variable {P : Program} {R R' : Nat → Nat → Bnd} {S : Nat → Prop} {base : Nat → Prop} {w w' : World} {H : Nat → Blk} {nk : Nat} {ρ : Operand → Value} {env : Nat → D} {A : Nat → Prop}

theorem AOf.frz {ks : List Nat} {g : Nat} (h : AOf S R (frz H ks) g) : AOf S R H g := by
  rcases h with h | ⟨b, ver, t, sz, cs, cap, sz', hb, hR⟩
  · exact .inl h
  · unfold AI.frz at hb
    split at hb
    · cases hb
    · exact .inr ⟨b, ver, t, sz, cs, cap, sz', hb, hR⟩
theorem RepI.weak {A A' : Nat → Prop} {v : Value} {d : D} (h : RepI A w v d) (hA : ∀ g, A' g → A g) : RepI A' w v d := h.mono (fun g _ hg => ⟨fun h => hg (hA g h), Same.refl _ g⟩)

theorem HRel.frz (hr : HRel R S base w H) (ks : List Nat) : HRel R S base w (frz H ks) where
  blk := fun b => by
    unfold AI.frz
    split
    · exact trivial
    · have hb := hr.blk b
      cases hH : H b with
      | none => exact trivial
      | some x =>
        obtain ⟨v, t, s, cs⟩ := x
        rw [hH] at hb
        rcases hb with h | ⟨g, cap, vs, h1, h2, h3, h4, h5, h6, h7⟩ | ⟨g, es, c, kvs, h1, h2, h3, h4, h5, h6, h7⟩
        · exact .inl h
        · exact .inr (.inl ⟨g, cap, vs, h1, h2, h3, h4, h5, h6, fun j d hj => (h7 j d hj).mono (fun _ _ _ => rfl) (fun g _ hg => ⟨fun h => hg h.frz, Same.refl _ g⟩)⟩)
        · exact .inr (.inr ⟨g, es, c, kvs, h1, h2, h3, h4, h5, h6, fun j d hj => (h7 j d hj).mono (fun _ _ _ => rfl) (fun g _ hg => ⟨fun h => hg h.frz, Same.refl _ g⟩)⟩)
  vers := fun b ver t sz cs h => by
    unfold AI.frz at h
    split at h
    · cases h
    · exact hr.vers b ver t sz cs h
  inj := fun b b' ver ver' t t' sz sz' cs cs' g cap cap' s s' h h' => by
    unfold AI.frz at h h'
    split at h
    · cases h
    · split at h'
      · cases h'
      · exact hr.inj b b' ver ver' t t' sz sz' cs cs' g cap cap' s s' h h'
  ext := hr.ext
  bnd := hr.bnd
theorem updH_none (ks : List Nat) : ∀ H : Nat → Blk, updH H (ks.map fun b => (b, none)) = frz H ks := by
  induction ks with
  | nil => intro H; funext c; simp [updH, AI.frz]
  | cons b l ih =>
    intro H
    rw [List.map_cons, updH, ih]
    funext c
    simp only [AI.frz, List.mem_cons]
    by_cases h : c ∈ l
    · simp [h]
    · by_cases h2 : c = b <;> simp [h, h2]
theorem compOpds_get : ∀ {l : List Operand} {as : List Opd}, compOpds l = some as → as.length = l.length ∧ ∀ (j : Nat) (d : Opd), as[j]? = some d → ∃ x, l[j]? = some x ∧ compOpd x = some d
  | [], as, h => by simp [compOpds] at h; subst h; simp
  | x :: l, as, h => by
    simp only [compOpds, Option.bind_eq_some_iff, Option.some.injEq] at h
    obtain ⟨d, hd, r, hr, rfl⟩ := h
    obtain ⟨h1, h2⟩ := compOpds_get hr
    refine ⟨by simp [h1], fun j y hj => ?_⟩
    cases j with
    | zero => simp at hj; subst hj; exact ⟨x, rfl, hd⟩
    | succ j => exact h2 j y (by simpa using hj)
theorem gives_mkfn {o : Oper} {f : FuncId} {first captured : Array Operand} {cs : List Opd} (hr : HRel R S base w H) (hv : Opds R (AOf S R H) w ρ env) (ho : o.op = .makeFunc (.func f) first captured) (h0 : first.size = 0)
    (hx : compOpds captured.toList = some cs) : Gives P R S base w H nk (execOp ρ o) (.fn f (cs.map (getO env)), [], []) := by
  obtain ⟨h1, h2⟩ := compOpds_get hx
  have e1 : first = #[] := Array.eq_empty_of_size_eq_zero h0
  refine Gives.pure hr (v := .func (.func f) #[] (captured.map ρ)) (by simp [execOp, ho, Instr.makeFunc, e1]) (.fn f _ _ (by simp [h1]) (fun j d hj => ?_))
  rw [List.getElem?_map] at hj
  obtain ⟨xo, hxo, rfl⟩ := Option.map_eq_some_iff.1 hj
  obtain ⟨x, hxj, hc⟩ := h2 j xo hxo
  have hjl : captured[j]? = some x := by simpa using hxj
  have e2 : (captured.map ρ).getD j undef = ρ x := by rw [Array.getD_eq_getD_getElem?, Array.getElem?_map, hjl]; rfl
  rw [e2]
  exact hv x xo hc

theorem zero1_some {t : TypeId} {z : D} (h : zero1 P t = some z) : ∃ v, (zeroValue t).run P w = .ok v w ∧ Rep R A w v z := by
  unfold zero1 at h
  obtain ⟨v, hv, hz⟩ := Option.bind_eq_some_iff.1 h
  obtain ⟨i, hi, hv⟩ := Option.bind_eq_some_iff.1 hv
  exact ⟨v, run_zero hi hv, rep_const hz⟩
theorem lookD_some {k : D} {kvs : List D} {r : Option D} (h : lookD k kvs = some r) : (findD k kvs = some none ∧ r = none) ∨ ∃ i d, findD k kvs = some (some i) ∧ kvs[2 * i + 1]? = some d ∧ r = some d := by
  unfold lookD at h
  obtain ⟨q, hq, h⟩ := Option.bind_eq_some_iff.1 h
  cases q with
  | none => simp at h; exact .inl ⟨hq, h.symm⟩
  | some i =>
    obtain ⟨d, hd, rfl⟩ := Option.map_eq_some_iff.1 h
    exact .inr ⟨i, d, hq, hd, rfl⟩
theorem rep_found {ok : Bool} {z d : D} {v : Value} (h : Rep R A w v d) : Rep R A w (if ok then .tuple #[v, .bool true] else v) (foundD ok z (some d)) := by
  cases ok
  · exact h
  · refine .tup _ _ rfl (fun j x hj => ?_)
    rcases j with _ | _ | j
    · simp at hj; subst hj; simpa using h
    · simp at hj; subst hj; exact .imm (.bool true)
    · simp at hj
theorem rep_unfound {ok : Bool} {z : D} {v : Value} (h : Rep R A w v z) : Rep R A w (if ok then .tuple #[v, .bool false] else v) (foundD ok z none) := by
  cases ok
  · exact h
  · refine .tup _ _ rfl (fun j x hj => ?_)
    rcases j with _ | _ | j
    · simp at hj; subst hj; simpa using h
    · simp at hj; subst hj; exact .imm (.bool false)
    · simp at hj
theorem run_look {t kt et : TypeId} {kn : Option Nat} {xv k : Value} {kd z : D} {es : Array MapEntry} {kvs : List D} {r : Option D} (hx : (xv = .map none ∧ es = #[]) ∨ ∃ g c, xv = .map (some g) ∧ w.heap[g]? = some (.map es c)) (hu : P.underlying t = some (.map kt et))
    (hkn : keyN P kt = some kn) (hkd : kd.key kn = true) (hk : Rep R A w k kd) (hl : kvs.length = 2 * es.size) (hv : ∀ j d, kvs[j]? = some d → Rep R A w (kvv es j) d) (hz : zero1 P et = some z) (hf : lookD kd kvs = some r) (ok : Bool) :
    ∃ v, (Instr.lookup t xv k ok).run P w = .ok v w ∧ Rep R A w v (foundD ok z r) := by
  have hes : ∀ (Q : Array MapEntry → Sem Value), ((match xv with
    | .map none => pure #[]
    | .map (some r) => do
      let .map es _ ← getObj r | stuck "Lookup: map expected"
      pure es
    | _ => stuck "Lookup: map expected" : Sem (Array MapEntry)).run P w) = .ok es w := fun _ => by
    rcases hx with ⟨rfl, rfl⟩ | ⟨g, c, rfl, hg⟩
    · rfl
    · simp [MapKept.run_getObj_map hg]
  rcases lookD_some hf with ⟨hfd, rfl⟩ | ⟨i, d, hfd, hd, rfl⟩
  · obtain ⟨h1, h2⟩ := key_found hkn hkd hk hl hv hfd es.isEmpty
    obtain ⟨zv, hz1, hz2⟩ := zero1_some (R := R) (A := A) (w := w) hz
    simp only [Found] at h2
    refine ⟨_, ?_, rep_unfound hz2⟩
    rcases hx with ⟨rfl, rfl⟩ | ⟨g, c, rfl, hg⟩
    · simp at h1 h2; simp [Instr.lookup, run_underlying hu, h1, h2, hz1]
    · simp [Instr.lookup, run_underlying hu, MapKept.run_getObj_map hg, h1, h2, hz1]
  · obtain ⟨h1, e, h3, h4, h5⟩ := key_found hkn hkd hk hl hv hfd es.isEmpty
    have hrep := hv _ _ hd
    have e2 : kvv es (2 * i + 1) = e.val := by
      have : es[i]? = some e := by simpa using h3
      simp only [kvv, show (2 * i + 1) / 2 = i by omega, this, show (2 * i + 1) % 2 = 1 by omega]
      simp
    rw [e2] at hrep
    refine ⟨_, ?_, rep_found hrep⟩
    rcases hx with ⟨rfl, rfl⟩ | ⟨g, c, rfl, hg⟩
    · simp at h3
    · simp [Instr.lookup, run_underlying hu, MapKept.run_getObj_map hg, h1, h4]
theorem gives_look {t kt et : TypeId} {x k : Operand} {xo ko : Opd} {ok : Bool} {o : Oper} {kn : Option Nat} {z : D} {kvs : List D} {r : Option D} {rs : List Nat} (hr : HRel R S base w H) (hv : Opds R (AOf S R H) w ρ env) (ho : o.op = .lookup t x k ok)
    (hu : P.underlying t = some (.map kt et)) (hkn : keyN P kt = some kn) (hz : zero1 P et = some z) (hx : compOpd x = some xo) (hk : compOpd k = some ko) (hkd : (getO env ko).key kn = true)
    (hd : (∃ b ver t' s', getO env xo = .mo b ver ∧ H b = some (ver, t', s', [.mp kvs])) ∨ getO env xo = .mf kvs ∨ (getO env xo = .nilm ∧ kvs = [])) (hf : lookD (getO env ko) kvs = some r) :
    Gives P R S base w H nk (execOp ρ o) (foundD ok z r, [], rs) := by
  have h1 := hv x xo hx
  have h2 := hv k ko hk
  have hget : ∃ es, ((ρ x = .map none ∧ es = #[]) ∨ ∃ g c, ρ x = .map (some g) ∧ w.heap[g]? = some (.map es c)) ∧ kvs.length = 2 * es.size ∧ ∀ j d, kvs[j]? = some d → Rep R (AOf S R H) w (kvv es j) d := by
    rcases hd with ⟨b, ver, t', s', hd, hH⟩ | hd | ⟨hd, rfl⟩
    · rw [hd] at h1
      obtain ⟨g, hR, e⟩ := h1.mo_inv
      obtain ⟨es, c, _, _, _, _, hg, hl, hrep⟩ := hr.mapAt hH hR
      exact ⟨es, .inr ⟨g, c, e, hg⟩, hl, hrep⟩
    · rw [hd] at h1
      obtain ⟨g, es, c, e, _, hg, hl, hrep⟩ := h1.mf_inv
      exact ⟨es, .inr ⟨g, c, e, hg⟩, hl, fun j d hj => .imm (hrep j d hj)⟩
    · rw [hd] at h1
      exact ⟨#[], .inl ⟨h1.nilm_inv, rfl⟩, rfl, fun j d hj => by simp at hj⟩
  obtain ⟨es, hx', hl, hrep⟩ := hget
  obtain ⟨v, hrun, hv'⟩ := run_look hx' hu hkn hkd h2 hl hrep hz hf ok
  exact Gives.pure hr (by simp [execOp, ho, hrun]) hv'

theorem gives_mkmap {t : TypeId} {o : Oper} (hr : HRel R S base w H) (hf : ∀ v, R nk v = .no) (hH : H nk = none) (hbase : ∀ k, base k → k < w.heap.size) (ho : o.op = .makeMap t none) :
    Gives P R S base w H nk (execOp ρ o) (.mo nk 0, [(nk, some (0, t, 0, [.mp []]))], []) := by
  have hR : ∀ b v, R b v ≠ .no → bindR R nk 0 (.at w.heap.size 0 0) b v = R b v := fun b v h => bindR_other (hf 0) h
  obtain ⟨h1, h2⟩ := hrel_upd (w' := { w with heap := w.heap.push (.map #[] 0) }) (b0 := nk) (ver := 0) (t := t) (sz := 0) (cs := [.mp []]) hr hR (fun b h => bindR_key h)
    (fun v' h => by unfold bindR; rw [if_neg (by omega)]; exact hf v')
    (fun v g cap' s' h => by
      unfold bindR at h
      split at h
      · cases h; simp
      · rw [hf v] at h; cases h)
    (.inr (.inr ⟨w.heap.size, #[], 0, [], bindR_same, rfl, (fun h => Nat.lt_irrefl _ (hbase _ h)), by simp, rfl, rfl, fun j d hj => by simp at hj, .inl (Nat.le_refl _)⟩)) (by simp) (fun k hk _ => by simp [Array.getElem?_push, Nat.ne_of_lt hk])
  refine ⟨_, _, _, .map (some w.heap.size), ?_, .inl rfl, ⟨h1, .mo nk 0 _ bindR_same, hR, h2, (BelowK.refl base w).alloc hbase _, fun b hb => bindR_key (not_key hb)⟩⟩
  simp [execOp, ho, Instr.makeMap, newObj, Sem.run]
theorem kvv_push {es : Array MapEntry} {e : MapEntry} {kvs : List D} {kd yd : D} (hl : kvs.length = 2 * es.size) (hv : ∀ j d, kvs[j]? = some d → Rep R A w (kvv es j) d) (hk : Rep R A w e.key kd) (hy : Rep R A w e.val yd) :
    ∀ j d, (kvs ++ [kd, yd])[j]? = some d → Rep R A w (kvv (es.push e) j) d := fun j d hj => by
  by_cases hc : j < kvs.length
  · rw [List.getElem?_append_left hc] at hj
    have := hv j d hj
    have e2 : kvv (es.push e) j = kvv es j := by simp only [kvv]; rw [Array.getElem?_push, if_neg (by omega)]
    rw [e2]; exact this
  · rw [List.getElem?_append_right (by omega)] at hj
    have hj2 : j - kvs.length < 2 := by have := (List.getElem?_eq_some_iff.1 hj).1; simpa using this
    have e2 : (es.push e)[j / 2]? = some e := by rw [Array.getElem?_push, if_pos (by omega)]
    simp only [kvv, e2]
    rcases (by omega : j - kvs.length = 0 ∨ j - kvs.length = 1) with h | h
    · rw [h] at hj
      simp at hj
      subst hj
      rw [if_pos (by omega)]
      exact hk
    · rw [h] at hj
      simp at hj
      subst hj
      rw [if_neg (by omega)]
      exact hy
theorem kvv_modify {es : Array MapEntry} {k y : Value} {kvs : List D} {kd yd : D} {i : Nat} (hl : kvs.length = 2 * es.size) (hv : ∀ j d, kvs[j]? = some d → Rep R A w (kvv es j) d) (hi : i < es.size) (hk : Rep R A w k kd) (hy : Rep R A w y yd) :
    ∀ j d, ((kvs.set (2 * i) kd).set (2 * i + 1) yd)[j]? = some d → Rep R A w (kvv (es.modify i fun e => { e with key := k, val := y }) j) d := fun j d hj => by
  have e0 : (es.modify i fun e => { e with key := k, val := y })[j / 2]? = if i = j / 2 then es[j / 2]?.map (fun e => { e with key := k, val := y }) else es[j / 2]? := by
    rw [Array.getElem?_modify]
  have hii : es[i]? = some es[i] := by simp [hi]
  rw [List.getElem?_set] at hj
  split at hj
  · rename_i h
    subst h
    split at hj
    · cases hj
      have e1 : (2 * i + 1) / 2 = i := by omega
      rw [e1, if_pos rfl, hii] at e0
      simp only [kvv, e1, e0, Option.map_some]
      rw [if_neg (by omega)]
      exact hy
    · cases hj
  · rename_i h
    rw [List.getElem?_set] at hj
    split at hj
    · rename_i h'
      subst h'
      split at hj
      · cases hj
        have e1 : (2 * i) / 2 = i := by omega
        rw [e1, if_pos rfl, hii] at e0
        simp only [kvv, e1, e0, Option.map_some]
        rw [if_pos (by omega)]
        exact hk
      · cases hj
    · rename_i h'
      rw [if_neg (by omega)] at e0
      have := hv j d hj
      simp only [kvv, e0]
      exact this
theorem gives_mput {t kt et : TypeId} {x k y : Operand} {xo ko yo : Opd} {o : Oper} {kn : Option Nat} {b ver t' s' : Nat} {kvs kvs' : List D} (hr : HRel R S base w H) (hv : Opds R (AOf S R H) w ρ env) (ho : o.op = .mapUpdate t x k y ∨ o.op = .insert t x k y)
    (hu : P.underlying t = some (.map kt et)) (hkn : keyN P kt = some kn) (hx : compOpd x = some xo) (hk : compOpd k = some ko) (hy : compOpd y = some yo) (hkd : (getO env ko).key kn = true) (hd : getO env xo = .mo b ver) (hH : H b = some (ver, t', s', [.mp kvs]))
    (hp : putM (getO env ko) (getO env yo) kvs = some kvs') : Gives P R S base w H nk (execOp ρ o) (.un, [(b, some (ver, t', s', [.mp kvs']))], [b]) := by
  have h1 := hv x xo hx
  have h2 := hv k ko hk
  have h3 := hv y yo hy
  rw [hd] at h1
  obtain ⟨g, hR, e1⟩ := h1.mo_inv
  obtain ⟨es, c, _, _, hs0, hbg, hg, hl, hrep⟩ := hr.mapAt hH hR
  subst hs0
  have hown : Own0 R H b g := ⟨ver, t', 0, [.mp kvs], 0, 0, hH, hR⟩
  have hlt : g < w.heap.size := (Array.getElem?_eq_some_iff.1 hg).1
  -- what is written
  have hwr : ∃ es' c', (Instr.mapUpdate t (ρ x) (ρ k) (ρ y)).run P w = .ok () { w with heap := w.heap.setIfInBounds g (.map es' c') } ∧ kvs'.length = 2 * es'.size ∧ ∀ j d, kvs'[j]? = some d → Rep R (AOf S R H) w (kvv es' j) d := by
    unfold putM at hp
    obtain ⟨q, hq, rfl⟩ := Option.map_eq_some_iff.1 hp
    obtain ⟨hck, hfd⟩ := key_found hkn hkd h2 hl hrep hq false
    cases q with
    | none =>
      simp only [Found] at hfd
      refine ⟨es.push { key := ρ k, val := ρ y, born := c }, c + 1, ?_, by simp; omega, kvv_push hl hrep h2 h3⟩
      simp [Instr.mapUpdate, run_underlying hu, e1, MapKept.run_getObj_map hg, hck, hfd, MapKept.run_setObj_map _ hg]
    | some i =>
      obtain ⟨e, h4, h5, h6⟩ := hfd
      have hie : es[i]? = some e := by simpa using h4
      refine ⟨es.modify i fun e => { e with key := ρ k, val := ρ y }, c, ?_, by simp; omega, kvv_modify hl hrep (Array.getElem?_eq_some_iff.1 hie).1 h2 h3⟩
      simp [Instr.mapUpdate, run_underlying hu, e1, MapKept.run_getObj_map hg, hck, h5, hie, Instr.keyThatStays, h6, MapKept.run_setObj_map _ hg]
  obtain ⟨es', c', hrun, hl', hrep'⟩ := hwr
  have hch : ∀ k, k < w.heap.size → ¬ Own0 R H b k → ({ w with heap := w.heap.setIfInBounds g (.map es' c') } : World).heap[k]? = w.heap[k]? := fun k _ hk => by
    have hne : g ≠ k := fun e => hk (e ▸ hown)
    simp [Array.getElem?_setIfInBounds, hne]
  obtain ⟨p1, p2⟩ := hrel_upd (R' := R) (w' := { w with heap := w.heap.setIfInBounds g (.map es' c') }) (b0 := b) (ver := ver) (t := t') (sz := 0) (cs := [.mp kvs']) hr (fun _ _ _ => rfl) (fun _ _ => rfl) (fun v' hlt => hr.vers b ver t' 0 _ hH v' hlt)
    (fun v g cap s h => by simpa using hr.bnd b v g cap s h)
    (.inr (.inr ⟨g, es', c', kvs', (by have := h1.mo_inv; obtain ⟨g2, hR2, e2⟩ := this; rw [e1] at e2; cases e2; exact hR2), rfl, hbg, by simp [hlt], rfl, hl', hrep', .inr hown⟩)) (by simp) hch
  exact ⟨_, _, R, undef, by rcases ho with ho | ho <;> simp [execOp, ho, hrun], .inr ⟨rfl, rfl⟩, p1, .imm (.un _), fun _ _ _ => rfl, p2, ⟨rfl, rfl, rfl, by simp, fun k hk => by
    have hne : g ≠ k := fun e => hbg (e ▸ hk)
    simp [Array.getElem?_setIfInBounds, hne]⟩, fun _ _ => rfl⟩
theorem Rep.frozen_inv {v : Value} {d : D} (h : Rep R A w v d) (hi : d.frozen = true) : RepI A w v d := by
  cases h with
  | imm h => exact h
  | agg => simp [D.frozen] at hi
  | tup => simp [D.frozen] at hi
  | own => simp [D.frozen] at hi
  | ownn => simp [D.frozen] at hi
  | ptr => simp [D.frozen] at hi
  | fn => simp [D.frozen] at hi
  | mo => simp [D.frozen] at hi
theorem HRel.own_base (hr : HRel R S base w H) {b ver t sz g cap s : Nat} {cs : List D} (hb : H b = some (ver, t, sz, cs)) (hR : R b ver = .at g cap s) : ¬ base g := by
  have h := hr.blk b
  rw [hb] at h
  rcases h with ⟨h1, _⟩ | ⟨g', cap', vs, h1, h2, _⟩ | ⟨g', es, c, kvs, h1, _, h2, _⟩
  · rw [hR] at h1; cases h1
  · rw [hR] at h1; cases h1; exact h2
  · rw [hR] at h1; cases h1; exact h2
theorem HRel.last (hr : HRel R S base w H) {b ver t sz g cap s : Nat} {cs : List D} {ks : List Nat} (hb : H b = some (ver, t, sz, cs)) (hR : R b ver = .at g cap s) (hbg : ¬ base g) (hk : b ∈ ks) : ¬ AOf S R (AI.frz H ks) g := by
  intro hA
  rcases hA with hS | ⟨b', ver', t', sz', cs', cap', s', hb', hR'⟩
  · exact hbg (hr.ext g hS)
  · unfold AI.frz at hb'
    split at hb'
    · cases hb'
    · rename_i hnk
      have := hr.inj _ _ _ _ _ _ _ _ _ _ _ _ _ _ _ hb hb' hR hR'
      subst this
      exact hnk hk
theorem run_slcA {t e n s : Nat} {p : Addr} (hu : P.underlying t = some (.array n e)) (hs : sizeT P e = some s) (hn : n ≠ 0) : (Instr.sliceAt t (.pointer (some p)) none none none).run P w = .ok (.slice (some p) n n) w := by
  have h0 : p.add 0 = p := by unfold Addr.add; split <;> simp_all
  simp [Instr.sliceAt, run_underlying hu, Instr.sureAddr, Instr.sliceBounds, run_size hs, hn, h0]
theorem gives_slcA_ptr {t e n s : Nat} {x : Operand} {xo : Opd} {o : Oper} {b ver off t' sz : Nat} {cs : List D} (hr : HRel R S base w H) (hv : Opds R (AOf S R H) w ρ env) (ho : o.op = .slice t x none none none)
    (hu : P.underlying t = some (.array n e)) (hs : sizeT P e = some s) (hn : n ≠ 0) (hn2 : n < 1000) (hx : compOpd x = some xo) (hd : getO env xo = .ptr b ver off) (hH : H b = some (ver, t', sz, cs))
    (hl : off + n * s ≤ cs.length) (hz : ((cs.drop off).take (n * s)).all D.frozen = true) : Gives P R S base w H nk (execOp ρ o) (.sl n ((cs.drop off).take (n * s)), [(b, none)], [b]) := by
  have h1 := hv x xo hx
  rw [hd] at h1
  obtain ⟨g, cap, sz', hR, h0s, e1⟩ := h1.ptr_inv
  obtain ⟨vs, rfl, hbg, hw, hvs, hcap, hcl, hrep⟩ := hr.at hH hR h0s
  have hfr : updH H [(b, none)] = AI.frz H [b] := updH_none [b] H
  refine ⟨_, w, R, .slice (some ⟨g, off, none⟩) n n, by simp [execOp, ho, e1, run_slcA hu hs hn], .inl rfl, ?_, ?_, fun _ _ _ => rfl, ?_, BelowK.refl _ _, fun _ _ => rfl⟩
  · show HRel R S base w (updH H [(b, none)])
    rw [hfr]
    exact hr.frz _
  · show Rep R (AOf S R (updH H [(b, none)])) w _ _
    rw [hfr]
    have hget : ∀ (j : Nat) (d : D), ((cs.drop off).take (n * s))[j]? = some d → j < n * s ∧ cs[off + j]? = some d ∧ d.frozen = true := fun j d hj => by
      have hf := List.all_eq_true.1 hz d (List.mem_of_getElem? hj)
      rw [List.getElem?_take] at hj
      split at hj
      · rename_i hjs
        rw [List.getElem?_drop] at hj
        exact ⟨hjs, hj, hf⟩
      · cases hj
    refine .imm (.sl _ n n _ g off (fun j => vs.getD (off + j) undef) (Nat.le_refl _) (by simp [maxLen]; omega) (fun _ => rfl) (fun _ => hr.last hH hR hbg (List.mem_singleton.2 rfl)) (fun j d hj => ?_) (fun j d hj => ?_))
    · obtain ⟨h2, h3, _⟩ := hget j d hj
      rw [cellv_of_block hw, getD_some (by have := (List.getElem?_eq_some_iff.1 h3).1; omega)]
    · obtain ⟨h2, h3, h4⟩ := hget j d hj
      exact ((hrep _ _ h3).frozen_inv h4).weak (fun g hg => hg.frz)
  · intro g' _ hA
    exact ⟨fun h => hA (by rw [show updH H [(b, none)] = AI.frz H [b] from hfr] at h; exact h.frz), Same.refl _ _⟩
theorem gives_slcA_rp {t e n s : Nat} {x : Operand} {xo : Opd} {o : Oper} {cs : List D} (hr : HRel R S base w H) (hv : Opds R (AOf S R H) w ρ env) (ho : o.op = .slice t x none none none)
    (hu : P.underlying t = some (.array n e)) (hs : sizeT P e = some s) (hn : n ≠ 0) (hn2 : n < 1000) (hx : compOpd x = some xo) (hd : getO env xo = .rp cs) :
    Gives P R S base w H nk (execOp ρ o) (.sl n (cs.take (n * s)), [], []) := by
  have h1 := hv x xo hx
  rw [hd] at h1
  obtain ⟨g, o', us, e1, hA, hu', h⟩ := h1.rp_inv.rp_form
  have hne : cs.take (n * s) ≠ [] → cs ≠ [] := fun h e => h (by simp [e])
  refine Gives.pure hr (v := .slice (some ⟨g, o', none⟩) n n) (by simp [execOp, ho, e1, run_slcA hu hs hn]) (.imm (.sl _ n n _ g o' us (Nat.le_refl _) (by simp [maxLen]; omega) (fun _ => rfl) (fun h => hA (hne h)) (fun j d hj => ?_) (fun j d hj => ?_)))
  · rw [List.getElem?_take] at hj
    split at hj
    · exact hu' _ _ hj
    · cases hj
  · rw [List.getElem?_take] at hj
    split at hj
    · exact h _ _ hj
    · cases hj
end
end Go.Proofs.YtgimaioeifnajaaGreatDoorK.AI
/-
  The abstract interpreter, part 10: every operation but a call of a Go function does what stepF says.
-/
namespace Go.Proofs.YtgimaioeifnajaaGreatDoorK.AI
open Go.RowKit

section
variable {P : Program} {R : Nat → Nat → Bnd} {S : Nat → Prop} {base : Nat → Prop} {w : World} {H : Nat → Blk} {nk : Nat} {ρ : Operand → Value} {env : Nat → D}

theorem sliceT_some {t e : TypeId} (h : sliceT P t = some e) : P.underlying t = some (.slice e) := by
  unfold sliceT at h
  obtain ⟨d, hd, h⟩ := Option.bind_eq_some_iff.1 h
  split at h
  · cases h; exact hd
  · cases h
theorem all_one_boxable {d : D} (h : d.cells.all D.one = true) : d.boxable = true := by
  cases d <;> simp_all [D.cells, D.boxable, D.one]
theorem slice_sound {o : Oper} {io : IOp} {e : Eff} {t : TypeId} {x : Operand} {lo hi : Option Operand} (ho : o.op = .slice t x lo hi none) (hc : compSlice P t x lo hi = some io) (hr : HRel R S base w H) (hv : Opds R (AOf S R H) w ρ env)
    (hs : stepF env H nk io = some e) : Gives P R S base w H nk (execOp ρ o) e := by
  unfold compSlice at hc
  split at hc
  · rename_i hu
    simp only [Option.map_eq_some_iff, Option.bind_eq_some_iff] at hc
    obtain ⟨xo, hx, loo, hlo, hio, hhi, rfl⟩ := hc
    simp only [stepF] at hs
    split at hs
    · rename_i s hd
      simp only [Option.bind_eq_some_iff] at hs
      obtain ⟨h, hbh, l, hbl, hs⟩ := hs
      split at hs
      · rename_i hcond
        cases hs
        exact gives_slcS hr hv ho hu hx hlo hhi hd hbh hbl hcond.1 hcond.2.1 hcond.2.2
      · cases hs
    · cases hs
  · rename_i e' hu
    simp only [Option.map_eq_some_iff, Option.bind_eq_some_iff] at hc
    obtain ⟨s, hsz, xo, hx, loo, hlo, hio, hhi, rfl⟩ := hc
    simp only [stepF] at hs
    split at hs
    · rename_i b ver off n hd
      simp only [Option.bind_eq_some_iff] at hs
      obtain ⟨_, hHb, h, hbh, l, hbl, hs⟩ := hs
      split at hHb
      · rename_i v t' s' cs hHb'
        split at hHb
        · rename_i hvs
          obtain ⟨rfl, rfl⟩ := hvs
          split at hs
          · rename_i hcond
            cases hs
            exact gives_slcL_own hr hv ho hu hsz hx hlo hhi hd hHb' hbh hbl hcond.1 hcond.2.1 hcond.2.2
          · cases hs
        · cases hHb
      · cases hHb
    · rename_i n cs hd
      simp only [Option.bind_eq_some_iff] at hs
      obtain ⟨h, hbh, l, hbl, hs⟩ := hs
      split at hs
      · rename_i hcond
        cases hs
        exact gives_slcL_sl hr hv ho hu hsz hx hlo hhi hd hbh hbl hcond.1 hcond.2.1 hcond.2.2
      · cases hs
    · rename_i hd
      simp only [Option.bind_eq_some_iff] at hs
      obtain ⟨h, hbh, l, hbl, hs⟩ := hs
      split at hs
      · rename_i hcond
        obtain ⟨rfl, rfl⟩ := hcond
        cases hs
        exact gives_slcL_nils hr hv ho hu hsz hx hlo hhi hd hbh hbl
      · cases hs
    · cases hs
  · cases hc
theorem opSound_a {o : Oper} {io : IOp} {e : Eff} (hc : compOp P o.op = some io) (hr : HRel R S base w H) (hv : Opds R (AOf S R H) w ρ env) (hf : ∀ v, R nk v = .no) (hH : H nk = none) (hbase : ∀ k, base k → k < w.heap.size)
    (hs : stepF env H nk io = some e) (hcall : ∀ c, o.op ≠ .call c) : Gives P R S base w H nk (execOp ρ o) e := by
  cases ho : o.op <;> rw [ho] at hc <;> simp only [compOp, Option.map_eq_some_iff, Option.bind_eq_some_iff, reduceCtorEq] at hc
  case move x =>
    obtain ⟨xo, hx, rfl⟩ := hc
    simp only [stepF, Option.some.injEq] at hs
    subst hs
    exact pure_mv hr hv (.inl ho) hx
  case assign x =>
    obtain ⟨xo, hx, rfl⟩ := hc
    simp only [stepF, Option.some.injEq] at hs
    subst hs
    exact pure_mv hr hv (.inr ho) hx
  case pick c a b =>
    obtain ⟨co, hco, ao, ha, bo, hb, rfl⟩ := hc
    simp only [stepF] at hs
    split at hs
    · rename_i t ht
      cases hs
      exact pure_pick hr hv ho hco ha hb ht
    · cases hs
  case alloc t =>
    obtain ⟨z, hz, hc⟩ := hc
    split at hc
    · rename_i h0
      cases hc
      simp only [stepF, Option.some.injEq] at hs
      subst hs
      exact gives_alloc hr hf hH hbase ho hz h0.2
    · cases hc
  case box t x =>
    obtain ⟨s, hsz, hc⟩ := hc
    split at hc
    · cases hc
    · rename_i h0
      simp only [Option.map_eq_some_iff] at hc
      obtain ⟨xo, hx, rfl⟩ := hc
      simp only [stepF] at hs
      split at hs
      · rename_i h
        cases hs
        exact gives_box hr hv hf hH hbase ho hx h.1 h.2 h0
      · cases hs
  case build t parts =>
    obtain ⟨z, hz, hc⟩ := hc
    split at hc
    · rename_i fs hu
      simp only [Option.map_eq_some_iff, Option.bind_eq_some_iff] at hc
      obtain ⟨places, hpl, ps, hp, rfl⟩ := hc
      simp only [stepF, Option.map_eq_some_iff] at hs
      obtain ⟨cs, hcs, rfl⟩ := hs
      exact gives_build_struct hr hv ho hu hz hpl hp hcs
    · rename_i n e' hu
      simp only [Option.map_eq_some_iff, Option.bind_eq_some_iff] at hc
      obtain ⟨s, hsz, ps, hp, rfl⟩ := hc
      simp only [stepF, Option.map_eq_some_iff] at hs
      obtain ⟨cs, hcs, rfl⟩ := hs
      exact gives_build_array hr hv ho hu hz hsz hp hcs
    · cases hc
  case buildSlice t n parts =>
    obtain ⟨e', he, z, hz, s, hsz, hc⟩ := hc
    split at hc
    · rename_i h
      simp only [Option.map_eq_some_iff] at hc
      obtain ⟨ps, hp, rfl⟩ := hc
      simp only [stepF, Option.map_eq_some_iff] at hs
      obtain ⟨cs, hcs, rfl⟩ := hs
      exact gives_lit hr hv hf hH hbase ho (sliceT_some he) hz hsz h.1 h.2.1 h.2.2 hp hcs
    · cases hc
  case load t x =>
    obtain ⟨g, hg, s, hsz, xo, hx, rfl⟩ := hc
    simp only [stepF] at hs
    split at hs
    · rename_i b ver off hd
      split at hs
      · rename_i v t' s' cs hHb
        split at hs
        · rename_i hvv
          subst hvv
          split at hs
          · rename_i hga
            subst hga
            split at hs
            · rename_i hle
              cases hs
              exact gives_load_ptr_agg hr hv ho hg hsz hx hd hHb hle
            · cases hs
          · rename_i hga
            have hga : g = false := by simpa using hga
            subst hga
            simp only [Option.map_eq_some_iff] at hs
            obtain ⟨d, hcd, rfl⟩ := hs
            exact gives_load_ptr_cell hr hv ho hg hx hd hHb hcd
        · cases hs
      · cases hs
    · rename_i cs hd
      split at hs
      · rename_i hga
        subst hga
        split at hs
        · rename_i hle
          cases hs
          exact gives_load_rp_agg hr hv ho hg hsz hx hd hle
        · cases hs
      · rename_i hga
        have hga : g = false := by simpa using hga
        subst hga
        simp only [Option.map_eq_some_iff] at hs
        obtain ⟨d, hcd, rfl⟩ := hs
        exact gives_load_rp_cell hr hv ho hg hx hd hcd
    · cases hs
  case store t x y =>
    obtain ⟨s, hsz, xo, hx, yo, hy, rfl⟩ := hc
    simp only [stepF] at hs
    split at hs
    · rename_i b ver off hd
      split at hs
      · rename_i v t' s' cs hHb
        split at hs
        · rename_i h
          obtain ⟨rfl, h1, h2, h3⟩ := h
          cases hs
          exact gives_store hr hv ho hsz hx hy hd hHb h1 h2 h3 (all_one_boxable h3)
        · cases hs
      · cases hs
    · cases hs
  case nilCheck x =>
    obtain ⟨xo, hx, rfl⟩ := hc
    simp only [stepF] at hs
    split at hs
    · rename_i b ver o' hd
      cases hs
      have := pure_nilck (P := P) (nk := nk) hr hv ho hx (.inl ⟨b, ver, o', hd⟩)
      rwa [hd] at this
    · rename_i cs hd
      cases hs
      have := pure_nilck (P := P) (nk := nk) hr hv ho hx (.inr ⟨cs, hd⟩)
      rwa [hd] at this
    · cases hs
  case binOp op t x y t' =>
    split at hc
    · rename_i hu
      simp only [Option.map_eq_some_iff, Option.bind_eq_some_iff] at hc
      obtain ⟨xo, hx, yo, hy, rfl⟩ := hc
      simp only [stepF] at hs
      split at hs
      · rename_i a b hd he
        cases hs
        exact pure_beq (ne := false) hr hv (by simpa using ho) hx hy hu hd he
      · cases hs
    · rename_i hu
      simp only [Option.map_eq_some_iff, Option.bind_eq_some_iff] at hc
      obtain ⟨xo, hx, yo, hy, rfl⟩ := hc
      simp only [stepF] at hs
      split at hs
      · rename_i a b hd he
        cases hs
        exact pure_beq (ne := true) hr hv (by simpa using ho) hx hy hu hd he
      · cases hs
    · simp only [Option.map_eq_some_iff, Option.bind_eq_some_iff] at hc
      obtain ⟨xo, hx, yo, hy, rfl⟩ := hc
      simp only [stepF, Option.map_eq_some_iff] at hs
      obtain ⟨d, hd, rfl⟩ := hs
      exact pure_bin hr hv ho hx hy hd
    · simp only [Option.map_eq_some_iff, Option.bind_eq_some_iff] at hc
      obtain ⟨xo, hx, yo, hy, rfl⟩ := hc
      simp only [stepF, Option.map_eq_some_iff] at hs
      obtain ⟨d, hd, rfl⟩ := hs
      exact pure_bin hr hv ho hx hy hd
    · rename_i e' hu
      simp only [Option.map_eq_some_iff, Option.bind_eq_some_iff] at hc
      obtain ⟨ne, hne, xo, hx, rfl⟩ := hc
      obtain ⟨rfl, hy⟩ := nilOp_some hne
      simp only [stepF, Option.map_eq_some_iff] at hs
      obtain ⟨r, hd, rfl⟩ := hs
      exact pure_isnil hr hv ho hx hu (by simp at hy; subst hy; simp) hd
    · rename_i e' hu
      simp only [Option.map_eq_some_iff, Option.bind_eq_some_iff] at hc
      obtain ⟨ne, hne, xo, hx, rfl⟩ := hc
      obtain ⟨rfl, hy⟩ := nilOp_some hne
      simp only [stepF, Option.map_eq_some_iff] at hs
      obtain ⟨r, hd, rfl⟩ := hs
      exact pure_isnil hr hv ho hx hu (by simp at hy; subst hy; simp) hd
    · rename_i e' e2 hu
      simp only [Option.map_eq_some_iff, Option.bind_eq_some_iff] at hc
      obtain ⟨ne, hne, xo, hx, rfl⟩ := hc
      obtain ⟨rfl, hy⟩ := nilOp_some hne
      simp only [stepF, Option.map_eq_some_iff] at hs
      obtain ⟨r, hd, rfl⟩ := hs
      exact pure_isnil hr hv ho hx hu (by simp at hy; subst hy; simp) hd
    · rename_i fs hu
      split at hc
      · cases hc
      · rename_i hg
        simp only [Option.map_eq_some_iff, Option.bind_eq_some_iff] at hc
        obtain ⟨os, hn, xo, hx, yo, hy, rfl⟩ := hc
        simp only [stepF] at hs
        split at hs
        · rename_i l m hd he
          obtain ⟨r, hq, rfl⟩ := Option.map_eq_some_iff.1 hs
          simp only [Bool.or_eq_true, not_or, Bool.not_eq_true] at hg
          exact pure_seq (ne := false) hr hv (by simpa using ho) hx hy hu hg.1 hg.2 hn hd he hq
        · cases hs
    · rename_i fs hu
      split at hc
      · cases hc
      · rename_i hg
        simp only [Option.map_eq_some_iff, Option.bind_eq_some_iff] at hc
        obtain ⟨os, hn, xo, hx, yo, hy, rfl⟩ := hc
        simp only [stepF] at hs
        split at hs
        · rename_i l m hd he
          obtain ⟨r, hq, rfl⟩ := Option.map_eq_some_iff.1 hs
          simp only [Bool.or_eq_true, not_or, Bool.not_eq_true] at hg
          exact pure_seq (ne := true) hr hv (by simpa using ho) hx hy hu hg.1 hg.2 hn hd he hq
        · cases hs
    · rename_i u hu
      split at hc
      · cases hc
      · rename_i hg
        simp only [Option.map_eq_some_iff, Option.bind_eq_some_iff] at hc
        obtain ⟨n, hn, xo, hx, yo, hy, rfl⟩ := hc
        simp only [stepF] at hs
        split at hs
        · rename_i l m hd he
          split at hs
          · rename_i hl
            obtain ⟨r, hq, rfl⟩ := Option.map_eq_some_iff.1 hs
            exact pure_aeq (ne := false) hr hv (by simpa using ho) hx hy hu (by simpa using hg) hn hd he hl hq
          · cases hs
        · cases hs
    · rename_i u hu
      split at hc
      · cases hc
      · rename_i hg
        simp only [Option.map_eq_some_iff, Option.bind_eq_some_iff] at hc
        obtain ⟨n, hn, xo, hx, yo, hy, rfl⟩ := hc
        simp only [stepF] at hs
        split at hs
        · rename_i l m hd he
          split at hs
          · rename_i hl
            obtain ⟨r, hq, rfl⟩ := Option.map_eq_some_iff.1 hs
            exact pure_aeq (ne := true) hr hv (by simpa using ho) hx hy hu (by simpa using hg) hn hd he hl hq
          · cases hs
        · cases hs
    · cases hc
  case unOp op t x =>
    cases op <;> simp only [Option.map_eq_some_iff, reduceCtorEq] at hc
    case neg =>
      obtain ⟨xo, hx, rfl⟩ := hc
      simp only [stepF] at hs
      split at hs
      · rename_i k n hd
        cases hs
        exact pure_neg hr hv ho hx hd
      · cases hs
    case not =>
      obtain ⟨xo, hx, rfl⟩ := hc
      simp only [stepF] at hs
      split at hs
      · rename_i b hd
        cases hs
        exact pure_not hr hv ho hx hd
      · cases hs
  case convert t t' x =>
    split at hc
    · rename_i k0 k hu hu'
      simp only [Option.map_eq_some_iff] at hc
      obtain ⟨xo, hx, rfl⟩ := hc
      simp only [stepF] at hs
      split at hs
      · rename_i k1 n hd
        cases hs
        exact pure_conv hr hv ho hu hu' hx hd
      · cases hs
    · rename_i e hu hu'
      split at hc
      · rename_i he
        simp only [Option.map_eq_some_iff] at hc
        obtain ⟨xo, hx, rfl⟩ := hc
        simp only [stepF] at hs
        split at hs
        · rename_i m ds rs hrow
          split at hs
          · rename_i l hl
            cases hs
            exact gives_bstr hr hv ho hu he hu' hx hrow hl
          · cases hs
        · cases hs
      · cases hc
    · cases hc
  case makeSlice t l c =>
    cases l <;> cases c <;> simp only [reduceCtorEq] at hc
    case tmp.tmp l c =>
      split at hc
      · rename_i hlc
        subst hlc
        simp only [Option.bind_eq_some_iff] at hc
        obtain ⟨e', he, i, hi, z, hz, hc⟩ := hc
        split at hc
        · rename_i h
          cases hc
          simp only [stepF] at hs
          split at hs
          · rename_i k hd
            split at hs
            · rename_i h2
              cases hs
              exact gives_make hr hv hf hH hbase ho (sliceT_some he) hi hz h.1 h.2 hd h2.1 h2.2.1 h2.2.2
            · cases hs
          · cases hs
        · cases hc
      · cases hc
  case slice t x lo hi mx =>
    cases mx with
    | some m => cases lo <;> cases hi <;> simp only [reduceCtorEq] at hc
    | none =>
      cases lo with
      | some lo => exact slice_sound ho hc hr hv hs
      | none =>
        cases hi with
        | some hi => exact slice_sound ho hc hr hv hs
        | none =>
          simp only at hc
          split at hc
          · rename_i n e' hu
            obtain ⟨s, hsz, hc⟩ := Option.bind_eq_some_iff.1 hc
            split at hc
            · rename_i h0
              obtain ⟨xo, hx, rfl⟩ := Option.map_eq_some_iff.1 hc
              simp only [stepF] at hs
              split at hs
              · rename_i b ver off hd
                split at hs
                · rename_i v t' s' cs hHb
                  split at hs
                  · rename_i h
                    obtain ⟨rfl, h1, h2⟩ := h
                    cases hs
                    exact gives_slcA_ptr hr hv ho hu hsz h0.1 h0.2.1 hx hd hHb h1 h2
                  · cases hs
                · cases hs
              · rename_i cs hd
                split at hs
                · cases hs
                  exact gives_slcA_rp hr hv ho hu hsz h0.1 h0.2.1 hx hd
                · cases hs
              · cases hs
            · cases hc
          · exact slice_sound ho hc hr hv hs
  case fieldAddr t x i =>
    split at hc
    · rename_i fs hu
      simp only [Option.bind_eq_some_iff] at hc
      obtain ⟨f, hfi, s, hsz, hc⟩ := hc
      split at hc
      · cases hc
      · rename_i h0
        simp only [Option.map_eq_some_iff] at hc
        obtain ⟨xo, hx, rfl⟩ := hc
        simp only [stepF] at hs
        split at hs
        · rename_i b ver o' hd
          cases hs
          exact pure_faddr hr hv ho hu hfi hsz h0 hx (.inl ⟨b, ver, o', hd, rfl⟩)
        · rename_i cs hd
          cases hs
          exact pure_faddr hr hv ho hu hfi hsz h0 hx (.inr ⟨cs, hd, rfl⟩)
        · cases hs
    · cases hc
  case field t x i =>
    split at hc
    · rename_i fs hu
      simp only [Option.bind_eq_some_iff, Option.map_eq_some_iff] at hc
      obtain ⟨f, hfi, g, hg, s, hsz, xo, hx, rfl⟩ := hc
      simp only [stepF] at hs
      split at hs
      · rename_i cs hd
        split at hs
        · rename_i hga
          subst hga
          split at hs
          · rename_i hle
            cases hs
            exact pure_fld_agg hr hv ho hu hfi hg hsz hx hd hle
          · cases hs
        · rename_i hga
          have hga : g = false := by simpa using hga
          subst hga
          simp only [Option.map_eq_some_iff] at hs
          obtain ⟨d, hcd, rfl⟩ := hs
          exact pure_fld_cell hr hv ho hu hfi hg hx hd hcd
      · cases hs
    · cases hc
  case indexAddr t x y =>
    split at hc
    · rename_i e' hu
      simp only [Option.bind_eq_some_iff] at hc
      obtain ⟨s, hsz, hc⟩ := hc
      split at hc
      · cases hc
      · rename_i h0
        simp only [Option.bind_eq_some_iff, Option.map_eq_some_iff] at hc
        obtain ⟨xo, hx, yo, hy, rfl⟩ := hc
        simp only [stepF] at hs
        split at hs
        · rename_i b ver off n k i hd he
          split at hs
          · rename_i v t' s' cs hHb
            split at hs
            · rename_i hcond
              obtain ⟨rfl, rfl, h1, h2⟩ := hcond
              cases hs
              exact pure_iaddrS_own hr hv ho hu hsz hx hy he h1 h2 hd hHb
            · cases hs
          · cases hs
        · rename_i n cs k i hd he
          split at hs
          · rename_i hcond
            cases hs
            exact pure_iaddrS_sl hr hv ho hu hsz hx hy he hcond.1 hcond.2.1 hd hcond.2.2
          · cases hs
        · cases hs
    · rename_i n e' hu
      simp only [Option.bind_eq_some_iff] at hc
      obtain ⟨s, hsz, hc⟩ := hc
      split at hc
      · cases hc
      · rename_i h0
        simp only [Option.bind_eq_some_iff, Option.map_eq_some_iff] at hc
        obtain ⟨xo, hx, yo, hy, rfl⟩ := hc
        simp only [stepF] at hs
        split at hs
        · rename_i b ver off k i hd he
          split at hs
          · rename_i hcond
            cases hs
            exact pure_iaddrA hr hv ho hu hsz hx hy he hcond.1 hcond.2 (.inl ⟨b, ver, off, hd, rfl⟩)
          · cases hs
        · rename_i cs k i hd he
          split at hs
          · rename_i hcond
            cases hs
            exact pure_iaddrA hr hv ho hu hsz hx hy he hcond.1 hcond.2 (.inr ⟨cs, hd, rfl⟩)
          · cases hs
        · cases hs
    · cases hc
  case index t x y =>
    split at hc
    · rename_i hu
      simp only [Option.bind_eq_some_iff, Option.map_eq_some_iff] at hc
      obtain ⟨xo, hx, yo, hy, rfl⟩ := hc
      simp only [stepF] at hs
      split at hs
      · rename_i s k i hd he
        split at hs
        · rename_i hcond
          cases hs
          exact pure_idxs hr hv ho hu hx hy hd he hcond.1 hcond.2
        · cases hs
      · cases hs
    · rename_i n e' hu
      simp only [Option.bind_eq_some_iff, Option.map_eq_some_iff] at hc
      obtain ⟨s, hsz, g, hg, xo, hx, yo, hy, rfl⟩ := hc
      simp only [stepF] at hs
      split at hs
      · rename_i cs k i hd he
        split at hs
        · rename_i hcond
          split at hs
          · rename_i hga
            subst hga
            split at hs
            · rename_i hle
              cases hs
              exact pure_idxA_agg hr hv ho hu hsz hg hx hy hd he hcond.1 hcond.2 hle
            · cases hs
          · rename_i hga
            have hga : g = false := by simpa using hga
            subst hga
            obtain ⟨d, hcd, rfl⟩ := Option.map_eq_some_iff.1 hs
            exact pure_idxA_cell hr hv ho hu hsz hg hx hy hd he hcond.1 hcond.2 hcd
        · cases hs
      · cases hs
    · cases hc
  case extract x i =>
    obtain ⟨xo, hx, rfl⟩ := hc
    simp only [stepF] at hs
    split at hs
    · rename_i vs hd
      simp only [Option.map_eq_some_iff] at hs
      obtain ⟨d, hcd, rfl⟩ := hs
      exact pure_ext hr hv ho hx hd hcd
    · cases hs
  case makeMap t n =>
    cases n with
    | some n => simp only [reduceCtorEq] at hc
    | none =>
      simp only at hc
      split at hc
      · obtain ⟨kn, hkn, rfl⟩ := Option.map_eq_some_iff.1 hc
        simp only [stepF, Option.some.injEq] at hs
        subst hs
        exact gives_mkmap hr hf hH hbase ho
      · cases hc
  case lookup t x k ok =>
    split at hc
    · rename_i kt et hu
      simp only [Option.bind_eq_some_iff, Option.map_eq_some_iff] at hc
      obtain ⟨kn, hkn, z, hz, xo, hx, ko, hk, rfl⟩ := hc
      simp only [stepF] at hs
      split at hs
      · rename_i hkd
        split at hs
        · rename_i b ver hd
          split at hs
          · rename_i v t' s' kvs hHb
            split at hs
            · rename_i hvv
              subst hvv
              obtain ⟨r, hq, rfl⟩ := Option.map_eq_some_iff.1 hs
              exact gives_look hr hv ho hu hkn hz hx hk hkd (.inl ⟨b, v, t', s', hd, hHb⟩) hq
            · cases hs
          · cases hs
        · rename_i kvs hd
          obtain ⟨r, hq, rfl⟩ := Option.map_eq_some_iff.1 hs
          exact gives_look hr hv ho hu hkn hz hx hk hkd (.inr (.inl hd)) hq
        · rename_i hd
          cases hs
          exact gives_look hr hv ho hu hkn hz hx hk hkd (.inr (.inr ⟨hd, rfl⟩)) rfl
        · cases hs
      · cases hs
    · cases hc
  case mapUpdate t x k y =>
    split at hc
    · rename_i kt et hu
      simp only [Option.bind_eq_some_iff, Option.map_eq_some_iff] at hc
      obtain ⟨kn, hkn, xo, hx, ko, hk, yo, hy, rfl⟩ := hc
      simp only [stepF] at hs
      split at hs
      · rename_i b ver hd
        split at hs
        · rename_i v t' s' kvs hHb
          split at hs
          · rename_i h
            obtain ⟨rfl, hkd, hb⟩ := h
            obtain ⟨kvs', hq, rfl⟩ := Option.map_eq_some_iff.1 hs
            exact gives_mput hr hv (.inl ho) hu hkn hx hk hy hkd hd hHb hq
          · cases hs
        · cases hs
      · cases hs
    · cases hc
  case insert t x k y =>
    split at hc
    · rename_i kt et hu
      simp only [Option.bind_eq_some_iff, Option.map_eq_some_iff] at hc
      obtain ⟨kn, hkn, xo, hx, ko, hk, yo, hy, rfl⟩ := hc
      simp only [stepF] at hs
      split at hs
      · rename_i b ver hd
        split at hs
        · rename_i v t' s' kvs hHb
          split at hs
          · rename_i h
            obtain ⟨rfl, hkd, hb⟩ := h
            obtain ⟨kvs', hq, rfl⟩ := Option.map_eq_some_iff.1 hs
            exact gives_mput hr hv (.inr ho) hu hkn hx hk hy hkd hd hHb hq
          · cases hs
        · cases hs
      · cases hs
    · cases hc
  case makeFunc f first captured =>
    cases f with
    | func f =>
      simp only at hc
      split at hc
      · rename_i h0
        obtain ⟨cs, hx, rfl⟩ := Option.map_eq_some_iff.1 hc
        simp only [stepF, Option.some.injEq] at hs
        subst hs
        exact gives_mkfn hr hv ho h0 hx
      · cases hc
    | _ => simp only [reduceCtorEq] at hc
  case call c => exact absurd ho (hcall c)
end
end Go.Proofs.YtgimaioeifnajaaGreatDoorK.AI
