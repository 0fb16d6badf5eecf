/-
  Joined: Sym, Weak, Inl, Nil, Tac, Walk, Ev.
-/
import Derived.Test.YtapikjmijmebpaaGreatDoorKAb
import Derived.ChangeKeysEq
set_option linter.all false
set_option linter.unusedVariables false
set_option linter.unusedSimpArgs false
set_option maxHeartbeats 4000000
/-
  The abstract interpreter, part 19: an operation as what it asks for and what it then does (stepC); a region so, up to its next call (symOps).
-/
namespace Go.Proofs.YtapikjmijmebpaaGreatDoorK.AI
open Go.RowKit

abbrev CE := Prop × Eff
/-! bit operations under names of their own, so that nothing opens them on the way -/
def andI (k : IntKind) (a b : Int) : Int := k.wrap (BitVec.ofInt k.bits a &&& BitVec.ofInt k.bits b).toNat
def orI (k : IntKind) (a b : Int) : Int := k.wrap (BitVec.ofInt k.bits a ||| BitVec.ofInt k.bits b).toNat
def xorI (k : IntKind) (a b : Int) : Int := k.wrap (BitVec.ofInt k.bits a ^^^ BitVec.ofInt k.bits b).toNat
def andNotI (k : IntKind) (a b : Int) : Int := k.wrap (BitVec.ofInt k.bits a &&& ~~~BitVec.ofInt k.bits b).toNat
def intBinC (op : BinOp) (k : IntKind) (a b : Int) : Option (Prop × D) :=
  match op with
  | .add => some (True, .int k (k.wrap (a + b)))
  | .sub => some (True, .int k (k.wrap (a - b)))
  | .mul => some (True, .int k (k.wrap (a * b)))
  | .quo => some (b ≠ 0, .int k (k.wrap (a.tdiv b)))
  | .rem => some (b ≠ 0, .int k (a.tmod b))
  | .and => some (True, .int k (andI k a b))
  | .or => some (True, .int k (orI k a b))
  | .xor => some (True, .int k (xorI k a b))
  | .andNot => some (True, .int k (andNotI k a b))
  | .eql => some (True, .bool (decide (a = b)))
  | .neq => some (True, .bool (decide (a ≠ b)))
  | .lss => some (True, .bool (decide (a < b)))
  | .leq => some (True, .bool (decide (a ≤ b)))
  | .gtr => some (True, .bool (decide (b < a)))
  | .geq => some (True, .bool (decide (b ≤ a)))
  | .shl => some (0 ≤ b, .int k (k.wrap (a * 2 ^ (min b.toNat k.bits))))
  | .shr => some (0 ≤ b, .int k (a.fdiv (2 ^ (min b.toNat k.bits))))
def binC (op : BinOp) : D → D → Option (Prop × D)
  | .int k a, .int k' b => if op = .shl ∨ op = .shr ∨ k = k' then intBinC op k a b else none
  | .str x, .str y => match op with
    | .add => some (((x.size + y.size : Nat) : Int) ≤ IntKind.i64.max, .str (x ++ y))
    | op => (strBin op x y).map fun d => (True, d)
  | _, _ => none
def pureC (c : Prop) (d : D) : Option CE := some (c, d, [], [])
def loadC (ag : Bool) (sz off : Nat) (cs : List D) (c : Prop) (rs : List Nat) : Option CE :=
  if ag then some (c ∧ off + sz ≤ cs.length, .agg ((cs.drop off).take sz), [], rs) else some (c ∧ off < cs.length, cs.getD off .un, [], rs)
def stepC (env : Nat → D) (H : Nat → Blk) (nk : Nat) : IOp → Option CE
  | .mv x => pureC True (getO env x)
  | .pick c a b => match getO env c with
    | .bool t => pureC True (if t = true then getO env a else getO env b)
    | _ => none
  | .new t sz z => some (True, .ptr nk 0 0, [(nk, some (0, t, sz, z))], [])
  | .box t sz x => some ((getO env x).cells.length = sz ∧ (getO env x).boxable = true, .ptr nk 0 0, [(nk, some (0, t, sz, (getO env x).cells))], [])
  | .build z parts => match fillD env z parts with
    | some cs => pureC True (.agg cs)
    | none => none
  | .lit t sz n z parts => match fillD env z parts with
    | some cs => some (True, .own nk 0 0 n, [(nk, some (0, t, sz, cs))], [])
    | none => none
  | .load ag sz x => match getO env x with
    | .ptr b ver off => match H b with
      | some (v, _, _, cs) => loadC ag sz off cs (v = ver) [b]
      | none => none
    | .rp cs => loadC ag sz 0 cs True []
    | _ => none
  | .store sz x y => match getO env x with
    | .ptr b ver off => match H b with
      | some (v, t, s, cs) => some (v = ver ∧ (getO env y).cells.length = sz ∧ off + sz ≤ cs.length ∧ (getO env y).cells.all D.one = true, .un, [(b, some (v, t, s, putD cs off (getO env y).cells))], [b])
      | none => none
    | _ => none
  | .faddr off x => match getO env x with
    | .ptr b ver o => pureC True (.ptr b ver (o + off))
    | .rp cs => pureC True (.rp (cs.drop off))
    | _ => none
  | .fld ag off sz x => match getO env x with
    | .agg cs => loadC ag sz off cs True []
    | _ => none
  | .iaddrS sz x i => match getO env x, getO env i with
    | .own b ver off n, .int _ k => match H b with
      | some (v, _, s, _) => some (v = ver ∧ s = sz ∧ 0 ≤ k ∧ k < n, .ptr b ver ((off + k.toNat) * sz), [], [b])
      | none => none
    | .sl n cs, .int _ k => pureC (0 ≤ k ∧ k < n ∧ k.toNat * sz < cs.length) (.rp ((cs.drop (k.toNat * sz)).take sz))
    | _, _ => none
  | .iaddrA len sz x i => match getO env x, getO env i with
    | .ptr b ver off, .int _ k => pureC (0 ≤ k ∧ k < len) (.ptr b ver (off + k.toNat * sz))
    | .rp cs, .int _ k => pureC (0 ≤ k ∧ k < len) (.rp (cs.drop (k.toNat * sz)))
    | _, _ => none
  | .idxs x i => match getO env x, getO env i with
    | .str s, .int _ k => pureC (0 ≤ k ∧ k < s.size) (.int .u8 (bt s k.toNat))
    | _, _ => none
  | .bin op x y => match binC op (getO env x) (getO env y) with
    | some (c, d) => pureC c d
    | none => none
  | .beq ne x y => match getO env x, getO env y with
    | .bool a, .bool b => pureC True (.bool (if ne then !(a == b) else a == b))
    | _, _ => none
  | .neg x => match getO env x with
    | .int k n => pureC True (.int k (k.wrap (0 - n)))
    | _ => none
  | .not x => match getO env x with
    | .bool b => pureC True (.bool !b)
    | _ => none
  | .conv k x => match getO env x with
    | .int _ n => pureC True (.int k (k.wrap n))
    | _ => none
  | .slcS x lo hi => match getO env x with
    | .str s => match boundO env s.size hi, boundO env 0 lo with
      | some h, some l => pureC (0 ≤ l ∧ l ≤ h ∧ h ≤ s.size) (.str (s.extract l.toNat h.toNat))
      | _, _ => none
    | _ => none
  | .slcL sz x lo hi => match getO env x with
    | .own b ver off n => match H b with
      | some (v, _, s, _) => match boundO env n hi, boundO env 0 lo with
        | some h, some l => some ((v = ver ∧ s = sz) ∧ 0 ≤ l ∧ l ≤ h ∧ h ≤ n, .own b ver (off + l.toNat) (h - l).toNat, [], [b])
        | _, _ => none
      | none => none
    | .sl n cs => match boundO env n hi, boundO env 0 lo with
      | some h, some l => pureC (0 ≤ l ∧ l ≤ h ∧ h ≤ n) (.sl (h - l).toNat ((cs.drop (l.toNat * sz)).take ((h - l).toNat * sz)))
      | _, _ => none
    | _ => none
  | .make t sz bytes z n => match getO env n with
    | .int .i64 k => some (0 ≤ k ∧ k ≤ 4611686018427387904 ∧ k.toNat * bytes ≤ 281474976710656, .own nk 0 0 k.toNat, [(nk, some (0, t, sz, repD z k.toNat))], [])
    | _ => none
  | .app t sz bytes s x => match rowD H sz (getO env x) with
    | some (m, ds, rs) => match getO env s with
      | .nils => some (m ≤ 4611686018427387904 ∧ m * bytes ≤ 140737488355328 ∧ ds.all D.one = true, .own nk 0 0 m, [(nk, some (0, t, sz, ds))], rs)
      | .own b ver 0 n => match H b with
        | some (v, t', s', cs) => some (v = ver ∧ t' = t ∧ s' = sz ∧ cs.length = n * sz ∧ n + m ≤ 4611686018427387904 ∧ (n + m) * bytes ≤ 140737488355328 ∧ ds.all D.one = true ∧ rs.all (· != b) = true, .own b (ver + 1) 0 (n + m), [(b, some (ver + 1, t, sz, cs ++ ds))], b :: rs)
        | none => none
      | _ => none
    | none => none
  | .lenS x => match getO env x with
    | .str s => pureC True (.int .i64 s.size)
    | _ => none
  | .lenL x => match getO env x with
    | .sl n _ => pureC True (.int .i64 n)
    | .own _ _ _ n => pureC True (.int .i64 n)
    | .nils => pureC True (.int .i64 0)
    | _ => none
  | .mx x y => match getO env x, getO env y with
    | .int k a, .int _ b => pureC True (.int k (if b > a then b else a))
    | _, _ => none
  | .mn x y => match getO env x, getO env y with
    | .int k a, .int _ b => pureC True (.int k (if b < a then b else a))
    | _, _ => none
  | .ext x i => match getO env x with
    | .tup vs => pureC (i < vs.length) (vs.getD i .un)
    | _ => none
  | .nilck x => match getO env x with
    | .ptr b ver o => pureC True (.ptr b ver o)
    | .rp cs => pureC True (.rp cs)
    | _ => none
  | .bstr x => match rowD H 1 (getO env x) with
    | some (_, ds, rs) => match byD ds with
      | some l => some (True, .str ⟨⟨l⟩⟩, [], rs)
      | none => none
    | none => none
  | .call .. => none

section
variable {env : Nat → D} {H : Nat → Blk} {nk : Nat}
theorem st_mv {x : Opd} : stepC env H nk (.mv x) = (pureC True (getO env x)) := of_eq rfl
theorem st_pick {c : Opd} {a : Opd} {b : Opd} : stepC env H nk (.pick c a b) = (match getO env c with
    | .bool t => pureC True (if t = true then getO env a else getO env b)
    | _ => none) := of_eq rfl
theorem st_new {t : Nat} {sz : Nat} {z : List D} : stepC env H nk (.new t sz z) = (some (True, .ptr nk 0 0, [(nk, some (0, t, sz, z))], [])) := of_eq rfl
theorem st_box {t : Nat} {sz : Nat} {x : Opd} : stepC env H nk (.box t sz x) = (some ((getO env x).cells.length = sz ∧ (getO env x).boxable = true, .ptr nk 0 0, [(nk, some (0, t, sz, (getO env x).cells))], [])) := of_eq rfl
theorem st_build {z : List D} {parts : List (Nat × Nat × Opd)} : stepC env H nk (.build z parts) = (match fillD env z parts with
    | some cs => pureC True (.agg cs)
    | none => none) := of_eq rfl
theorem st_lit {t : Nat} {sz : Nat} {n : Nat} {z : List D} {parts : List (Nat × Nat × Opd)} : stepC env H nk (.lit t sz n z parts) = (match fillD env z parts with
    | some cs => some (True, .own nk 0 0 n, [(nk, some (0, t, sz, cs))], [])
    | none => none) := of_eq rfl
theorem st_load {ag : Bool} {sz : Nat} {x : Opd} : stepC env H nk (.load ag sz x) = (match getO env x with
    | .ptr b ver off => match H b with
      | some (v, _, _, cs) => loadC ag sz off cs (v = ver) [b]
      | none => none
    | .rp cs => loadC ag sz 0 cs True []
    | _ => none) := of_eq rfl
theorem st_store {sz : Nat} {x : Opd} {y : Opd} : stepC env H nk (.store sz x y) = (match getO env x with
    | .ptr b ver off => match H b with
      | some (v, t, s, cs) => some (v = ver ∧ (getO env y).cells.length = sz ∧ off + sz ≤ cs.length ∧ (getO env y).cells.all D.one = true, .un, [(b, some (v, t, s, putD cs off (getO env y).cells))], [b])
      | none => none
    | _ => none) := of_eq rfl
theorem st_faddr {off : Nat} {x : Opd} : stepC env H nk (.faddr off x) = (match getO env x with
    | .ptr b ver o => pureC True (.ptr b ver (o + off))
    | .rp cs => pureC True (.rp (cs.drop off))
    | _ => none) := of_eq rfl
theorem st_fld {ag : Bool} {off : Nat} {sz : Nat} {x : Opd} : stepC env H nk (.fld ag off sz x) = (match getO env x with
    | .agg cs => loadC ag sz off cs True []
    | _ => none) := of_eq rfl
theorem st_iaddrS {sz : Nat} {x : Opd} {i : Opd} : stepC env H nk (.iaddrS sz x i) = (match getO env x, getO env i with
    | .own b ver off n, .int _ k => match H b with
      | some (v, _, s, _) => some (v = ver ∧ s = sz ∧ 0 ≤ k ∧ k < n, .ptr b ver ((off + k.toNat) * sz), [], [b])
      | none => none
    | .sl n cs, .int _ k => pureC (0 ≤ k ∧ k < n ∧ k.toNat * sz < cs.length) (.rp ((cs.drop (k.toNat * sz)).take sz))
    | _, _ => none) := of_eq rfl
theorem st_iaddrA {len : Nat} {sz : Nat} {x : Opd} {i : Opd} : stepC env H nk (.iaddrA len sz x i) = (match getO env x, getO env i with
    | .ptr b ver off, .int _ k => pureC (0 ≤ k ∧ k < len) (.ptr b ver (off + k.toNat * sz))
    | .rp cs, .int _ k => pureC (0 ≤ k ∧ k < len) (.rp (cs.drop (k.toNat * sz)))
    | _, _ => none) := of_eq rfl
theorem st_idxs {x : Opd} {i : Opd} : stepC env H nk (.idxs x i) = (match getO env x, getO env i with
    | .str s, .int _ k => pureC (0 ≤ k ∧ k < s.size) (.int .u8 (bt s k.toNat))
    | _, _ => none) := of_eq rfl
theorem st_bin {op : BinOp} {x : Opd} {y : Opd} : stepC env H nk (.bin op x y) = (match binC op (getO env x) (getO env y) with
    | some (c, d) => pureC c d
    | none => none) := of_eq rfl
theorem st_beq {ne : Bool} {x : Opd} {y : Opd} : stepC env H nk (.beq ne x y) = (match getO env x, getO env y with
    | .bool a, .bool b => pureC True (.bool (if ne then !(a == b) else a == b))
    | _, _ => none) := of_eq rfl
theorem st_neg {x : Opd} : stepC env H nk (.neg x) = (match getO env x with
    | .int k n => pureC True (.int k (k.wrap (0 - n)))
    | _ => none) := of_eq rfl
theorem st_not {x : Opd} : stepC env H nk (.not x) = (match getO env x with
    | .bool b => pureC True (.bool !b)
    | _ => none) := of_eq rfl
theorem st_conv {k : IntKind} {x : Opd} : stepC env H nk (.conv k x) = (match getO env x with
    | .int _ n => pureC True (.int k (k.wrap n))
    | _ => none) := of_eq rfl
theorem st_slcS {x : Opd} {lo : Option Opd} {hi : Option Opd} : stepC env H nk (.slcS x lo hi) = (match getO env x with
    | .str s => match boundO env s.size hi, boundO env 0 lo with
      | some h, some l => pureC (0 ≤ l ∧ l ≤ h ∧ h ≤ s.size) (.str (s.extract l.toNat h.toNat))
      | _, _ => none
    | _ => none) := of_eq rfl
theorem st_slcL {sz : Nat} {x : Opd} {lo : Option Opd} {hi : Option Opd} : stepC env H nk (.slcL sz x lo hi) = (match getO env x with
    | .own b ver off n => match H b with
      | some (v, _, s, _) => match boundO env n hi, boundO env 0 lo with
        | some h, some l => some ((v = ver ∧ s = sz) ∧ 0 ≤ l ∧ l ≤ h ∧ h ≤ n, .own b ver (off + l.toNat) (h - l).toNat, [], [b])
        | _, _ => none
      | none => none
    | .sl n cs => match boundO env n hi, boundO env 0 lo with
      | some h, some l => pureC (0 ≤ l ∧ l ≤ h ∧ h ≤ n) (.sl (h - l).toNat ((cs.drop (l.toNat * sz)).take ((h - l).toNat * sz)))
      | _, _ => none
    | _ => none) := of_eq rfl
theorem st_make {t : Nat} {sz : Nat} {bytes : Nat} {z : List D} {n : Opd} : stepC env H nk (.make t sz bytes z n) = (match getO env n with
    | .int .i64 k => some (0 ≤ k ∧ k ≤ 4611686018427387904 ∧ k.toNat * bytes ≤ 281474976710656, .own nk 0 0 k.toNat, [(nk, some (0, t, sz, repD z k.toNat))], [])
    | _ => none) := of_eq rfl
theorem st_app {t : Nat} {sz : Nat} {bytes : Nat} {s : Opd} {x : Opd} : stepC env H nk (.app t sz bytes s x) = (match rowD H sz (getO env x) with
    | some (m, ds, rs) => match getO env s with
      | .nils => some (m ≤ 4611686018427387904 ∧ m * bytes ≤ 140737488355328 ∧ ds.all D.one = true, .own nk 0 0 m, [(nk, some (0, t, sz, ds))], rs)
      | .own b ver 0 n => match H b with
        | some (v, t', s', cs) => some (v = ver ∧ t' = t ∧ s' = sz ∧ cs.length = n * sz ∧ n + m ≤ 4611686018427387904 ∧ (n + m) * bytes ≤ 140737488355328 ∧ ds.all D.one = true ∧ rs.all (· != b) = true, .own b (ver + 1) 0 (n + m), [(b, some (ver + 1, t, sz, cs ++ ds))], b :: rs)
        | none => none
      | _ => none
    | none => none) := of_eq rfl
theorem st_lenS {x : Opd} : stepC env H nk (.lenS x) = (match getO env x with
    | .str s => pureC True (.int .i64 s.size)
    | _ => none) := of_eq rfl
theorem st_lenL {x : Opd} : stepC env H nk (.lenL x) = (match getO env x with
    | .sl n _ => pureC True (.int .i64 n)
    | .own _ _ _ n => pureC True (.int .i64 n)
    | .nils => pureC True (.int .i64 0)
    | _ => none) := of_eq rfl
theorem st_mx {x : Opd} {y : Opd} : stepC env H nk (.mx x y) = (match getO env x, getO env y with
    | .int k a, .int _ b => pureC True (.int k (if b > a then b else a))
    | _, _ => none) := of_eq rfl
theorem st_mn {x : Opd} {y : Opd} : stepC env H nk (.mn x y) = (match getO env x, getO env y with
    | .int k a, .int _ b => pureC True (.int k (if b < a then b else a))
    | _, _ => none) := of_eq rfl
theorem st_ext {x : Opd} {i : Nat} : stepC env H nk (.ext x i) = (match getO env x with
    | .tup vs => pureC (i < vs.length) (vs.getD i .un)
    | _ => none) := of_eq rfl
theorem st_nilck {x : Opd} : stepC env H nk (.nilck x) = (match getO env x with
    | .ptr b ver o => pureC True (.ptr b ver o)
    | .rp cs => pureC True (.rp cs)
    | _ => none) := of_eq rfl
theorem st_bstr {x : Opd} : stepC env H nk (.bstr x) = (match rowD H 1 (getO env x) with
    | some (_, ds, rs) => match byD ds with
      | some l => some (True, .str ⟨⟨l⟩⟩, [], rs)
      | none => none
    | none => none) := of_eq rfl
theorem getD_some' {cs : List D} {i : Nat} (h : i < cs.length) : cs[i]? = some (cs.getD i .un) := by
  rw [List.getD_eq_getElem?_getD, List.getElem?_eq_getElem h]; rfl
theorem binC_ok {op : BinOp} {x y d : D} {c : Prop} (h : binC op x y = some (c, d)) (hc : c) : binD op x y = some d := by
  cases x <;> cases y <;> simp only [binC] at h <;> try (cases h; done)
  · split at h
    · rename_i hk
      simp only [binD]
      cases op <;> simp only [intBinC, Option.some.injEq, Prod.mk.injEq] at h <;> obtain ⟨rfl, rfl⟩ := h <;> simp [shiftBin, intBin, andI, orI, xorI, andNotI, hc] at hk ⊢ <;> try (first | exact hk | (intro h; omega) | (exact ⟨hk, hc⟩))
      all_goals first
        | (subst hk; simp; done)
        | (simp [hk]; done)
        | exact ⟨hk, by rw [Bool.eq_iff_iff]; simp⟩
    · cases h
  · split at h
    · simp only [Option.some.injEq, Prod.mk.injEq] at h
      obtain ⟨rfl, rfl⟩ := h
      simp only [binD, strBin]
      rw [if_neg (by omega)]
    · obtain ⟨d', hd, he⟩ := Option.map_eq_some_iff.1 h
      cases he
      exact hd
theorem loadC_ok {ag : Bool} {sz off : Nat} {cs : List D} {c c' : Prop} {rs : List Nat} {e : Eff} (h : loadC ag sz off cs c rs = some (c', e)) (hc : c') : c ∧ (if ag then (if off + sz ≤ cs.length then some (D.agg ((cs.drop off).take sz), ([] : List (Nat × Blk)), rs) else none) else (cs[off]?).map fun d => (d, [], rs)) = some e := by
  unfold loadC at h
  cases ag
  · simp only [Bool.false_eq_true, if_false, Option.some.injEq, Prod.mk.injEq] at h
    obtain ⟨rfl, rfl⟩ := h
    refine ⟨hc.1, ?_⟩
    simp only [Bool.false_eq_true, if_false, getD_some' hc.2, Option.map_some]
  · simp only [if_true, Option.some.injEq, Prod.mk.injEq] at h
    obtain ⟨rfl, rfl⟩ := h
    refine ⟨hc.1, ?_⟩
    rw [if_pos rfl, if_pos hc.2]
theorem pureC_ok {c c' : Prop} {d : D} {e : Eff} (h : pureC c d = some (c', e)) : c' = c ∧ e = (d, [], []) := by
  simp only [pureC, Option.some.injEq, Prod.mk.injEq] at h
  obtain ⟨rfl, rfl⟩ := h
  exact ⟨rfl, rfl⟩
theorem stepC_ok {op : IOp} {c : Prop} {e : Eff} (h : stepC env H nk op = some (c, e)) (hc : c) : stepF env H nk op = some e := by
  cases op <;> simp only [stepC] at h <;> simp only [stepF]
  case mv => obtain ⟨rfl, rfl⟩ := pureC_ok h; rfl
  case pick =>
    split at h
    · rename_i hd
      obtain ⟨rfl, rfl⟩ := pureC_ok h
      rw [hd]
    · cases h
  case new => cases h; rfl
  case box => cases h; rw [if_pos hc]
  case build =>
    split at h
    · rename_i hd
      obtain ⟨rfl, rfl⟩ := pureC_ok h
      rw [hd]; rfl
    · cases h
  case lit =>
    split at h
    · rename_i hd
      cases h
      rw [hd]; rfl
    · cases h
  case load =>
    split at h
    · rename_i hd
      rw [hd]
      split at h
      · rename_i hb
        obtain ⟨h1, h2⟩ := loadC_ok h hc
        simp only [hb, if_pos h1]
        exact h2
      · cases h
    · rename_i hd
      rw [hd]
      obtain ⟨h1, h2⟩ := loadC_ok h hc
      simpa using h2
    · cases h
  case store =>
    split at h
    · rename_i hd
      rw [hd]
      split at h
      · rename_i hb
        cases h
        simp only [hb, if_pos hc]
      · cases h
    · cases h
  case faddr =>
    split at h
    · rename_i hd; obtain ⟨rfl, rfl⟩ := pureC_ok h; rw [hd]
    · rename_i hd; obtain ⟨rfl, rfl⟩ := pureC_ok h; rw [hd]
    · cases h
  case fld =>
    split at h
    · rename_i hd
      rw [hd]
      exact (loadC_ok h hc).2
    · cases h
  case iaddrS =>
    split at h
    · rename_i hd he
      rw [hd, he]
      split at h
      · rename_i hb
        cases h
        simp only [hb, if_pos hc]
      · cases h
    · rename_i hd he
      obtain ⟨rfl, rfl⟩ := pureC_ok h
      rw [hd, he]
      simp only [if_pos hc]
    · cases h
  case iaddrA =>
    split at h
    · rename_i hd he
      obtain ⟨rfl, rfl⟩ := pureC_ok h
      rw [hd, he]
      simp only [if_pos hc]
    · rename_i hd he
      obtain ⟨rfl, rfl⟩ := pureC_ok h
      rw [hd, he]
      simp only [if_pos hc]
    · cases h
  case idxs =>
    split at h
    · rename_i hd he
      obtain ⟨rfl, rfl⟩ := pureC_ok h
      rw [hd, he]
      simp only [if_pos hc]
    · cases h
  case bin =>
    split at h
    · rename_i hd
      obtain ⟨rfl, rfl⟩ := pureC_ok h
      rw [binC_ok hd hc]; rfl
    · cases h
  case beq =>
    split at h
    · rename_i hd he
      obtain ⟨rfl, rfl⟩ := pureC_ok h
      rw [hd, he]
    · cases h
  case neg =>
    split at h
    · rename_i hd; obtain ⟨rfl, rfl⟩ := pureC_ok h; rw [hd]
    · cases h
  case not =>
    split at h
    · rename_i hd; obtain ⟨rfl, rfl⟩ := pureC_ok h; rw [hd]
    · cases h
  case conv =>
    split at h
    · rename_i hd; obtain ⟨rfl, rfl⟩ := pureC_ok h; rw [hd]
    · cases h
  case slcS =>
    split at h
    · rename_i hd
      split at h
      · rename_i hh hl
        obtain ⟨rfl, rfl⟩ := pureC_ok h
        rw [hd]
        simp only [hh, hl, Option.bind_some, if_pos hc]
      · cases h
    · cases h
  case slcL =>
    split at h
    · rename_i hd
      rw [hd]
      split at h
      · rename_i hb
        split at h
        · rename_i hh hl
          cases h
          simp only [hb, if_pos hc.1, hh, hl, Option.bind_some, if_pos hc.2]
        · cases h
      · cases h
    · rename_i hd
      rw [hd]
      split at h
      · rename_i hh hl
        obtain ⟨rfl, rfl⟩ := pureC_ok h
        simp only [hh, hl, Option.bind_some, if_pos hc]
      · cases h
    · cases h
  case make =>
    split at h
    · rename_i hd
      cases h
      rw [hd]
      simp only [if_pos hc]
    · cases h
  case app =>
    split at h
    · rename_i hr
      rw [hr]
      split at h
      · rename_i hd
        cases h
        rw [hd]
        simp only [if_pos hc]
      · rename_i hd
        rw [hd]
        split at h
        · rename_i hb
          cases h
          simp only [hb, if_pos hc]
        · cases h
      · cases h
    · cases h
  case lenS =>
    split at h
    · rename_i hd; obtain ⟨rfl, rfl⟩ := pureC_ok h; rw [hd]
    · cases h
  case lenL =>
    split at h
    · rename_i hd; obtain ⟨rfl, rfl⟩ := pureC_ok h; rw [hd]
    · rename_i hd; obtain ⟨rfl, rfl⟩ := pureC_ok h; rw [hd]
    · rename_i hd; obtain ⟨rfl, rfl⟩ := pureC_ok h; rw [hd]
    · cases h
  case mx =>
    split at h
    · rename_i hd he
      obtain ⟨rfl, rfl⟩ := pureC_ok h
      rw [hd, he]
    · cases h
  case mn =>
    split at h
    · rename_i hd he
      obtain ⟨rfl, rfl⟩ := pureC_ok h
      rw [hd, he]
    · cases h
  case ext =>
    split at h
    · rename_i hd
      obtain ⟨rfl, rfl⟩ := pureC_ok h
      rw [hd]
      simp only [getD_some' hc, Option.map_some]
    · cases h
  case nilck =>
    split at h
    · rename_i hd; obtain ⟨rfl, rfl⟩ := pureC_ok h; rw [hd]
    · rename_i hd; obtain ⟨rfl, rfl⟩ := pureC_ok h; rw [hd]
    · cases h
  case bstr =>
    split at h
    · rename_i hr
      rw [hr]
      split at h
      · rename_i hl
        cases h
        simp only [hl]
      · cases h
    · cases h
  case call => cases h

/-! a region, up to its next call -/
def gd (env : Nat → D) : Option (Option Nat × Bool) → Option Bool
  | none => some true
  | some (some t, w) => match env t with
    | .bool b => some (b == w)
    | .tup _ => some false
    | _ => none
  | some (none, _) => some false
/-- How far a region has been run: what was asked, the traces, the slots, the blocks, what is left. -/
structure Ran where
  c : Prop
  tr : Tr
  env : Nat → D
  h : List Blk
  rest : List IOper
def symOps : List IOper → Prop → Tr → (Nat → D) → List Blk → Option Ran
  | [], c, tr, env, h => some ⟨c, tr, env, h, []⟩
  | o :: l, c, tr, env, h =>
    match gd env o.guard with
    | some true => if o.op.isCall = true then some ⟨c, tr, env, h, o :: l⟩ else match stepC env (hv h) h.length o.op with
      | some (c', d, ws, rs) => symOps l (c ∧ c') ((ws.map (·.1), rs) :: tr) (putE env o.dst d) (setH h ws)
      | none => none
    | some false => symOps l c (([], []) :: tr) (putE env o.dst (.tup [])) h
    | none => none
end
section
variable {P : Program} {G : World → Prop} {Q : AEx → St → Prop} {K : Tr → St → Prop} {env env' : Nat → D} {h h' : List Blk} {tr tr' : Tr} {l rest : List IOper}
theorem gd_wanted (g : Option (Option Nat × Bool)) : gd env g = wantedI env g := by
  cases g with
  | none => rfl
  | some p =>
    obtain ⟨t, w⟩ := p
    cases t with
    | none => rfl
    | some t => rfl
theorem ops_sym0 : ∀ (l : List IOper) (c0 c : Prop) (tr tr' : Tr) (env env' : Nat → D) (h h' : List Blk) (rest : List IOper), symOps l c0 tr env h = some ⟨c, tr', env', h', rest⟩ → c → awpOps P G K rest tr' ⟨env', h'⟩ → c0 ∧ awpOps P G K l tr ⟨env, h⟩
  | [], c0, c, tr, tr', env, env', h, h', rest, hs, hc, hk => by cases hs; exact ⟨hc, hk⟩
  | o :: l, c0, c, tr, tr', env, env', h, h', rest, hs, hc, hk => by
    simp only [symOps] at hs
    split at hs
    · rename_i hg
      split at hs
      · cases hs; exact ⟨hc, hk⟩
      · rename_i hcall
        split at hs
        · rename_i c' d ws rs hst
          obtain ⟨⟨h1, h2⟩, h3⟩ := ops_sym0 l _ _ _ _ _ _ _ _ _ hs hc hk
          refine ⟨h1, ?_⟩
          rw [gd_wanted] at hg
          simp only [awpOps, hg]
          have hst2 := stepC_ok hst h2
          generalize o.op = op at *
          cases op <;> first | (simp [IOp.isCall] at hcall; done) | (simp only [aOp, hst2]; exact h3)
        · cases hs
    · rename_i hg
      obtain ⟨h1, h3⟩ := ops_sym0 l _ _ _ _ _ _ _ _ _ hs hc hk
      refine ⟨h1, ?_⟩
      rw [gd_wanted] at hg
      simp only [awpOps, hg]
      exact h3
    · cases hs
theorem sym_nil {c : Prop} : symOps [] c tr env h = some ⟨c, tr, env, h, []⟩ := of_eq rfl
def symG (g : Option Bool) (call : Bool) (s : Option CE) (o : IOper) (l : List IOper) (c : Prop) (tr : Tr) (env : Nat → D) (h : List Blk) : Option Ran :=
  match g with
  | some true => if call = true then some ⟨c, tr, env, h, o :: l⟩ else match s with
    | some (c', d, ws, rs) => symOps l (c ∧ c') ((ws.map (·.1), rs) :: tr) (putE env o.dst d) (setH h ws)
    | none => none
  | some false => symOps l c (([], []) :: tr) (putE env o.dst (.tup [])) h
  | none => none
theorem sym_cons {dst : Option Nat} {op : IOp} {g : Option (Option Nat × Bool)} {c : Prop} : symOps (⟨dst, op, g⟩ :: l) c tr env h = symG (gd env g) op.isCall (stepC env (hv h) h.length op) ⟨dst, op, g⟩ l c tr env h := of_eq rfl
theorem symG_call {s : Option CE} {o : IOper} {c : Prop} : symG (some true) true s o l c tr env h = some ⟨c, tr, env, h, o :: l⟩ := of_eq rfl
theorem symG_op {dst : Option Nat} {op : IOp} {g : Option (Option Nat × Bool)} {c c' : Prop} {d : D} {ws : List (Nat × Blk)} {rs : List Nat} : symG (some true) false (some (c', d, ws, rs)) ⟨dst, op, g⟩ l c tr env h = symOps l (c ∧ c') ((ws.map (·.1), rs) :: tr) (putE env dst d) (setH h ws) := of_eq rfl
theorem symG_skip {call : Bool} {s : Option CE} {dst : Option Nat} {op : IOp} {g : Option (Option Nat × Bool)} {c : Prop} : symG (some false) call s ⟨dst, op, g⟩ l c tr env h = symOps l c (([], []) :: tr) (putE env dst (.tup [])) h := of_eq rfl
theorem ops_sym {c : Prop} (hs : symOps l True tr env h = some ⟨c, tr', env', h', rest⟩) (hc : c) (hk : awpOps P G K rest tr' ⟨env', h'⟩) : awpOps P G K l tr ⟨env, h⟩ := (ops_sym0 l _ _ _ _ _ _ _ _ _ hs hc hk).2
theorem ops_call {dst : Option Nat} {f : FuncId} {args : List Opd} {xs : List D} {ks : List Nat} {r : D} (hx : resArgs (hv h) env args = some (xs, ks)) (hp : PCr P G f xs r) (hk : awpOps P G K l ((ks, ks) :: tr) ⟨putE env dst r, setH h (ks.map fun b => (b, none))⟩) : awpOps P G K (⟨dst, .call f args, none⟩ :: l) tr ⟨env, h⟩ := by
  simp only [awpOps, wantedI, aOp, hx]
  refine .inl ⟨r, true, hp, .inl rfl, ?_⟩
  simp only [callE, if_true, List.map_map, Function.comp_def, List.map_id']
  exact hk
theorem ops_callf {dst : Option Nat} {f : FuncId} {args : List Opd} {xs : List D} {ks : List Nat} {r : D} (hx : resArgs (hv h) env args = some (xs, ks)) (hp : PCr P G f xs r) (hf : r.flat = true) (hk : awpOps P G K l (([], ks) :: tr) ⟨putE env dst r, h⟩) : awpOps P G K (⟨dst, .call f args, none⟩ :: l) tr ⟨env, h⟩ := by
  simp only [awpOps, wantedI, aOp, hx]
  exact .inl ⟨r, false, hp, .inr hf, hk⟩
theorem ops_callg {dst : Option Nat} {f : FuncId} {args : List Opd} {xs : List D} {ks : List Nat} {r : D} {t : Nat} {b w : Bool} (hb : env t = .bool b) (hw : b = w) (hx : resArgs (hv h) env args = some (xs, ks)) (hp : PCr P G f xs r) (hk : awpOps P G K l ((ks, ks) :: tr) ⟨putE env dst r, setH h (ks.map fun b => (b, none))⟩) : awpOps P G K (⟨dst, .call f args, some (some t, w)⟩ :: l) tr ⟨env, h⟩ := by
  subst hw
  rw [ops_guard hb, if_pos rfl]
  simp only [aOp, hx]
  refine .inl ⟨r, true, hp, .inl rfl, ?_⟩
  simp only [callE, if_true, List.map_map, Function.comp_def, List.map_id']
  exact hk
theorem ops_callgf {dst : Option Nat} {f : FuncId} {args : List Opd} {xs : List D} {ks : List Nat} {r : D} {t : Nat} {b w : Bool} (hb : env t = .bool b) (hw : b = w) (hx : resArgs (hv h) env args = some (xs, ks)) (hp : PCr P G f xs r) (hf : r.flat = true) (hk : awpOps P G K l (([], ks) :: tr) ⟨putE env dst r, h⟩) : awpOps P G K (⟨dst, .call f args, some (some t, w)⟩ :: l) tr ⟨env, h⟩ := by
  subst hw
  rw [ops_guard hb, if_pos rfl]
  simp only [aOp, hx]
  exact .inl ⟨r, false, hp, .inr hf, hk⟩
theorem ops_skip {dst : Option Nat} {op : IOp} {t : Nat} {b w : Bool} (hb : env t = .bool b) (hw : b ≠ w) (hk : awpOps P G K l (([], []) :: tr) ⟨putE env dst (.tup []), h⟩) : awpOps P G K (⟨dst, op, some (some t, w)⟩ :: l) tr ⟨env, h⟩ := by
  rw [ops_guard hb, if_neg hw]
  exact hk
theorem ops_skipt {dst : Option Nat} {op : IOp} {t : Nat} {ds : List D} {w : Bool} (hb : env t = .tup ds) (hk : awpOps P G K l (([], []) :: tr) ⟨putE env dst (.tup []), h⟩) : awpOps P G K (⟨dst, op, some (some t, w)⟩ :: l) tr ⟨env, h⟩ := by
  rw [ops_tup hb]
  exact hk
end
end Go.Proofs.YtapikjmijmebpaaGreatDoorK.AI
/-
  The abstract interpreter, part 20: telling less: of slots, of blocks; letting the last blocks go.
-/
namespace Go.Proofs.YtapikjmijmebpaaGreatDoorK.AI
open Go.RowKit

section
variable {P : Program} {R R' : Nat → Nat → Bnd} {S : Nat → Prop} {base : Nat → Prop} {w : World} {H H' : Nat → Blk}
theorem AOf.less (hle : ∀ b, H' b = none ∨ H' b = H b) {g : Nat} (h : AOf S R H' g) : AOf S R H g := by
  rcases h with h | ⟨b, ver, t, sz, cs, cap, sz', hb, hR⟩
  · exact .inl h
  · rcases hle b with e | e
    · rw [e] at hb; cases hb
    · exact .inr ⟨b, ver, t, sz, cs, cap, sz', e ▸ hb, hR⟩
theorem HRel.less (hr : HRel R S base w H) (hle : ∀ b, H' b = none ∨ H' b = H b) : HRel R S base w H' where
  blk := fun b => by
    have hb := hr.blk b
    rcases hle b with e | e
    · rw [e]; exact trivial
    · rw [e]
      cases hH : H b with
      | none => exact trivial
      | some x =>
        obtain ⟨v, t, s, cs⟩ := x
        rw [hH] at hb
        rcases hb with h | ⟨g, cap, vs, h1, h2, h3, h4, h5, h6, h7⟩
        · exact .inl h
        · exact .inr ⟨g, cap, vs, h1, h2, h3, h4, h5, h6, fun j d hj => (h7 j d hj).mono (fun _ _ _ => rfl) (fun g _ hg => ⟨fun h => hg (h.less hle), fun _ _ h => h⟩)⟩
  vers := fun b ver t sz cs h => by
    rcases hle b with e | e
    · rw [e] at h; cases h
    · exact hr.vers b ver t sz cs (e ▸ h)
  inj := fun b b' ver ver' t t' sz sz' cs cs' g cap cap' s s' h h' => by
    rcases hle b with e | e
    · rw [e] at h; cases h
    · rcases hle b' with e' | e'
      · rw [e'] at h'; cases h'
      · exact hr.inj b b' ver ver' t t' sz sz' cs cs' g cap cap' s s' (e ▸ h) (e' ▸ h')
  ext := hr.ext
  bnd := hr.bnd
def LessH : List Blk → List Blk → Prop
  | [], [] => True
  | x :: l, y :: m => (y = none ∨ y = x) ∧ LessH l m
  | _, _ => False
theorem lessH_get : ∀ {l m : List Blk}, LessH l m → m.length = l.length ∧ ∀ b, hv m b = none ∨ hv m b = hv l b
  | [], [], _ => ⟨rfl, fun _ => .inl rfl⟩
  | x :: l, y :: m, h => by
    obtain ⟨h1, h2⟩ := lessH_get h.2
    refine ⟨by simp [h1], fun b => ?_⟩
    cases b with
    | zero => exact h.1
    | succ b => exact h2 b
  | [], _ :: _, h => h.elim
  | _ :: _, [], h => h.elim
theorem lessH_refl : ∀ l : List Blk, LessH l l
  | [] => trivial
  | _ :: l => ⟨.inr rfl, lessH_refl l⟩
/-- Less of slots and of blocks. -/
theorem Ent.st {env env' : Nat → D} {h h' : List Blk} (he : Less env env') (hh : LessH h h') : Ent ⟨env, h⟩ ⟨env', h'⟩ := fun n G R S w0 w a hlm hm hf => by
  obtain ⟨hl, hg⟩ := lessH_get hh
  have hA : ∀ g, g < w.heap.size → ¬ AOf S R (hv h) g → ¬ AOf S R (hv h') g ∧ ∀ o v, cellv w g o = some v → cellv w g o = some v := fun g _ hn => ⟨fun h => hn (h.less hg), fun _ _ h => h⟩
  refine ⟨R, ⟨hm.hrel.less hg, ⟨hm.srel.nod, hm.srel.len, fun t => ?_⟩, hm.below, hm.kin, hm.g, hm.gk, hm.r0m, hm.keepR⟩, fun b v hb => hf b v (by show h.length ≤ b; rw [← hl]; exact hb)⟩
  show Rep _ _ _ _ (env' t)
  rcases he t with e | e
  · rw [e]; exact .imm (.un _)
  · rw [e]; exact (hm.srel.rep t).mono (fun _ _ _ => rfl) hA

/-! letting the last blocks go -/
theorem Rep.keys {k : Nat} {A A' : Nat → Prop} {v : Value} {d : D} (h : Rep R A w v d) (hk : kb k d) (hR : ∀ b v, b < k → R' b v = R b v) (hA : ∀ g, A' g → A g) : Rep R' A' w v d := by
  induction h with
  | imm h => exact .imm (h.weak hA)
  | agg vs cs hl _ ih => exact .agg vs cs hl fun j d hj => ih j d hj (kbs_get (by simpa [kb] using hk) j d hj)
  | tup vs cs hl _ ih => exact .tup vs cs hl fun j d hj => ih j d hj (kbs_get (by simpa [kb] using hk) j d hj)
  | own b ver off n g cap sz o hR0 ho hn => exact .own b ver off n g cap sz o ((hR b ver (by simpa [kb] using hk)).trans hR0) ho hn
  | ownn b ver hR0 => exact .ownn b ver ((hR b ver (by simpa [kb] using hk)).trans hR0)
  | ptr b ver off g cap sz hR0 => exact .ptr b ver off g cap sz ((hR b ver (by simpa [kb] using hk)).trans hR0)
/-- The last blocks go, if nothing names them. -/
theorem Ent.cut {env : Nat → D} {h l : List Blk} (he : ∀ t, kb h.length (env t)) (hh : kbH h.length h) : Ent ⟨env, h ++ l⟩ ⟨env, h⟩ := fun n G R S w0 w a hlm hm hf => by
  have hle : ∀ b, hv h b = none ∨ hv h b = hv (h ++ l) b := fun b => by
    by_cases hb : b < h.length
    · right
      unfold hv
      rw [List.getD_eq_getElem?_getD, List.getD_eq_getElem?_getD, List.getElem?_append_left hb]
    · exact .inl (hv_ge (by omega))
  have hr := hm.hrel.less hle
  let R' : Nat → Nat → Bnd := fun b v => if b < h.length then R b v else .no
  have hR : ∀ b v, b < h.length → R' b v = R b v := fun b v hb => if_pos hb
  have hAle : ∀ g, AOf S R' (hv h) g → AOf S R (hv h) g := fun g hg => by
    rcases hg with hg | ⟨b, ver, t, sz, cs, cap, sz', hb, hRb⟩
    · exact .inl hg
    · refine .inr ⟨b, ver, t, sz, cs, cap, sz', hb, ?_⟩
      by_cases hbl : b < h.length
      · rw [← hR b ver hbl]; exact hRb
      · rw [hv_ge (by omega)] at hb; cases hb
  have key : ∀ b ver t sz cs, hv h b = some (ver, t, sz, cs) → b < h.length := fun b ver t sz cs hb => by
    rcases Nat.lt_or_ge b h.length with h1 | h1
    · exact h1
    · rw [hv_ge h1] at hb; cases hb
  refine ⟨R', ⟨⟨fun b => ?_, fun b ver t sz cs hb v' hv' => ?_, fun b b' ver ver' t t' sz sz' cs cs' g cap cap' s s' hb hb' h1 h2 => ?_, hm.hrel.ext, fun b ver g cap sz h1 => ?_⟩, ⟨hm.srel.nod, hm.srel.len, fun t => ?_⟩, hm.below, hm.kin, hm.g, hm.gk, hm.r0m, fun b ver hb => ?_⟩, fun b v hb => if_neg (by exact Nat.not_lt.2 hb)⟩
  · show BlkRel R' _ _ _ _ (hv h b)
    have hb := hr.blk b
    cases hH : hv h b with
    | none => exact trivial
    | some x =>
      obtain ⟨ver, t, sz, cs⟩ := x
      rw [hH] at hb
      have hbl := key _ _ _ _ _ hH
      rcases hb with h1 | ⟨g, cap, vs, h1, h2, h3, h4, h5, h6, h7⟩
      · exact .inl ⟨(hR b ver hbl).trans h1.1, h1.2⟩
      · exact .inr ⟨g, cap, vs, (hR b ver hbl).trans h1, h2, h3, h4, h5, h6, fun j d hj => (h7 j d hj).keys (kbs_get (kbH_get hh _ _ _ _ _ hH) j d hj) hR hAle⟩
  · rw [hR b v' (key _ _ _ _ _ hb)]
    exact hr.vers b ver t sz cs hb v' hv'
  · rw [hR b ver (key _ _ _ _ _ hb)] at h1
    rw [hR b' ver' (key _ _ _ _ _ hb')] at h2
    exact hr.inj b b' ver ver' t t' sz sz' cs cs' g cap cap' s s' hb hb' h1 h2
  · by_cases hbl : b < h.length
    · rw [hR b ver hbl] at h1; exact hm.hrel.bnd b ver g cap sz h1
    · have : R' b ver = .no := if_neg hbl
      rw [this] at h1; cases h1
  · exact ((hm.srel.rep t).mono (fun _ _ _ => rfl) (fun g _ hg => ⟨fun h => hg (h.less hle), fun _ _ h => h⟩)).keys (he t) hR hAle
  · have hbl : b < h.length := by
      rcases Nat.lt_or_ge b w0.m with h1 | h1
      · exact Nat.lt_of_lt_of_le h1 hlm
      · exact absurd (hm.r0m b ver h1) hb
    exact (hR b ver hbl).trans (hm.keepR b ver hb)
theorem Ent.trans {σ σ' σ'' : St} (h : Ent σ σ') (hl : σ''.heap.length ≤ σ'.heap.length) (h' : Ent σ' σ'') : Ent σ σ'' := fun n G R S w0 w a hlm hm hf => by
  obtain ⟨R1, hm1, hf1⟩ := h n G R S w0 w a (Nat.le_trans hlm hl) hm hf
  exact h' n G R1 S w0 w a hlm hm1 hf1
theorem hv_app1 (h : List Blk) (x : Blk) : hv (h ++ [x]) = updB (hv h) h.length x := by
  funext c
  unfold hv updB
  simp only [List.getD_eq_getElem?_getD, List.getElem?_append]
  by_cases e : c = h.length
  · subst e; simp
  · rw [if_neg e]
    split
    · rfl
    · rename_i hc
      rw [List.getElem?_eq_none (by simp; omega), List.getElem?_eq_none (by omega)]
/-- A row that is nil is a row of the call's own, with nothing in it. -/
theorem Ent.nils {env : Nat → D} {h : List Blk} {s : Nat} (t sz : Nat) (hs : env s = .nils) : Ent ⟨env, h⟩ ⟨putE env (some s) (.own h.length 0 0 0), h ++ [some (0, t, sz, [])]⟩ := fun n G R S w0 w a hlm hm hf => by
  have hR : ∀ b v, R b v ≠ .no → bindR R h.length 0 .nil b v = R b v := fun b v hb => bindR_other (hf _ _ (Nat.le_refl _)) hb
  obtain ⟨h1, h2⟩ := hrel_upd (w' := w) (R' := bindR R h.length 0 .nil) (b0 := h.length) (ver := 0) (t := t) (sz := sz) (cs := []) hm.hrel hR (fun b hb => bindR_key hb)
    (fun v' hv' => by unfold bindR; rw [if_neg (by omega)]; exact hf _ _ (Nat.le_refl _))
    (fun v g cap s hb => by
      unfold bindR at hb
      split at hb
      · cases hb
      · have e : R h.length v = .no := hf _ _ (Nat.le_refl _)
        rw [e] at hb; cases hb)
    (.inl ⟨bindR_same, rfl⟩) (Nat.le_refl _) (fun _ _ _ => rfl)
  rw [← hv_app1] at h1 h2
  refine ⟨_, ⟨h1, ⟨hm.srel.nod, hm.srel.len, fun t' => ?_⟩, hm.below, hm.kin, hm.g, hm.gk, hm.r0m, fun b ver hb => (hR b ver (by rw [hm.keepR b ver hb]; exact hb)).trans (hm.keepR b ver hb)⟩, fun b v hb => ?_⟩
  · show Rep _ _ _ _ (putE env (some s) (.own h.length 0 0 0) t')
    unfold putE
    split
    · rename_i e
      cases e
      have := hm.srel.rep s
      rw [show (⟨env, h⟩ : St).env s = .nils from hs] at this
      rw [this.nils_inv]
      exact .ownn _ _ bindR_same
    · exact (hm.srel.rep t').mono hR h2
  · have hb' : h.length + 1 ≤ b := by simpa using hb
    unfold bindR
    rw [if_neg (by omega)]
    exact hf b v (by show h.length ≤ b; omega)
theorem lessH_app : ∀ {h0 h l : List Blk}, LessH h0 h → LessH (h0 ++ l) (h ++ l)
  | [], [], l, _ => lessH_refl l
  | x :: h0, y :: h, l, hl => ⟨hl.1, lessH_app hl.2⟩
  | [], _ :: _, _, h => h.elim
  | _ :: _, [], _, h => h.elim
/-- Less of slots and of blocks, the last blocks let go. -/
theorem Ent.cutst {env env' : Nat → D} {h0 h l : List Blk} (he : Less env env') (hh : LessH h0 h) (hk : ∀ t, kb h.length (env' t)) (hb : kbH h.length h) : Ent ⟨env, h0 ++ l⟩ ⟨env', h⟩ :=
  (Ent.st he (lessH_app hh)).trans (by simp) (Ent.cut hk hb)
theorem Ent.cutk (k : Nat) {env env' : Nat → D} {h1 h : List Blk} (he : Less env env') (hh : LessH (h1.take k) h) (hk : ∀ t, kb h.length (env' t)) (hb : kbH h.length h) : Ent ⟨env, h1⟩ ⟨env', h⟩ := by
  have := Ent.cutst (l := h1.drop k) he hh hk hb
  rwa [List.take_append_drop] at this
theorem kb_un0 (k t : Nat) : kb k (un0 t) := trivial
theorem kb_put {k : Nat} {env : Nat → D} {s : Nat} {d : D} (h : ∀ t, kb k (env t)) (hd : kb k d) (t : Nat) : kb k (putE env (some s) d t) := by
  unfold putE
  split
  · exact hd
  · exact h t
end
end Go.Proofs.YtapikjmijmebpaaGreatDoorK.AI
/-
  The abstract interpreter, part 22: a function that is handed own blocks: its contract, by its code.
-/
namespace Go.Proofs.YtapikjmijmebpaaGreatDoorK.AI
open Go.RowKit

section
variable {P : Program} {G : World → Prop} {R : Nat → Nat → Bnd} {S : Nat → Prop} {base : Nat → Prop} {w : World}
theorem HRel.cut {h l : List Blk} (hr0 : HRel R S base w (hv (h ++ l))) (hh : kbH h.length h) : ∃ R' : Nat → Nat → Bnd, HRel R' S base w (hv h) ∧ (∀ b v, b < h.length → R' b v = R b v) ∧ (∀ b v, h.length ≤ b → R' b v = .no) ∧ ∀ g, AOf S R' (hv h) g → AOf S R (hv (h ++ l)) g := by
  have hle : ∀ b, hv h b = none ∨ hv h b = hv (h ++ l) b := fun b => by
    by_cases hb : b < h.length
    · right
      unfold hv
      rw [List.getD_eq_getElem?_getD, List.getD_eq_getElem?_getD, List.getElem?_append_left hb]
    · exact .inl (hv_ge (by omega))
  have hr := hr0.less hle
  let R' : Nat → Nat → Bnd := fun b v => if b < h.length then R b v else .no
  have hR : ∀ b v, b < h.length → R' b v = R b v := fun b v hb => if_pos hb
  have hAle : ∀ g, AOf S R' (hv h) g → AOf S R (hv h) g := fun g hg => by
    rcases hg with hg | ⟨b, ver, t, sz, cs, cap, sz', hb, hRb⟩
    · exact .inl hg
    · refine .inr ⟨b, ver, t, sz, cs, cap, sz', hb, ?_⟩
      by_cases hbl : b < h.length
      · rw [← hR b ver hbl]; exact hRb
      · rw [hv_ge (by omega)] at hb; cases hb
  have key : ∀ b ver t sz cs, hv h b = some (ver, t, sz, cs) → b < h.length := fun b ver t sz cs hb => by
    rcases Nat.lt_or_ge b h.length with h1 | h1
    · exact h1
    · rw [hv_ge h1] at hb; cases hb
  refine ⟨R', ⟨fun b => ?_, fun b ver t sz cs hb v' hv' => ?_, fun b b' ver ver' t t' sz sz' cs cs' g cap cap' s s' hb hb' h1 h2 => ?_, hr.ext, fun b ver g cap sz h1 => ?_⟩, hR, fun b v hb => if_neg (by exact Nat.not_lt.2 hb), fun g hg => (hAle g hg).less hle⟩
  · show BlkRel R' _ _ _ _ (hv h b)
    have hb := hr.blk b
    cases hH : hv h b with
    | none => exact trivial
    | some x =>
      obtain ⟨ver, t, sz, cs⟩ := x
      rw [hH] at hb
      have hbl := key _ _ _ _ _ hH
      rcases hb with h1 | ⟨g, cap, vs, h1, h2, h3, h4, h5, h6, h7⟩
      · exact .inl ⟨(hR b ver hbl).trans h1.1, h1.2⟩
      · exact .inr ⟨g, cap, vs, (hR b ver hbl).trans h1, h2, h3, h4, h5, h6, fun j d hj => (h7 j d hj).keys (kbs_get (kbH_get hh _ _ _ _ _ hH) j d hj) hR hAle⟩
  · rw [hR b v' (key _ _ _ _ _ hb)]
    exact hr.vers b ver t sz cs hb v' hv'
  · rw [hR b ver (key _ _ _ _ _ hb)] at h1
    rw [hR b' ver' (key _ _ _ _ _ hb')] at h2
    exact hr.inj b b' ver ver' t t' sz sz' cs cs' g cap cap' s s' hb hb' h1 h2
  · by_cases hbl : b < h.length
    · rw [hR b ver hbl] at h1; exact hr.bnd b ver g cap sz h1
    · have : R' b ver = .no := if_neg hbl
      rw [this] at h1; cases h1
/-- What a function gives back, and the blocks that it was handed. -/
def ResG (rv : List RV) (r : D) (h' : List Blk) (e : AEx) (σ : St) : Prop := (match e with | .exit _ => False | _ => True) ∧ ∃ l ds, σ.heap = h' ++ l ∧ rvDs (hv σ.heap) σ.env rv = some ds ∧ one? ds = r ∧ kb h'.length r ∧ kbH h'.length h'
theorem pcg_by {f : FuncId} {fn : Func} {ir : IR} {rv : List RV} {xs : List D} {rr : D} {h h' : List Blk} {n : Nat} (hf : P.funcs[f]? = some fn) (hc : fn.body.bind (comp P) = some ir) (hr : compRes P fn.results.toList = some rv) (h4 : fn.results.toList.length ≤ 4) (hn : fn.ntmps = n) (hx : xs.length ≤ n) (hd : dstOk n ir = true)
    (hl : h.length ≤ h'.length) (hw : ∀ r hh, r = rr → hh = h' → awp P G h.length ir (ResG rv r hh) ⟨ini xs, h⟩) : PCg P G f xs h rr h' := by
  subst hn
  obtain ⟨c, hb, hc⟩ := Option.bind_eq_some_iff.1 hc
  intro R S K w vs hrel hK hG hfr hsz hvs
  refine calls_of_wp hf hb (wp_mono (awp_sound (G := G) (S := S) (w0 := ⟨w, K, h.length, R⟩) c ir (ResG rv rr h') ⟨ini xs, h⟩ _ w hc hd (hw _ _ rfl rfl)
    ⟨Nat.le_refl _, R, ⟨hrel, ⟨rfl, ?_, fun t => ?_⟩, BelowK.refl _ _, hK, hG w (BelowK.refl _ _), hG, hfr, fun _ _ _ => rfl⟩, hfr⟩) ?_)
  · simp [hsz]; omega
  · show Rep _ _ _ ((vs ++ Array.replicate (fn.ntmps - vs.size) undef).getD t undef) (xs.getD t (D.tup []))
    rw [Array.getD_eq_getD_getElem?, List.getD_eq_getElem?_getD, Array.getElem?_append, hsz]
    split
    · rename_i ht
      have h1 := hvs t xs[t] (List.getElem?_eq_getElem ht)
      rw [List.getElem?_eq_getElem ht]
      rw [Array.getD_eq_getD_getElem?] at h1
      exact h1
    · rename_i ht
      rw [List.getElem?_eq_none (by omega), Array.getElem?_replicate]
      split
      · exact rep_undef
      · exact rep_undef
  · rintro e a w' ⟨ae, σ, rfl, ⟨hae, l, ds, hσ, hds, hone, hkr, hkh⟩, hml, R1, hm, hfr1⟩
    obtain ⟨vs', hl', hruns, hreps⟩ := runs_rvs hm.hrel hm.srel _ _ _ hr hds
    have hrun := run_results (fn := fn) _ _ (by simp) h4 hruns
    have hrep := rep_one? hl' hreps
    rw [hone] at hrep
    have hrel1 := hm.hrel
    rw [hσ] at hrel1 hrep
    obtain ⟨R', p1, p2, p3, p4⟩ := hrel1.cut hkh
    have hend : a.defers = [] ∧ ∃ v, (results fn a.tmps).run P w' = .ok v w' ∧ ∃ u R', Ending.returned v = .returned u ∧ HRel R' S K w' (hv h') ∧ Rep R' (AOf S R' (hv h')) w' u rr ∧ (∀ b ver, R b ver ≠ .no → R' b ver = R b ver) ∧ (∀ b v, h'.length ≤ b → R' b v = .no) ∧ BelowK K w w' := by
      refine ⟨hm.srel.nod, _, hrun, _, R', rfl, p1, hrep.keys hkr p2 p4, fun b ver hb => ?_, p3, hm.below⟩
      have hbl : b < h'.length := by
        rcases Nat.lt_or_ge b h.length with h1 | h1
        · omega
        · exact absurd (hfr b ver h1) hb
      rw [p2 b ver hbl]
      exact hm.keepR b ver hb
    cases ae with
    | normal => exact hend
    | exit id => exact hae.elim
    | ret => exact hend
theorem resg_ret {rv : List RV} {r : D} {h' l : List Blk} {env : Nat → D} {ds : List D} (hr : rvDs (hv (h' ++ l)) env rv = some ds) (e : one? ds = r) (hk : kb h'.length r) (hh : kbH h'.length h') : ResG rv r h' .ret ⟨env, h' ++ l⟩ := ⟨trivial, l, ds, rfl, hr, e, hk, hh⟩
theorem resg_end {rv : List RV} {r : D} {h' l : List Blk} {env : Nat → D} {ds : List D} (hr : rvDs (hv (h' ++ l)) env rv = some ds) (e : one? ds = r) (hk : kb h'.length r) (hh : kbH h'.length h') : ResG rv r h' .normal ⟨env, h' ++ l⟩ := ⟨trivial, l, ds, rfl, hr, e, hk, hh⟩
/-- A call that is handed own blocks (κ, the last perhaps a new one), all cells of which are told whatever the blocks' names. -/
def immH : List Blk → Bool
  | [] => true
  | none :: l => immH l
  | some (_, _, _, cs) :: l => cs.all D.imm && immH l
theorem ren_imm {κ : List Nat} {d : D} (h : d.imm = true) : d.ren κ = d := by cases d <;> simp [D.imm] at h <;> rfl
theorem map_imm {κ : List Nat} : ∀ {l : List D}, l.all D.imm = true → l.map (D.ren κ) = l
  | [], _ => rfl
  | x :: l, h => by
    simp only [List.all_cons, Bool.and_eq_true] at h
    rw [List.map_cons, ren_imm h.1, map_imm h.2]
theorem renB_imm {κ : List Nat} : ∀ {h : List Blk}, immH h = true → h.map (renB κ) = h
  | [], _ => rfl
  | none :: l, hi => by rw [List.map_cons, renB_imm (h := l) hi]; rfl
  | some (v, t, s, cs) :: l, hi => by
    simp only [immH, Bool.and_eq_true] at hi
    rw [List.map_cons, renB_imm hi.2]
    simp only [renB, map_imm hi.1]
theorem kbH_imm {k : Nat} : ∀ {h : List Blk}, immH h = true → kbH k h
  | [], _ => trivial
  | none :: l, hi => kbH_imm (h := l) hi
  | some (v, t, s, cs) :: l, hi => by
    simp only [immH, Bool.and_eq_true] at hi
    exact ⟨kbs_of_imm hi.1, kbH_imm hi.2⟩
theorem ops_callw {K : Tr → St → Prop} {tr : Tr} {l : List IOper} {env : Nat → D} {hp : List Blk} {dst : Option Nat} {f : FuncId} {args : List Opd} (κ : List Nat) {xs : List D} {h h' : List Blk} {r r' : D} {ws : List (Nat × Blk)} (hg : PCg P G f xs h r h')
    (ha : args.map (getO env) = xs.map (D.ren κ)) (hs : ∀ d ∈ xs, kb κ.length d) (hn : κ.Nodup) (hl : h'.length = κ.length) (hle : h.length ≤ κ.length) (hb : (κ.take h.length).map (hv hp) = h) (ht : h.all Option.isSome = true) (hnew : ∀ b ∈ κ.drop h.length, b = hp.length) (hi : immH h = true) (hi' : immH h' = true) (hr : r.ren κ = r') (hw : κ.zip h' = ws)
    (hk : awpOps P G K l ((ws.map (·.1), κ.take h.length) :: tr) ⟨putE env dst r', setH hp ws⟩) :
    awpOps P G K (⟨dst, .call f args, none⟩ :: l) tr ⟨env, hp⟩ := by
  subst hw hr
  have hget : ∀ i, i < h.length → hv hp (κ.getD i 0) = hv h i := fun i hi => by
    have h1 : i < κ.length := by omega
    have h2 := congrArg (fun l => l[i]?) hb
    simp only [List.getElem?_map, List.getElem?_take, if_pos hi, List.getElem?_eq_getElem h1, List.getElem?_eq_getElem hi, Option.map_some, Option.some.injEq] at h2
    rw [List.getD_eq_getElem?_getD, List.getElem?_eq_getElem h1]
    show hv hp κ[i] = h.getD i none
    rw [h2, List.getD_eq_getElem?_getD, List.getElem?_eq_getElem hi]; rfl
  simp only [awpOps, wantedI, aOp]
  refine .inr ⟨κ, xs, h, r, h', ⟨ha, hs, ⟨hn, hle, hl, kbH_imm hi, fun i hil => ?_, fun b hbm => ?_, hnew⟩, hg⟩, ?_⟩
  · rw [hget i hil]
    have := renB_imm (κ := κ) hi
    have h2 := congrArg (fun l => l[i]?) this
    simp only [List.getElem?_map, List.getElem?_eq_getElem hil, Option.map_some, Option.some.injEq] at h2
    show h.getD i none = renB κ (h.getD i none)
    rw [List.getD_eq_getElem?_getD, List.getElem?_eq_getElem hil]
    exact h2.symm
  · have hm : hv hp b ∈ h := by rw [← hb]; exact List.mem_map_of_mem hbm
    have := List.all_eq_true.1 ht _ hm
    intro e
    rw [e] at this
    cases this
  · rw [renB_imm hi']
    exact hk
end
end Go.Proofs.YtapikjmijmebpaaGreatDoorK.AI
/-
  A row that is nil is a row with nothing in it.
-/
namespace Go.Proofs.YtapikjmijmebpaaGreatDoorK.AI
open Go.RowKit
theorem Ent.nilsl {env : Nat → D} {h : List Blk} {s : Nat} (hs : env s = .nils) : Ent ⟨env, h⟩ ⟨putE env (some s) (.sl 0 []), h⟩ := fun n G R S w0 w a hlm hm hf => by
  refine ⟨R, ⟨hm.hrel, ⟨hm.srel.nod, hm.srel.len, fun t' => ?_⟩, hm.below, hm.kin, hm.g, hm.gk, hm.r0m, hm.keepR⟩, hf⟩
  show Rep _ _ _ _ (putE env (some s) (.sl 0 []) t')
  unfold putE
  split
  · rename_i e
    cases e
    have := hm.srel.rep s
    rw [show (⟨env, h⟩ : St).env s = .nils from hs] at this
    rw [this.nils_inv]
    exact .imm (.sl none 0 0 [] 0 0 (fun _ => undef) (Nat.le_refl _) (Nat.zero_le _) (fun h => absurd rfl h) (fun h => absurd rfl h) (fun j d h => by simp at h) (fun j d h => by simp at h))
  · exact hm.srel.rep t'
end Go.Proofs.YtapikjmijmebpaaGreatDoorK.AI
/-
  Steps of a walk, each one lemma; what each asks for is sought by a tactic that the lemma itself names.
-/
namespace Go.Proofs.YtapikjmijmebpaaGreatDoorK.AI
open Go.RowKit
section
variable {P : Program} {G : World → Prop} {Q : AEx → St → Prop} {K : Tr → St → Prop} {env env' : Nat → D} {h h' : List Blk} {tr tr' : Tr} {l rest : List IOper} {σ : St} {m : Nat}
theorem xctl {p q : Prop} (k : q) (f : q → p := by intro f; (repeat with_reducible first | refine awp_seq_i ?_ | refine awp_reg_i ?_ | refine ops_nil_i ?_ | refine then_normal_i ?_ | refine awp_draw_i ?_ | refine awp_block_i ?_ | refine in_normal_i ?_ | refine awp_exit_i ?_ | refine then_exit_i ?_ | refine in_exit_i ?_ | refine in_exit_ne (by decide) ?_ | refine awp_ret_i ?_ | refine then_ret_i ?_ | refine in_ret_i ?_ | refine awp_skip_i ?_); exact f) : p := f k
theorem xctl1 {p q : Prop} (k : q) (f : q → p := by intro f; (repeat with_reducible first | refine awp_reg_i ?_ | refine ops_nil_i ?_ | refine then_normal_i ?_ | refine awp_draw_i ?_ | refine awp_block_i ?_ | refine in_normal_i ?_ | refine awp_exit_i ?_ | refine then_exit_i ?_ | refine in_exit_i ?_ | refine in_exit_ne (by decide) ?_ | refine awp_ret_i ?_ | refine then_ret_i ?_ | refine in_ret_i ?_ | refine awp_skip_i ?_); exact f) : p := f k
theorem xrg {c : Prop} (hk : awpOps P G K rest tr' ⟨env', h'⟩) (hs : symOps l True tr env h = some ⟨c, tr', env', h', rest⟩ := by simp (disch := omega) only [go_sem, Nat.reduceEqDiff, Nat.reduceAdd, Nat.reduceLT, Nat.reduceMul, Nat.reduceLeDiff, reduceCtorEq, Int.reduceNeg, Int.reduceToNat]; rfl) (hc : c := by first | with_reducible exact True.intro | omega) : awpOps P G K l tr ⟨env, h⟩ := ops_sym hs hc hk
theorem xrg0 {c : Prop} (hc : c) (hk : awpOps P G K rest tr' ⟨env', h'⟩) (hs : symOps l True tr env h = some ⟨c, tr', env', h', rest⟩ := by simp (disch := omega) only [go_sem, Nat.reduceEqDiff, Nat.reduceAdd, Nat.reduceLT, Nat.reduceMul, Nat.reduceLeDiff, reduceCtorEq, Int.reduceNeg, Int.reduceToNat]; rfl) : awpOps P G K l tr ⟨env, h⟩ := ops_sym hs hc hk
/-- A call's answer, and what goes on from it. -/
def CallA (P : Program) (G : World → Prop) (f : FuncId) (xs : List D) (k : D → Prop) : Prop := ∃ r, PCr P G f xs r ∧ k r
def CallF (P : Program) (G : World → Prop) (f : FuncId) (xs : List D) (k : D → Prop) : Prop := ∃ r, PCr P G f xs r ∧ r.flat = true ∧ k r
theorem xca {f : FuncId} {xs : List D} {r : D} {k : D → Prop} (hp : PCr P G f xs r) (hk : k r) : CallA P G f xs k := ⟨r, hp, hk⟩
theorem xcf {f : FuncId} {xs : List D} {r : D} {k : D → Prop} (hp : PCr P G f xs r) (hf : r.flat = true) (hk : k r) : CallF P G f xs k := ⟨r, hp, hf, hk⟩
theorem xca1 {dst : Option Nat} {f : FuncId} {args : List Opd} {xs : List D} {ks : List Nat} (hk : CallA P G f xs fun r => awpOps P G K l ((ks, ks) :: tr) ⟨putE env dst r, setH h (ks.map fun b => (b, none))⟩) (hx : resArgs (hv h) env args = some (xs, ks) := by simp (disch := omega) only [go_sem, Nat.reduceEqDiff, Nat.reduceAdd, Nat.reduceLT, Nat.reduceMul, Nat.reduceLeDiff, reduceCtorEq, Int.reduceNeg, Int.reduceToNat]; rfl) : awpOps P G K (⟨dst, .call f args, none⟩ :: l) tr ⟨env, h⟩ :=
  have ⟨_, hp, hk⟩ := hk; ops_call hx hp hk
theorem xcf1 {dst : Option Nat} {f : FuncId} {args : List Opd} {xs : List D} {ks : List Nat} (hk : CallF P G f xs fun r => awpOps P G K l (([], ks) :: tr) ⟨putE env dst r, h⟩) (hx : resArgs (hv h) env args = some (xs, ks) := by simp (disch := omega) only [go_sem, Nat.reduceEqDiff, Nat.reduceAdd, Nat.reduceLT, Nat.reduceMul, Nat.reduceLeDiff, reduceCtorEq, Int.reduceNeg, Int.reduceToNat]; rfl) : awpOps P G K (⟨dst, .call f args, none⟩ :: l) tr ⟨env, h⟩ :=
  have ⟨_, hp, hf, hk⟩ := hk; ops_callf hx hp hf hk
theorem xcga1 {dst : Option Nat} {f : FuncId} {args : List Opd} {xs : List D} {ks : List Nat} {t : Nat} {b w : Bool} (hk : CallA P G f xs fun r => awpOps P G K l ((ks, ks) :: tr) ⟨putE env dst r, setH h (ks.map fun b => (b, none))⟩) (hb : env t = .bool b := by simp only [go_sem, Nat.reduceEqDiff, Nat.reduceAdd, Nat.reduceLT, Nat.reduceMul, Nat.reduceLeDiff, reduceCtorEq, Int.reduceNeg, Int.reduceToNat] <;> rfl) (hw : b = w := by rfl) (hx : resArgs (hv h) env args = some (xs, ks) := by simp (disch := omega) only [go_sem, Nat.reduceEqDiff, Nat.reduceAdd, Nat.reduceLT, Nat.reduceMul, Nat.reduceLeDiff, reduceCtorEq, Int.reduceNeg, Int.reduceToNat]; rfl) :
    awpOps P G K (⟨dst, .call f args, some (some t, w)⟩ :: l) tr ⟨env, h⟩ := have ⟨_, hp, hk⟩ := hk; ops_callg hb hw hx hp hk
theorem xcgf1 {dst : Option Nat} {f : FuncId} {args : List Opd} {xs : List D} {ks : List Nat} {t : Nat} {b w : Bool} (hk : CallF P G f xs fun r => awpOps P G K l (([], ks) :: tr) ⟨putE env dst r, h⟩) (hb : env t = .bool b := by simp only [go_sem, Nat.reduceEqDiff, Nat.reduceAdd, Nat.reduceLT, Nat.reduceMul, Nat.reduceLeDiff, reduceCtorEq, Int.reduceNeg, Int.reduceToNat] <;> rfl) (hw : b = w := by rfl) (hx : resArgs (hv h) env args = some (xs, ks) := by simp (disch := omega) only [go_sem, Nat.reduceEqDiff, Nat.reduceAdd, Nat.reduceLT, Nat.reduceMul, Nat.reduceLeDiff, reduceCtorEq, Int.reduceNeg, Int.reduceToNat]; rfl) :
    awpOps P G K (⟨dst, .call f args, some (some t, w)⟩ :: l) tr ⟨env, h⟩ := have ⟨_, hp, hf, hk⟩ := hk; ops_callgf hb hw hx hp hf hk
theorem xrt {rv : List RV} {r r' : D} {ks : List Nat} (e : r' = r) (hr : ((rvDs (hv h) env rv).bind fun ds => resD (hv h) 6 (one? ds)) = some (r', ks) := by simp (disch := omega) only [go_sem, Nat.reduceEqDiff, Nat.reduceAdd, Nat.reduceLT, Nat.reduceMul, Nat.reduceLeDiff, reduceCtorEq, Int.reduceNeg, Int.reduceToNat]; rfl) : Res rv r .ret ⟨env, h⟩ := res_ret hr e
theorem xct {c : Opd} {a b : IR} (hk : awp P G m a Q ⟨env, h⟩) (hc : getO env c = .bool true := by simp only [go_sem, Nat.reduceEqDiff, Nat.reduceAdd, Nat.reduceLT, Nat.reduceMul, Nat.reduceLeDiff, reduceCtorEq, Int.reduceNeg, Int.reduceToNat]) : awp P G m (.cond c a b) Q ⟨env, h⟩ := awp_cond_t hc hk
theorem xcF {c : Opd} {a b : IR} (hk : awp P G m b Q ⟨env, h⟩) (hc : getO env c = .bool false := by simp only [go_sem, Nat.reduceEqDiff, Nat.reduceAdd, Nat.reduceLT, Nat.reduceMul, Nat.reduceLeDiff, reduceCtorEq, Int.reduceNeg, Int.reduceToNat]) : awp P G m (.cond c a b) Q ⟨env, h⟩ := awp_cond_f hc hk
theorem xcto {c : Opd} {a b : IR} (hk : awp P G m a Q ⟨env, h⟩) (hc : getO env c = .bool true := by simp only [go_sem, Nat.reduceEqDiff, Nat.reduceAdd, Nat.reduceLT, Nat.reduceMul, Nat.reduceLeDiff, reduceCtorEq, Int.reduceNeg, Int.reduceToNat]; exact congrArg D.bool (decide_eq_true (by omega))) : awp P G m (.cond c a b) Q ⟨env, h⟩ := awp_cond_t hc hk
theorem xcfo {c : Opd} {a b : IR} (hk : awp P G m b Q ⟨env, h⟩) (hc : getO env c = .bool false := by simp only [go_sem, Nat.reduceEqDiff, Nat.reduceAdd, Nat.reduceLT, Nat.reduceMul, Nat.reduceLeDiff, reduceCtorEq, Int.reduceNeg, Int.reduceToNat]; exact congrArg D.bool (decide_eq_false (by omega))) : awp P G m (.cond c a b) Q ⟨env, h⟩ := awp_cond_f hc hk
theorem xcs {c : Opd} {a b : IR} {t : Bool} (h1 : t = true → awp P G m a Q ⟨env, h⟩) (h2 : t = false → awp P G m b Q ⟨env, h⟩) (hc : getO env c = .bool t := by simp only [go_sem, Nat.reduceEqDiff, Nat.reduceAdd, Nat.reduceLT, Nat.reduceMul, Nat.reduceLeDiff, reduceCtorEq, Int.reduceNeg, Int.reduceToNat]; rfl) : awp P G m (.cond c a b) Q ⟨env, h⟩ := awp_cond_sym hc h1 h2
theorem xdr {anc : List Nat} (hk : Q .normal σ) (h : clear anc tr = true := by first | rfl | decide) : clear anc tr = true ∧ Q .normal σ := ⟨h, hk⟩
theorem xlq {α : Sort _} {a b : α} (h : a = b := by simp only [go_sem, Nat.reduceEqDiff, Nat.reduceAdd, Nat.reduceLT, Nat.reduceMul, Nat.reduceLeDiff, reduceCtorEq, Int.reduceNeg, Int.reduceToNat]) : a = b := h
end
end Go.Proofs.YtapikjmijmebpaaGreatDoorK.AI
/-
  Steps of a walk that are taken only where they go on: a walk is these, repeated.
-/
namespace Go.Proofs.YtapikjmijmebpaaGreatDoorK.AI
open Go.RowKit
section
variable {P : Program} {G : World → Prop} {Q : AEx → St → Prop} {K : Tr → St → Prop} {env env' : Nat → D} {h h' : List Blk} {tr tr' : Tr} {l rest : List IOper} {σ : St} {m : Nat}
theorem xctlp {p q : Prop} (k : q) (f : q → p := by intro f; (with_reducible first | refine awp_seq_i ?_ | refine awp_reg_i ?_ | refine ops_nil_i ?_ | refine then_normal_i ?_ | refine awp_draw_i ?_ | refine awp_block_i ?_ | refine in_normal_i ?_ | refine awp_exit_i ?_ | refine then_exit_i ?_ | refine in_exit_i ?_ | refine in_exit_ne (by decide) ?_ | refine awp_ret_i ?_ | refine then_ret_i ?_ | refine in_ret_i ?_ | refine awp_skip_i ?_); (repeat with_reducible first | refine awp_seq_i ?_ | refine awp_reg_i ?_ | refine ops_nil_i ?_ | refine then_normal_i ?_ | refine awp_draw_i ?_ | refine awp_block_i ?_ | refine in_normal_i ?_ | refine awp_exit_i ?_ | refine then_exit_i ?_ | refine in_exit_i ?_ | refine in_exit_ne (by decide) ?_ | refine awp_ret_i ?_ | refine then_ret_i ?_ | refine in_ret_i ?_ | refine awp_skip_i ?_); exact f) : p := f k
theorem xrgp {dst : Option Nat} {op : IOp} {g : Option (Option Nat × Bool)} {c : Prop} (hk : awpOps P G K rest tr' ⟨env', h'⟩) (hn : op.isCall = false := by rfl) (hs : symOps (⟨dst, op, g⟩ :: l) True tr env h = some ⟨c, tr', env', h', rest⟩ := by simp (disch := omega) only [go_sem, Nat.reduceEqDiff, Nat.reduceAdd, Nat.reduceLT, Nat.reduceMul, Nat.reduceLeDiff, reduceCtorEq, Int.reduceNeg, Int.reduceToNat]; rfl) (hc : c := by first | with_reducible exact True.intro | omega) : awpOps P G K (⟨dst, op, g⟩ :: l) tr ⟨env, h⟩ := ops_sym hs hc hk
/-- A guard that does not hold. -/
theorem xrgs {dst : Option Nat} {op : IOp} {t : Nat} {w : Bool} {c : Prop} (hk : awpOps P G K rest tr' ⟨env', h'⟩) (hn : op.isCall = true := by rfl) (hg : env t = .bool (!w) := by simp only [go_sem, Nat.reduceEqDiff, Nat.reduceAdd, Nat.reduceLT, Nat.reduceMul, Nat.reduceLeDiff, reduceCtorEq, Int.reduceNeg, Int.reduceToNat] <;> rfl) (hs : symOps (⟨dst, op, some (some t, w)⟩ :: l) True tr env h = some ⟨c, tr', env', h', rest⟩ := by simp (disch := omega) only [go_sem, Nat.reduceEqDiff, Nat.reduceAdd, Nat.reduceLT, Nat.reduceMul, Nat.reduceLeDiff, reduceCtorEq, Int.reduceNeg, Int.reduceToNat]; rfl) (hc : c := by first | with_reducible exact True.intro | omega) : awpOps P G K (⟨dst, op, some (some t, w)⟩ :: l) tr ⟨env, h⟩ := ops_sym hs hc hk
def CallB (P : Program) (G : World → Prop) (f : FuncId) (xs : List D) (kF kA : D → Prop) : Prop := (∃ r, PCr P G f xs r ∧ r.flat = true ∧ kF r) ∨ ∃ r, PCr P G f xs r ∧ kA r
theorem xcbf {f : FuncId} {xs : List D} {r : D} {kF kA : D → Prop} (hp : PCr P G f xs r) (hf : r.flat = true) (hk : kF r) : CallB P G f xs kF kA := .inl ⟨r, hp, hf, hk⟩
theorem xcba {f : FuncId} {xs : List D} {r : D} {kF kA : D → Prop} (hp : PCr P G f xs r) (hk : kA r) : CallB P G f xs kF kA := .inr ⟨r, hp, hk⟩
theorem xcb1 {dst : Option Nat} {f : FuncId} {args : List Opd} {xs : List D} {ks : List Nat} (hk : CallB P G f xs (fun r => awpOps P G K l (([], ks) :: tr) ⟨putE env dst r, h⟩) (fun r => awpOps P G K l ((ks, ks) :: tr) ⟨putE env dst r, setH h (ks.map fun b => (b, none))⟩)) (hx : resArgs (hv h) env args = some (xs, ks) := by simp (disch := omega) only [go_sem, Nat.reduceEqDiff, Nat.reduceAdd, Nat.reduceLT, Nat.reduceMul, Nat.reduceLeDiff, reduceCtorEq, Int.reduceNeg, Int.reduceToNat]; rfl) : awpOps P G K (⟨dst, .call f args, none⟩ :: l) tr ⟨env, h⟩ :=
  hk.elim (fun ⟨_, hp, hf, hk⟩ => ops_callf hx hp hf hk) (fun ⟨_, hp, hk⟩ => ops_call hx hp hk)
theorem xcbg1 {dst : Option Nat} {f : FuncId} {args : List Opd} {xs : List D} {ks : List Nat} {t : Nat} {b w : Bool} (hk : CallB P G f xs (fun r => awpOps P G K l (([], ks) :: tr) ⟨putE env dst r, h⟩) (fun r => awpOps P G K l ((ks, ks) :: tr) ⟨putE env dst r, setH h (ks.map fun b => (b, none))⟩)) (hb : env t = .bool b := by simp only [go_sem, Nat.reduceEqDiff, Nat.reduceAdd, Nat.reduceLT, Nat.reduceMul, Nat.reduceLeDiff, reduceCtorEq, Int.reduceNeg, Int.reduceToNat] <;> rfl) (hw : b = w := by rfl) (hx : resArgs (hv h) env args = some (xs, ks) := by simp (disch := omega) only [go_sem, Nat.reduceEqDiff, Nat.reduceAdd, Nat.reduceLT, Nat.reduceMul, Nat.reduceLeDiff, reduceCtorEq, Int.reduceNeg, Int.reduceToNat]; rfl) : awpOps P G K (⟨dst, .call f args, some (some t, w)⟩ :: l) tr ⟨env, h⟩ :=
  hk.elim (fun ⟨_, hp, hf, hk⟩ => ops_callgf hb hw hx hp hf hk) (fun ⟨_, hp, hk⟩ => ops_callg hb hw hx hp hk)
end
end Go.Proofs.YtapikjmijmebpaaGreatDoorK.AI
/-
  The abstract interpreter, part 21: closed calls are run (evF): what comes out is the call's contract.
-/
namespace Go.Proofs.YtapikjmijmebpaaGreatDoorK.AI
open Go.RowKit

/-! values are told out, so that no work piles up -/
section
variable {α : Type}
def frcN (n : Nat) (k : Nat → α) : α := match n with | 0 => k 0 | m + 1 => k (m + 1)
def frcI (n : Int) (k : Int → α) : α := match n with | .ofNat m => frcN m fun m => k (.ofNat m) | .negSucc m => frcN m fun m => k (.negSucc m)
def frcB (b : Bool) (k : Bool → α) : α := match b with | true => k true | false => k false
def frcL {β : Type} (l : List β) (k : List β → α) : α := match l with | [] => k [] | x :: l => frcL l fun l => k (x :: l)
def frcS (s : ByteArray) (k : ByteArray → α) : α := match s with | ⟨⟨l⟩⟩ => frcL l fun l => k ⟨⟨l⟩⟩
def frc1 (d : D) (k : D → α) : α := match d with
  | .bool b => frcB b fun b => k (.bool b)
  | .int q n => frcI n fun n => k (.int q n)
  | .str s => frcS s fun s => k (.str s)
  | .ptr b v o => frcN b fun b => frcN v fun v => frcN o fun o => k (.ptr b v o)
  | .own b v o n => frcN b fun b => frcN v fun v => frcN o fun o => frcN n fun n => k (.own b v o n)
  | .sl n cs => frcN n fun n => frcL cs fun cs => k (.sl n cs)
  | .rp cs => frcL cs fun cs => k (.rp cs)
  | .agg cs => frcL cs fun cs => k (.agg cs)
  | .tup cs => frcL cs fun cs => k (.tup cs)
  | .un => k .un
  | .null => k .null
  | .nils => k .nils
def frcLD (l : List D) (k : List D → α) : α := match l with | [] => k [] | x :: l => frc1 x fun x => frcLD l fun l => k (x :: l)
def frcD (d : D) (k : D → α) : α := match d with
  | .agg cs => frcLD cs fun cs => k (.agg cs)
  | .tup cs => frcLD cs fun cs => k (.tup cs)
  | d => frc1 d k
def frcBlk (b : Blk) (k : Blk → α) : α := match b with
  | none => k none
  | some (v, t, s, cs) => frcN v fun v => frcN t fun t => frcN s fun s => frcLD cs fun cs => k (some (v, t, s, cs))
def frcW (l : List (Nat × Blk)) (k : List (Nat × Blk) → α) : α := match l with
  | [] => k []
  | (b, x) :: l => frcN b fun b => frcBlk x fun x => frcW l fun l => k ((b, x) :: l)
theorem frcN_eq (n : Nat) (k : Nat → α) : frcN n k = k n := by cases n <;> rfl
theorem frcI_eq (n : Int) (k : Int → α) : frcI n k = k n := by cases n <;> simp only [frcI, frcN_eq]
theorem frcB_eq (n : Bool) (k : Bool → α) : frcB n k = k n := by cases n <;> rfl
theorem frcL_eq {β : Type} : ∀ (l : List β) (k : List β → α), frcL l k = k l
  | [], _ => rfl
  | x :: l, k => by rw [frcL, frcL_eq l]
theorem frcS_eq (s : ByteArray) (k : ByteArray → α) : frcS s k = k s := by
  obtain ⟨⟨l⟩⟩ := s
  simp only [frcS, frcL_eq]
theorem frc1_eq (d : D) (k : D → α) : frc1 d k = k d := by cases d <;> simp only [frc1, frcB_eq, frcI_eq, frcS_eq, frcN_eq, frcL_eq]
theorem frcLD_eq : ∀ (l : List D) (k : List D → α), frcLD l k = k l
  | [], _ => rfl
  | x :: l, k => by rw [frcLD, frc1_eq, frcLD_eq l]
theorem frcD_eq (d : D) (k : D → α) : frcD d k = k d := by cases d <;> simp only [frcD, frcLD_eq, frc1_eq]
theorem frcBlk_eq (b : Blk) (k : Blk → α) : frcBlk b k = k b := by
  cases b with
  | none => rfl
  | some x => obtain ⟨v, t, s, cs⟩ := x; simp only [frcBlk, frcN_eq, frcLD_eq]
theorem frcW_eq : ∀ (l : List (Nat × Blk)) (k : List (Nat × Blk) → α), frcW l k = k l
  | [], _ => rfl
  | (b, x) :: l, k => by rw [frcW, frcN_eq, frcBlk_eq, frcW_eq l]
end

/-! own rows told for the last time -/
def goE (f : D → Option (D × List Nat)) : List D → Option (List D × List Nat)
  | [] => some ([], [])
  | d :: l => match f d with
    | some p => match goE f l with
      | some q => some (p.1 :: q.1, p.2 ++ q.2)
      | none => none
    | none => none
def resLE (f : D → Option (D × List Nat)) (cs : List D) : Option (List D × List Nat) := if cs.all D.imm then some (cs, []) else goE f cs
def resE (H : Nat → Blk) : Nat → D → Option (D × List Nat)
  | 0, _ => none
  | k + 1, d => match d with
    | .own b ver off n => match H b with
      | some (v, _, sz, cs) => if v = ver ∧ off * sz + n * sz ≤ cs.length then (resLE (resE H k) ((cs.drop (off * sz)).take (n * sz))).map fun p => (.sl n p.1, b :: p.2) else none
      | none => none
    | .ptr b ver off => match H b with
      | some (v, _, _, cs) => if v = ver then (resLE (resE H k) (cs.drop off)).map fun p => (.rp p.1, b :: p.2) else none
      | none => none
    | .nils => some (.sl 0 [], [])
    | .agg cs => (resLE (resE H k) cs).map fun p => (.agg p.1, p.2)
    | .tup cs => (resLE (resE H k) cs).map fun p => (.tup p.1, p.2)
    | d => some (d, [])
theorem goE_eq {H : Nat → Blk} {k : Nat} (h : ∀ d, resE H k d = resD H k d) : ∀ cs, goE (resE H k) cs = resD.go H k cs
  | [] => by rw [goE, go_nil]
  | d :: l => by
    rw [goE, go_cons, h, goE_eq h l]
    cases resD H k d with
    | none => rfl
    | some p => cases resD.go H k l <;> rfl
theorem resLE_eq {H : Nat → Blk} {k : Nat} (h : ∀ d, resE H k d = resD H k d) (cs : List D) : resLE (resE H k) cs = resD.resL H k cs := by
  rw [resLE, resL_eq, goE_eq h]
theorem resE_eq {H : Nat → Blk} : ∀ (k : Nat) (d : D), resE H k d = resD H k d
  | 0, d => by simp [resE, resD]
  | k + 1, d => by
    have h := resLE_eq (resE_eq (H := H) k)
    cases d with
    | own b v o n =>
      simp only [resE, resD, h]
      cases H b <;> rfl
    | ptr b v o =>
      simp only [resE, resD, h]
      cases H b <;> rfl
    | agg cs => simp only [resE, resD, h]
    | tup cs => simp only [resE, resD, h]
    | _ => simp only [resE, resD]
def resArgsE (H : Nat → Blk) (env : Nat → D) : List Opd → Option (List D × List Nat)
  | [] => some ([], [])
  | x :: l => match resE H 6 (getO env x) with
    | some p => match resArgsE H env l with
      | some q => some (p.1 :: q.1, p.2 ++ q.2)
      | none => none
    | none => none
theorem resArgsE_eq {H : Nat → Blk} {env : Nat → D} : ∀ l, resArgsE H env l = resArgs H env l
  | [] => rfl
  | x :: l => by
    rw [resArgsE, resArgs, resE_eq, resArgsE_eq l]
    cases resD H 6 (getO env x) with
    | none => rfl
    | some p => cases resArgs H env l <;> rfl

/-! operations -/
def beqB : List UInt8 → List UInt8 → Bool
  | [], [] => true
  | x :: l, y :: m => Nat.beq x.toNat y.toNat && beqB l m
  | _, _ => false
theorem beqB_eq : ∀ l m, beqB l m = (l == m)
  | [], [] => rfl
  | [], y :: m => rfl
  | x :: l, [] => rfl
  | x :: l, y :: m => by
    rw [beqB, beqB_eq l m, List.cons_beq_cons]
    congr 1
    rw [Bool.eq_iff_iff, Nat.beq_eq, beq_iff_eq]
    exact ⟨fun h => UInt8.toNat_inj.1 h, fun h => by rw [h]⟩
def strBinE (op : BinOp) (x y : ByteArray) : Option D :=
  match op with
  | .add => if ((x.size + y.size : Nat) : Int) > IntKind.i64.max then none else some (.str ⟨⟨x.data.toList ++ y.data.toList⟩⟩)
  | .eql => some (.bool (beqB x.data.toList y.data.toList))
  | .neq => some (.bool !(beqB x.data.toList y.data.toList))
  | .lss => some (.bool (Op.bytesLess x.data.toList y.data.toList))
  | .leq => some (.bool (Op.bytesLess x.data.toList y.data.toList || beqB x.data.toList y.data.toList))
  | .gtr => some (.bool !(Op.bytesLess x.data.toList y.data.toList || beqB x.data.toList y.data.toList))
  | .geq => some (.bool !(Op.bytesLess x.data.toList y.data.toList))
  | _ => none
theorem ba_mk (l : List UInt8) (x : ByteArray) (h : x.data.toList = l) : (⟨⟨l⟩⟩ : ByteArray) = x := by
  subst h; rfl
theorem strBinE_eq (op : BinOp) (x y : ByteArray) : strBinE op x y = strBin op x y := by
  cases op <;> simp only [strBinE, strBin, beqB_eq, ByteArray.toList_eq]
  rw [ba_mk _ (x ++ y) (by simp [ByteArray.data_append])]
def stepE (env : Nat → D) (H : Nat → Blk) (nk : Nat) : IOp → Option Eff
  | .bin op x y => match getO env x, getO env y with
    | .str a, .str b => match strBinE op a b with
      | some d => some (d, [], [])
      | none => none
    | d, d' => match binD op d d' with
      | some d => some (d, [], [])
      | none => none
  | .slcS x lo hi => match getO env x with
    | .str s => match boundO env s.size hi with
      | some h => match boundO env 0 lo with
        | some l => if 0 ≤ l ∧ l ≤ h ∧ h ≤ s.size then some (.str ⟨⟨(s.data.toList.drop l.toNat).take (h.toNat - l.toNat)⟩⟩, [], []) else none
        | none => none
      | none => none
    | _ => none
  | op => stepF env H nk op
theorem stepE_eq (env : Nat → D) (H : Nat → Blk) (nk : Nat) (op : IOp) : stepE env H nk op = stepF env H nk op := by
  cases op <;> try rfl
  case bin op x y =>
    simp only [stepE, stepF]
    split
    · rename_i a b h1 h2
      rw [h1, h2, strBinE_eq]
      simp only [binD]
      cases strBin op a b <;> rfl
    · cases binD op (getO env x) (getO env y) <;> rfl
  case slcS x lo hi =>
    simp only [stepE, stepF]
    cases getO env x <;> try rfl
    rename_i s
    simp only
    cases h2 : boundO env (↑s.size) hi with
    | none => rfl
    | some h =>
      cases h3 : boundO env 0 lo with
      | none => rfl
      | some l =>
        simp only [Option.bind_some]
        split
        · rename_i hc
          rw [ba_mk _ (s.extract l.toNat h.toNat) (by rw [ByteArray.data_extract, Array.toList_extract, List.extract_eq_take_drop])]
        · rfl
def aE (call : FuncId → List D → Option D) (env : Nat → D) (H : Nat → Blk) (nk : Nat) (op : IOp) : Option Eff := match op with
  | .call f args => match resArgsE H env args with
    | some p => match call f p.1 with
      | some r => some (callE (!r.flat) r p.2)
      | none => none
    | none => none
  | op => stepE env H nk op

/-! code -/
structure ES where
  env : List D
  heap : List Blk
def lk (l : List D) (t : Nat) : D := l.getD t (.tup [])
def ES.st (s : ES) : St := ⟨lk s.env, s.heap⟩
def setE (l : List D) (t : Nat) (d : D) : Option (List D) := match l, t with
  | [], _ => none
  | _ :: l, 0 => some (d :: l)
  | x :: l, t + 1 => match setE l t d with
    | some l => some (x :: l)
    | none => none
def ES.eff (s : ES) (dst : Option Nat) (e : Eff) : Option ES := match dst with
  | none => some ⟨s.env, setH s.heap e.2.1⟩
  | some t => match setE s.env t e.1 with
    | some l => some ⟨l, setH s.heap e.2.1⟩
    | none => none
theorem setE_lk : ∀ {l : List D} {t : Nat} {d : D} {l' : List D}, setE l t d = some l' → lk l' = putE (lk l) (some t) d
  | [], t, d, l', h => by simp [setE] at h
  | x :: l, 0, d, l', h => by
    simp only [setE, Option.some.injEq] at h
    subst h
    funext t
    cases t <;> simp [lk, putE]
  | x :: l, t + 1, d, l', h => by
    simp only [setE] at h
    split at h
    · rename_i l1 h1
      cases h
      have := setE_lk h1
      funext t'
      cases t' with
      | zero => simp [lk, putE]
      | succ t' => have := congrFun this t'; simpa [lk, putE] using this
    · cases h
theorem ES.eff_st {s s' : ES} {dst : Option Nat} {e : Eff} (h : s.eff dst e = some s') : s'.st = s.st.eff dst e := by
  unfold ES.eff at h
  split at h
  · cases h
    show St.mk _ _ = St.mk _ _
    rw [putE_none]; rfl
  · split at h
    · rename_i l hl
      cases h
      show St.mk _ _ = St.mk _ _
      rw [setE_lk hl]; rfl
    · cases h
def evOps (call : FuncId → List D → Option D) : List IOper → Tr → ES → Option (Tr × ES)
  | [], tr, s => frcL s.env fun l => frcL s.heap fun h => some (tr, ⟨l, h⟩)
  | o :: l, tr, s => match wantedI (lk s.env) o.guard with
    | some true => match aE call (lk s.env) (hv s.heap) s.heap.length o.op with
      | some (d, ws, rs) => frcD d fun d => frcW ws fun ws => match s.eff o.dst (d, ws, rs) with
        | some s' => evOps call l ((ws.map (·.1), rs) :: tr) s'
        | none => none
      | none => none
    | some false => match s.eff o.dst (.tup [], [], []) with
      | some s' => evOps call l (([], []) :: tr) s'
      | none => none
    | none => none
def iter (f : ES → Option (AEx × ES)) : Nat → ES → Option (AEx × ES)
  | 0, _ => none
  | k + 1, s => match f s with
    | some (.normal, s') => iter f k s'
    | o => o
def ev (call : FuncId → List D → Option D) (N : Nat) : IR → ES → Option (AEx × ES)
  | .skip, s => some (.normal, s)
  | .reg false ops _, s => match evOps call ops [] s with
    | some (_, s) => some (.normal, s)
    | none => none
  | .reg true ops anc, s => match evOps call ops [] s with
    | some (tr, s) => match clear anc tr with
      | true => some (.normal, s)
      | false => none
    | none => none
  | .seq a b, s => match ev call N a s with
    | some (.normal, s') => ev call N b s'
    | o => o
  | .cond c a b, s => match getO (lk s.env) c with
    | .bool t => match t with
      | true => ev call N a s
      | false => ev call N b s
    | _ => none
  | .block id a, s => match ev call N a s with
    | some (.exit i, s') => match Nat.beq i id with
      | true => some (.normal, s')
      | false => some (.exit i, s')
    | o => o
  | .loop a, s => iter (ev call N a) N s
  | .exit id, s => some (.exit id, s)
  | .ret, s => some (.ret, s)

section
variable {P : Program} {G : World → Prop} {call : FuncId → List D → Option D} {N : Nat}
theorem aE_ok (hc : ∀ f xs r, call f xs = some r → PCr P G f xs r) {env : Nat → D} {H : Nat → Blk} {nk : Nat} {op : IOp} {e : Eff} {k : Eff → Prop} (h : aE call env H nk op = some e) (hk : k e) : aOp P G env H nk op k := by
  have gen : ∀ o : Option Eff, o = some e → kO o k := by
    rintro o rfl
    exact hk
  cases op
  case call f args =>
    simp only [aE, resArgsE_eq] at h
    simp only [aOp]
    split at h
    · rename_i p hp
      split at h
      · rename_i r hr
        cases h
        rw [hp]
        refine .inl ⟨r, !r.flat, hc _ _ _ hr, ?_, hk⟩
        cases r.flat <;> simp
      · cases h
    · cases h
  all_goals
    simp only [aE, stepE_eq] at h
    exact gen _ h
theorem evOps_ok (hc : ∀ f xs r, call f xs = some r → PCr P G f xs r) {K : Tr → St → Prop} : ∀ (l : List IOper) (tr tr' : Tr) (s s' : ES), evOps call l tr s = some (tr', s') → K tr' s'.st → awpOps P G K l tr s.st
  | [], tr, tr', s, s', h, hk => by
    simp only [evOps, frcL_eq, Option.some.injEq, Prod.mk.injEq] at h
    obtain ⟨rfl, rfl⟩ := h
    exact hk
  | o :: l, tr, tr', s, s', h, hk => by
    simp only [evOps, frcD_eq, frcW_eq] at h
    show awpOps P G K (o :: l) tr ⟨lk s.env, s.heap⟩
    simp only [awpOps]
    split at h
    · rename_i hw
      split at h
      · rename_i d ws rs he
        split at h
        · rename_i s1 hs
          rw [hw]
          refine aE_ok hc he ?_
          have := evOps_ok hc l _ _ _ _ h hk
          rw [ES.eff_st hs] at this
          exact this
        · cases h
      · cases h
    · rename_i hw
      split at h
      · rename_i s1 hs
        rw [hw]
        have := evOps_ok hc l _ _ _ _ h hk
        rw [ES.eff_st hs] at this
        exact this
      · cases h
    · cases h
theorem ev_ok (hc : ∀ f xs r, call f xs = some r → PCr P G f xs r) : ∀ (ir : IR) (s s' : ES) (e : AEx) (Q : AEx → St → Prop), ev call N ir s = some (e, s') → Q e s'.st → awp P G 0 ir Q s.st
  | .skip, s, s', e, Q, h, hq => by
    simp only [ev, Option.some.injEq, Prod.mk.injEq] at h
    obtain ⟨rfl, rfl⟩ := h
    exact hq
  | .reg false ops anc, s, s', e, Q, h, hq => by
    simp only [ev] at h
    split at h
    · rename_i tr s1 h1
      simp only [Option.some.injEq, Prod.mk.injEq] at h
      obtain ⟨rfl, rfl⟩ := h
      exact awp_reg_i (evOps_ok hc ops [] tr s s1 h1 hq)
    · cases h
  | .reg true ops anc, s, s', e, Q, h, hq => by
    simp only [ev] at h
    split at h
    · rename_i tr s1 h1
      split at h
      · rename_i hcl
        simp only [Option.some.injEq, Prod.mk.injEq] at h
        obtain ⟨rfl, rfl⟩ := h
        exact awp_draw_i (evOps_ok hc ops [] tr s s1 h1 ⟨hcl, hq⟩)
      · cases h
    · cases h
  | .seq a b, s, s', e, Q, h, hq => by
    refine awp_seq_i ?_
    simp only [ev] at h
    split at h
    · rename_i s1 h1
      exact ev_ok hc a s s1 .normal _ h1 (then_normal_i (ev_ok hc b s1 s' e Q h hq))
    · rename_i h1
      refine ev_ok hc a s s' e _ h ?_
      cases e with
      | normal => exact absurd h (h1 s')
      | exit id => exact hq
      | ret => exact hq
  | .cond c a b, s, s', e, Q, h, hq => by
    simp only [ev] at h
    show awp P G 0 (.cond c a b) Q ⟨lk s.env, s.heap⟩
    split at h
    · rename_i t ht
      rw [awp_cond ht]
      split at h
      · exact ev_ok hc a s s' e Q h hq
      · exact ev_ok hc b s s' e Q h hq
    · cases h
  | .block id a, s, s', e, Q, h, hq => by
    refine awp_block_i ?_
    simp only [ev] at h
    split at h
    · rename_i i s1 h1
      refine ev_ok hc a s s1 (.exit i) _ h1 ?_
      rw [inBlock_exit]
      split at h
      · rename_i hb
        simp only [Option.some.injEq, Prod.mk.injEq] at h
        obtain ⟨rfl, rfl⟩ := h
        rw [if_pos (Nat.eq_of_beq_eq_true hb)]
        exact hq
      · rename_i hb
        simp only [Option.some.injEq, Prod.mk.injEq] at h
        obtain ⟨rfl, rfl⟩ := h
        rw [if_neg (Nat.ne_of_beq_eq_false hb)]
        exact hq
    · rename_i h1
      refine ev_ok hc a s s' e _ h ?_
      cases e with
      | normal => exact hq
      | exit i => exact absurd h (h1 i s')
      | ret => exact hq
  | .loop a, s, s', e, Q, h, hq => by
    simp only [ev] at h
    refine awp_loop (fun k σ => ∃ s1, σ = s1.st ∧ iter (ev call N a) k s1 = some (e, s')) N (Ent.refl _) ⟨s, rfl, h⟩ ?_
    rintro k σ1 ⟨s1, rfl, h1⟩
    cases k with
    | zero => simp [iter] at h1
    | succ k =>
      simp only [iter] at h1
      split at h1
      · rename_i s2 h2
        exact ev_ok hc a s1 s2 .normal _ h2 (then_normal_i ⟨k, s2.st, by omega, Ent.refl _, s2, rfl, h1⟩)
      · rename_i h2
        refine ev_ok hc a s1 s' e _ h1 ?_
        cases e with
        | normal => exact absurd h1 (h2 s')
        | exit i => exact hq
        | ret => exact hq
  | .exit id, s, s', e, Q, h, hq => by
    simp only [ev, Option.some.injEq, Prod.mk.injEq] at h
    obtain ⟨rfl, rfl⟩ := h
    exact hq
  | .ret, s, s', e, Q, h, hq => by
    simp only [ev, Option.some.injEq, Prod.mk.injEq] at h
    obtain ⟨rfl, rfl⟩ := h
    exact hq
end

/-! functions -/
inductive FnE where
  | ir (c : IR) (n : Nat) (rv : List RV)
  | lib (g : List D → Option D)
  | no
def ini0 : Nat → List D → List D
  | 0, _ => []
  | n + 1, [] => .tup [] :: ini0 n []
  | n + 1, x :: xs => x :: ini0 n xs
theorem lk_ini0 : ∀ (n : Nat) (xs : List D), xs.length ≤ n → lk (ini0 n xs) = ini xs
  | 0, [], _ => by funext t; simp [lk, ini0, ini]
  | 0, x :: xs, h => by simp at h
  | n + 1, [], _ => by
    have := lk_ini0 n [] (by simp)
    funext t
    cases t with
    | zero => simp [lk, ini0, ini]
    | succ t => have := congrFun this t; simpa [lk, ini0, ini] using this
  | n + 1, x :: xs, h => by
    have := lk_ini0 n xs (by simpa using h)
    funext t
    cases t with
    | zero => simp [lk, ini0, ini]
    | succ t => have := congrFun this t; simpa [lk, ini0, ini] using this
def rvE (H : Nat → Blk) (env : Nat → D) : List RV → Option (List D)
  | [] => some []
  | x :: l => match rvD H env x with
    | some d => match rvE H env l with
      | some l => some (d :: l)
      | none => none
    | none => none
theorem rvE_eq {H : Nat → Blk} {env : Nat → D} : ∀ l, rvE H env l = rvDs H env l
  | [] => rfl
  | x :: l => by
    rw [rvE, rvDs, rvE_eq l]
    cases rvD H env x with
    | none => rfl
    | some d => cases rvDs H env l <;> rfl
def AEx.ends : AEx → Bool
  | .exit _ => false
  | _ => true
def evF (tbl : FuncId → FnE) (N : Nat) : Nat → FuncId → List D → Option D
  | 0, _, _ => none
  | k + 1, f, xs => match tbl f with
    | .ir c n rv => match Nat.ble xs.length n with
      | true => match ev (evF tbl N k) N c ⟨ini0 n xs, []⟩ with
        | some (e, s) => match e.ends with
          | true => match rvE (hv s.heap) (lk s.env) rv with
            | some ds => match resE (hv s.heap) 6 (one? ds) with
              | some (r, _) => frcD r fun r => some r
              | none => none
            | none => none
          | false => none
        | none => none
      | false => none
    | .lib g => g xs
    | .no => none
/-- What the table says is so. -/
def FnE.ok (P : Program) (G : World → Prop) (f : FuncId) : FnE → Prop
  | .ir c n rv => ∃ fn, P.funcs[f]? = some fn ∧ fn.body.bind (comp P) = some c ∧ compRes P fn.results.toList = some rv ∧ fn.results.toList.length ≤ 4 ∧ fn.ntmps = n ∧ dstOk n c = true
  | .lib g => ∀ xs r, g xs = some r → PCr P G f xs r
  | .no => True
section
variable {P : Program} {G : World → Prop} {tbl : FuncId → FnE} {N : Nat}
theorem evF_ok (hG : Stable G) (ht : ∀ f, (tbl f).ok P G f) : ∀ (k : Nat) (f : FuncId) (xs : List D) (r : D), evF tbl N k f xs = some r → PCr P G f xs r
  | 0, f, xs, r, h => by simp [evF] at h
  | k + 1, f, xs, r, h => by
    have h0 := ht f
    simp only [evF] at h
    split at h
    · rename_i c n rv hf
      rw [hf] at h0
      obtain ⟨fn, h1, h2, h3, h4, h5, h6⟩ := h0
      split at h
      · rename_i hle
        split at h
        · rename_i e s hev
          split at h
          · rename_i hend
            split at h
            · rename_i ds hds
              split at h
              · rename_i r' ks hr
                rw [frcD_eq] at h
                cases h
                rw [rvE_eq] at hds
                rw [resE_eq] at hr
                have hle' := Nat.le_of_ble_eq_true hle
                refine pcr_of_awp hG h1 h2 h3 h4 h5 hle' h6 ?_
                have hst : (⟨ini0 n xs, []⟩ : ES).st = st0 xs := by
                  show St.mk _ _ = St.mk _ _
                  rw [lk_ini0 n xs hle']
                rw [← hst]
                refine ev_ok (evF_ok hG ht k) c _ s e _ hev ⟨?_, ks, ?_⟩
                · cases e with
                  | exit id => cases hend
                  | normal => trivial
                  | ret => trivial
                · show ((rvDs (hv s.heap) (lk s.env) rv).bind _) = _
                  rw [hds]; exact hr
              · cases h
            · cases h
          · cases h
        · cases h
      · cases h
    · rename_i g hf
      rw [hf] at h0
      exact h0 xs r h
    · cases h
end
end Go.Proofs.YtapikjmijmebpaaGreatDoorK.AI
