/-
  Joined: Sym, Weak, Inl, Nil, Tac, Walk, WalkB.
-/
import Derived.Test.YtgimaioeifnajaaGreatDoorKAb
set_option linter.all false
set_option maxHeartbeats 4000000
/-
  The abstract interpreter, part 19: an operation as what it asks for and what it then does (stepC); a region so, up to its next call (symOps).
-/
namespace Go.Proofs.YtgimaioeifnajaaGreatDoorK.AI
open Go.RowKit

abbrev CE := Prop × Eff
/-! bit operations under names of their own, so that nothing opens them on the way -/
def andI (k : IntKind) (a b : Int) : Int := k.wrap (BitVec.ofInt k.bits a &&& BitVec.ofInt k.bits b).toNat
def orI (k : IntKind) (a b : Int) : Int := k.wrap (BitVec.ofInt k.bits a ||| BitVec.ofInt k.bits b).toNat
def xorI (k : IntKind) (a b : Int) : Int := k.wrap (BitVec.ofInt k.bits a ^^^ BitVec.ofInt k.bits b).toNat
def andNotI (k : IntKind) (a b : Int) : Int := k.wrap (BitVec.ofInt k.bits a &&& ~~~BitVec.ofInt k.bits b).toNat
def intBinC (op : BinOp) (k : IntKind) (a b : Int) : Option (Prop × D) :=
  match op with
  | .add => some (True, .int k (k.wrap (a + b)))
  | .sub => some (True, .int k (k.wrap (a - b)))
  | .mul => some (True, .int k (k.wrap (a * b)))
  | .quo => some (b ≠ 0, .int k (k.wrap (a.tdiv b)))
  | .rem => some (b ≠ 0, .int k (a.tmod b))
  | .and => some (True, .int k (andI k a b))
  | .or => some (True, .int k (orI k a b))
  | .xor => some (True, .int k (xorI k a b))
  | .andNot => some (True, .int k (andNotI k a b))
  | .eql => some (True, .bool (decide (a = b)))
  | .neq => some (True, .bool (decide (a ≠ b)))
  | .lss => some (True, .bool (decide (a < b)))
  | .leq => some (True, .bool (decide (a ≤ b)))
  | .gtr => some (True, .bool (decide (b < a)))
  | .geq => some (True, .bool (decide (b ≤ a)))
  | .shl => some (0 ≤ b, .int k (k.wrap (a * 2 ^ (min b.toNat k.bits))))
  | .shr => some (0 ≤ b, .int k (a.fdiv (2 ^ (min b.toNat k.bits))))
def binC (op : BinOp) : D → D → Option (Prop × D)
  | .int k a, .int k' b => if op = .shl ∨ op = .shr ∨ k = k' then intBinC op k a b else none
  | .str x, .str y => match op with
    | .add => some (((x.size + y.size : Nat) : Int) ≤ IntKind.i64.max, .str (x ++ y))
    | op => (strBin op x y).map fun d => (True, d)
  | _, _ => none
def pureC (c : Prop) (d : D) : Option CE := some (c, d, [], [])
def loadC (ag : Bool) (sz off : Nat) (cs : List D) (c : Prop) (rs : List Nat) : Option CE :=
  if ag then some (c ∧ off + sz ≤ cs.length, .agg ((cs.drop off).take sz), [], rs) else some (c ∧ off < cs.length, cs.getD off .un, [], rs)
def stepC (env : Nat → D) (H : Nat → Blk) (nk : Nat) : IOp → Option CE
  | .mv x => pureC True (getO env x)
  | .pick c a b => match getO env c with
    | .bool t => pureC True (if t = true then getO env a else getO env b)
    | _ => none
  | .new t sz z => some (True, .ptr nk 0 0, [(nk, some (0, t, sz, z))], [])
  | .box t sz x => some ((getO env x).cells.length = sz ∧ (getO env x).boxable = true, .ptr nk 0 0, [(nk, some (0, t, sz, (getO env x).cells))], [])
  | .build z parts => match fillD env z parts with
    | some cs => pureC True (.agg cs)
    | none => none
  | .lit t sz n z parts => match fillD env z parts with
    | some cs => some (True, .own nk 0 0 n, [(nk, some (0, t, sz, cs))], [])
    | none => none
  | .load ag sz x => match getO env x with
    | .ptr b ver off => match H b with
      | some (v, _, _, cs) => loadC ag sz off cs (v = ver) [b]
      | none => none
    | .rp cs => loadC ag sz 0 cs True []
    | _ => none
  | .store sz x y => match getO env x with
    | .ptr b ver off => match H b with
      | some (v, t, s, cs) => some (v = ver ∧ (getO env y).cells.length = sz ∧ off + sz ≤ cs.length ∧ (getO env y).cells.all D.one = true, .un, [(b, some (v, t, s, putD cs off (getO env y).cells))], [b])
      | none => none
    | _ => none
  | .faddr off x => match getO env x with
    | .ptr b ver o => pureC True (.ptr b ver (o + off))
    | .rp cs => pureC True (.rp (cs.drop off))
    | _ => none
  | .fld ag off sz x => match getO env x with
    | .agg cs => loadC ag sz off cs True []
    | _ => none
  | .iaddrS sz x i => match getO env x, getO env i with
    | .own b ver off n, .int _ k => match H b with
      | some (v, _, s, _) => some (v = ver ∧ s = sz ∧ 0 ≤ k ∧ k < n, .ptr b ver ((off + k.toNat) * sz), [], [b])
      | none => none
    | .sl n cs, .int _ k => pureC (0 ≤ k ∧ k < n ∧ k.toNat * sz < cs.length) (.rp ((cs.drop (k.toNat * sz)).take sz))
    | _, _ => none
  | .iaddrA len sz x i => match getO env x, getO env i with
    | .ptr b ver off, .int _ k => pureC (0 ≤ k ∧ k < len) (.ptr b ver (off + k.toNat * sz))
    | .rp cs, .int _ k => pureC (0 ≤ k ∧ k < len) (.rp (cs.drop (k.toNat * sz)))
    | _, _ => none
  | .idxs x i => match getO env x, getO env i with
    | .str s, .int _ k => pureC (0 ≤ k ∧ k < s.size) (.int .u8 (bt s k.toNat))
    | _, _ => none
  | .bin op x y => match binC op (getO env x) (getO env y) with
    | some (c, d) => pureC c d
    | none => none
  | .beq ne x y => match getO env x, getO env y with
    | .bool a, .bool b => pureC True (.bool (if ne then !(a == b) else a == b))
    | _, _ => none
  | .neg x => match getO env x with
    | .int k n => pureC True (.int k (k.wrap (0 - n)))
    | _ => none
  | .not x => match getO env x with
    | .bool b => pureC True (.bool !b)
    | _ => none
  | .conv k x => match getO env x with
    | .int _ n => pureC True (.int k (k.wrap n))
    | _ => none
  | .slcS x lo hi => match getO env x with
    | .str s => match boundO env s.size hi, boundO env 0 lo with
      | some h, some l => pureC (0 ≤ l ∧ l ≤ h ∧ h ≤ s.size) (.str (s.extract l.toNat h.toNat))
      | _, _ => none
    | _ => none
  | .slcL sz x lo hi => match getO env x with
    | .own b ver off n => match H b with
      | some (v, _, s, _) => match boundO env n hi, boundO env 0 lo with
        | some h, some l => some ((v = ver ∧ s = sz) ∧ 0 ≤ l ∧ l ≤ h ∧ h ≤ n, .own b ver (off + l.toNat) (h - l).toNat, [], [b])
        | _, _ => none
      | none => none
    | .sl n cs => match boundO env n hi, boundO env 0 lo with
      | some h, some l => pureC (0 ≤ l ∧ l ≤ h ∧ h ≤ n) (.sl (h - l).toNat ((cs.drop (l.toNat * sz)).take ((h - l).toNat * sz)))
      | _, _ => none
    | .nils => match boundO env 0 hi, boundO env 0 lo with
      | some h, some l => pureC (l = 0 ∧ h = 0) .nils
      | _, _ => none
    | _ => none
  | .make t sz bytes z n => match getO env n with
    | .int .i64 k => some (0 ≤ k ∧ k ≤ 4611686018427387904 ∧ k.toNat * bytes ≤ 281474976710656, .own nk 0 0 k.toNat, [(nk, some (0, t, sz, repD z k.toNat))], [])
    | _ => none
  | .app t sz bytes s x => match rowD H sz (getO env x) with
    | some (m, ds, rs) => match getO env s with
      | .nils => some (m ≤ 4611686018427387904 ∧ m * bytes ≤ 140737488355328 ∧ ds.all D.one = true, .own nk 0 0 m, [(nk, some (0, t, sz, ds))], rs)
      | .own b ver 0 n => match H b with
        | some (v, t', s', cs) => some (v = ver ∧ t' = t ∧ s' = sz ∧ cs.length = n * sz ∧ n + m ≤ 4611686018427387904 ∧ (n + m) * bytes ≤ 140737488355328 ∧ ds.all D.one = true ∧ rs.all (· != b) = true, .own b (ver + 1) 0 (n + m), [(b, some (ver + 1, t, sz, cs ++ ds))], b :: rs)
        | none => none
      | _ => none
    | none => none
  | .lenS x => match getO env x with
    | .str s => pureC True (.int .i64 s.size)
    | _ => none
  | .appZ t sz bytes s x => match getO env s, getO env x with
    | .nils, .int _ k => some (0 < k ∧ k ≤ 4611686018427387904 ∧ k.toNat * bytes ≤ 281474976710656, .own nk 0 0 k.toNat, [(nk, some (0, t, sz, []))], [])
    | _, _ => none
  | .seq os ne x y => match getO env x, getO env y with
    | .agg l, .agg m => match eqAt os l m with
      | some r => pureC True (.bool (if ne then !r else r))
      | none => none
    | _, _ => none
  | .capL x => match getO env x with
    | .nils => pureC True (.int .i64 0)
    | _ => none
  | .lenL x => match getO env x with
    | .sl n _ => pureC True (.int .i64 n)
    | .own _ _ _ n => pureC True (.int .i64 n)
    | .nils => pureC True (.int .i64 0)
    | _ => none
  | .mx x y => match getO env x, getO env y with
    | .int k a, .int _ b => pureC True (.int k (if b > a then b else a))
    | _, _ => none
  | .mn x y => match getO env x, getO env y with
    | .int k a, .int _ b => pureC True (.int k (if b < a then b else a))
    | _, _ => none
  | .ext x i => match getO env x with
    | .tup vs => pureC (i < vs.length) (vs.getD i .un)
    | _ => none
  | .nilck x => match getO env x with
    | .ptr b ver o => pureC True (.ptr b ver o)
    | .rp cs => pureC True (.rp cs)
    | _ => none
  | .bstr x => match rowD H 1 (getO env x) with
    | some (_, ds, rs) => match byD ds with
      | some l => some (True, .str ⟨⟨l⟩⟩, [], rs)
      | none => none
    | none => none
  | .idxA len sz ag x i => match getO env x, getO env i with
    | .agg cs, .int _ k => loadC ag sz (k.toNat * sz) cs (0 ≤ k ∧ k < len) []
    | _, _ => none
  | .slcA n sz x => match getO env x with
    | .ptr b ver off => match H b with
      | some (v, _, _, cs) => some (v = ver ∧ off + n * sz ≤ cs.length ∧ ((cs.drop off).take (n * sz)).all D.frozen = true, .sl n ((cs.drop off).take (n * sz)), [(b, none)], [b])
      | none => none
    | .rp cs => pureC (n * sz ≤ cs.length) (.sl n (cs.take (n * sz)))
    | _ => none
  | .aeq n ne x y => match getO env x, getO env y with
    | .agg l, .agg m => match eqInts l m with
      | some r => pureC (l.length = n) (.bool (if ne then !r else r))
      | none => none
    | _, _ => none
  | .isnil ne k x => match nilD k (getO env x) with
    | some r => pureC True (.bool (if ne then !r else r))
    | none => none
  | .mkmap t => some (True, .mo nk 0, [(nk, some (0, t, 0, [.mp []]))], [])
  | .look kn ok z x k => match getO env x with
    | .mo b ver => match H b with
      | some (v, _, _, [.mp kvs]) => match lookD (getO env k) kvs with
        | some r => some (v = ver ∧ (getO env k).key kn = true, foundD ok z r, [], [b])
        | none => none
      | _ => none
    | .mf kvs => match lookD (getO env k) kvs with
      | some r => pureC ((getO env k).key kn = true) (foundD ok z r)
      | none => none
    | .nilm => pureC ((getO env k).key kn = true) (foundD ok z none)
    | _ => none
  | .mput kn x k y => match getO env x with
    | .mo b ver => match H b with
      | some (v, t, s, [.mp kvs]) => match putM (getO env k) (getO env y) kvs with
        | some kvs => some (v = ver ∧ (getO env k).key kn = true ∧ (getO env y).boxable = true, .un, [(b, some (v, t, s, [.mp kvs]))], [b])
        | none => none
      | _ => none
    | _ => none
  | .mkfn f cs => pureC True (.fn f (cs.map (getO env)))
  | .call .. => none
  | .dcall .. => none

section
variable {env : Nat → D} {H : Nat → Blk} {nk : Nat}
theorem st_mv {x : Opd} : stepC env H nk (.mv x) = (pureC True (getO env x)) := of_eq rfl
theorem st_pick {c : Opd} {a : Opd} {b : Opd} : stepC env H nk (.pick c a b) = (match getO env c with
    | .bool t => pureC True (if t = true then getO env a else getO env b)
    | _ => none) := of_eq rfl
theorem st_new {t : Nat} {sz : Nat} {z : List D} : stepC env H nk (.new t sz z) = (some (True, .ptr nk 0 0, [(nk, some (0, t, sz, z))], [])) := of_eq rfl
theorem st_box {t : Nat} {sz : Nat} {x : Opd} : stepC env H nk (.box t sz x) = (some ((getO env x).cells.length = sz ∧ (getO env x).boxable = true, .ptr nk 0 0, [(nk, some (0, t, sz, (getO env x).cells))], [])) := of_eq rfl
theorem st_build {z : List D} {parts : List (Nat × Nat × Opd)} : stepC env H nk (.build z parts) = (match fillD env z parts with
    | some cs => pureC True (.agg cs)
    | none => none) := of_eq rfl
theorem st_lit {t : Nat} {sz : Nat} {n : Nat} {z : List D} {parts : List (Nat × Nat × Opd)} : stepC env H nk (.lit t sz n z parts) = (match fillD env z parts with
    | some cs => some (True, .own nk 0 0 n, [(nk, some (0, t, sz, cs))], [])
    | none => none) := of_eq rfl
theorem st_load {ag : Bool} {sz : Nat} {x : Opd} : stepC env H nk (.load ag sz x) = (match getO env x with
    | .ptr b ver off => match H b with
      | some (v, _, _, cs) => loadC ag sz off cs (v = ver) [b]
      | none => none
    | .rp cs => loadC ag sz 0 cs True []
    | _ => none) := of_eq rfl
theorem st_store {sz : Nat} {x : Opd} {y : Opd} : stepC env H nk (.store sz x y) = (match getO env x with
    | .ptr b ver off => match H b with
      | some (v, t, s, cs) => some (v = ver ∧ (getO env y).cells.length = sz ∧ off + sz ≤ cs.length ∧ (getO env y).cells.all D.one = true, .un, [(b, some (v, t, s, putD cs off (getO env y).cells))], [b])
      | none => none
    | _ => none) := of_eq rfl
theorem st_faddr {off : Nat} {x : Opd} : stepC env H nk (.faddr off x) = (match getO env x with
    | .ptr b ver o => pureC True (.ptr b ver (o + off))
    | .rp cs => pureC True (.rp (cs.drop off))
    | _ => none) := of_eq rfl
theorem st_fld {ag : Bool} {off : Nat} {sz : Nat} {x : Opd} : stepC env H nk (.fld ag off sz x) = (match getO env x with
    | .agg cs => loadC ag sz off cs True []
    | _ => none) := of_eq rfl
theorem st_iaddrS {sz : Nat} {x : Opd} {i : Opd} : stepC env H nk (.iaddrS sz x i) = (match getO env x, getO env i with
    | .own b ver off n, .int _ k => match H b with
      | some (v, _, s, _) => some (v = ver ∧ s = sz ∧ 0 ≤ k ∧ k < n, .ptr b ver ((off + k.toNat) * sz), [], [b])
      | none => none
    | .sl n cs, .int _ k => pureC (0 ≤ k ∧ k < n ∧ k.toNat * sz < cs.length) (.rp ((cs.drop (k.toNat * sz)).take sz))
    | _, _ => none) := of_eq rfl
theorem st_iaddrA {len : Nat} {sz : Nat} {x : Opd} {i : Opd} : stepC env H nk (.iaddrA len sz x i) = (match getO env x, getO env i with
    | .ptr b ver off, .int _ k => pureC (0 ≤ k ∧ k < len) (.ptr b ver (off + k.toNat * sz))
    | .rp cs, .int _ k => pureC (0 ≤ k ∧ k < len) (.rp (cs.drop (k.toNat * sz)))
    | _, _ => none) := of_eq rfl
theorem st_idxs {x : Opd} {i : Opd} : stepC env H nk (.idxs x i) = (match getO env x, getO env i with
    | .str s, .int _ k => pureC (0 ≤ k ∧ k < s.size) (.int .u8 (bt s k.toNat))
    | _, _ => none) := of_eq rfl
theorem st_bin {op : BinOp} {x : Opd} {y : Opd} : stepC env H nk (.bin op x y) = (match binC op (getO env x) (getO env y) with
    | some (c, d) => pureC c d
    | none => none) := of_eq rfl
theorem st_beq {ne : Bool} {x : Opd} {y : Opd} : stepC env H nk (.beq ne x y) = (match getO env x, getO env y with
    | .bool a, .bool b => pureC True (.bool (if ne then !(a == b) else a == b))
    | _, _ => none) := of_eq rfl
theorem st_neg {x : Opd} : stepC env H nk (.neg x) = (match getO env x with
    | .int k n => pureC True (.int k (k.wrap (0 - n)))
    | _ => none) := of_eq rfl
theorem st_not {x : Opd} : stepC env H nk (.not x) = (match getO env x with
    | .bool b => pureC True (.bool !b)
    | _ => none) := of_eq rfl
theorem st_conv {k : IntKind} {x : Opd} : stepC env H nk (.conv k x) = (match getO env x with
    | .int _ n => pureC True (.int k (k.wrap n))
    | _ => none) := of_eq rfl
theorem st_slcS {x : Opd} {lo : Option Opd} {hi : Option Opd} : stepC env H nk (.slcS x lo hi) = (match getO env x with
    | .str s => match boundO env s.size hi, boundO env 0 lo with
      | some h, some l => pureC (0 ≤ l ∧ l ≤ h ∧ h ≤ s.size) (.str (s.extract l.toNat h.toNat))
      | _, _ => none
    | _ => none) := of_eq rfl
theorem st_slcL {sz : Nat} {x : Opd} {lo : Option Opd} {hi : Option Opd} : stepC env H nk (.slcL sz x lo hi) = (match getO env x with
    | .own b ver off n => match H b with
      | some (v, _, s, _) => match boundO env n hi, boundO env 0 lo with
        | some h, some l => some ((v = ver ∧ s = sz) ∧ 0 ≤ l ∧ l ≤ h ∧ h ≤ n, .own b ver (off + l.toNat) (h - l).toNat, [], [b])
        | _, _ => none
      | none => none
    | .sl n cs => match boundO env n hi, boundO env 0 lo with
      | some h, some l => pureC (0 ≤ l ∧ l ≤ h ∧ h ≤ n) (.sl (h - l).toNat ((cs.drop (l.toNat * sz)).take ((h - l).toNat * sz)))
      | _, _ => none
    | .nils => match boundO env 0 hi, boundO env 0 lo with
      | some h, some l => pureC (l = 0 ∧ h = 0) .nils
      | _, _ => none
    | _ => none) := of_eq rfl
theorem st_make {t : Nat} {sz : Nat} {bytes : Nat} {z : List D} {n : Opd} : stepC env H nk (.make t sz bytes z n) = (match getO env n with
    | .int .i64 k => some (0 ≤ k ∧ k ≤ 4611686018427387904 ∧ k.toNat * bytes ≤ 281474976710656, .own nk 0 0 k.toNat, [(nk, some (0, t, sz, repD z k.toNat))], [])
    | _ => none) := of_eq rfl
theorem st_app {t : Nat} {sz : Nat} {bytes : Nat} {s : Opd} {x : Opd} : stepC env H nk (.app t sz bytes s x) = (match rowD H sz (getO env x) with
    | some (m, ds, rs) => match getO env s with
      | .nils => some (m ≤ 4611686018427387904 ∧ m * bytes ≤ 140737488355328 ∧ ds.all D.one = true, .own nk 0 0 m, [(nk, some (0, t, sz, ds))], rs)
      | .own b ver 0 n => match H b with
        | some (v, t', s', cs) => some (v = ver ∧ t' = t ∧ s' = sz ∧ cs.length = n * sz ∧ n + m ≤ 4611686018427387904 ∧ (n + m) * bytes ≤ 140737488355328 ∧ ds.all D.one = true ∧ rs.all (· != b) = true, .own b (ver + 1) 0 (n + m), [(b, some (ver + 1, t, sz, cs ++ ds))], b :: rs)
        | none => none
      | _ => none
    | none => none) := of_eq rfl
theorem st_lenS {x : Opd} : stepC env H nk (.lenS x) = (match getO env x with
    | .str s => pureC True (.int .i64 s.size)
    | _ => none) := of_eq rfl
theorem st_appZ {t sz bytes : Nat} {s x : Opd} : stepC env H nk (.appZ t sz bytes s x) = (match getO env s, getO env x with
    | .nils, .int _ k => some (0 < k ∧ k ≤ 4611686018427387904 ∧ k.toNat * bytes ≤ 281474976710656, .own nk 0 0 k.toNat, [(nk, some (0, t, sz, []))], [])
    | _, _ => none) := of_eq rfl
theorem st_seq {os : List (Nat × Nat)} {ne : Bool} {x y : Opd} : stepC env H nk (.seq os ne x y) = (match getO env x, getO env y with
    | .agg l, .agg m => match eqAt os l m with
      | some r => pureC True (.bool (if ne then !r else r))
      | none => none
    | _, _ => none) := of_eq rfl
theorem st_capL {x : Opd} : stepC env H nk (.capL x) = (match getO env x with
    | .nils => pureC True (.int .i64 0)
    | _ => none) := of_eq rfl
theorem st_lenL {x : Opd} : stepC env H nk (.lenL x) = (match getO env x with
    | .sl n _ => pureC True (.int .i64 n)
    | .own _ _ _ n => pureC True (.int .i64 n)
    | .nils => pureC True (.int .i64 0)
    | _ => none) := of_eq rfl
theorem st_mx {x : Opd} {y : Opd} : stepC env H nk (.mx x y) = (match getO env x, getO env y with
    | .int k a, .int _ b => pureC True (.int k (if b > a then b else a))
    | _, _ => none) := of_eq rfl
theorem st_mn {x : Opd} {y : Opd} : stepC env H nk (.mn x y) = (match getO env x, getO env y with
    | .int k a, .int _ b => pureC True (.int k (if b < a then b else a))
    | _, _ => none) := of_eq rfl
theorem st_ext {x : Opd} {i : Nat} : stepC env H nk (.ext x i) = (match getO env x with
    | .tup vs => pureC (i < vs.length) (vs.getD i .un)
    | _ => none) := of_eq rfl
theorem st_nilck {x : Opd} : stepC env H nk (.nilck x) = (match getO env x with
    | .ptr b ver o => pureC True (.ptr b ver o)
    | .rp cs => pureC True (.rp cs)
    | _ => none) := of_eq rfl
theorem st_bstr {x : Opd} : stepC env H nk (.bstr x) = (match rowD H 1 (getO env x) with
    | some (_, ds, rs) => match byD ds with
      | some l => some (True, .str ⟨⟨l⟩⟩, [], rs)
      | none => none
    | none => none) := of_eq rfl
theorem st_idxA {len : Nat} {sz : Nat} {ag : Bool} {x : Opd} {i : Opd} : stepC env H nk (.idxA len sz ag x i) = (match getO env x, getO env i with
    | .agg cs, .int _ k => loadC ag sz (k.toNat * sz) cs (0 ≤ k ∧ k < len) []
    | _, _ => none) := of_eq rfl
theorem st_slcA {n : Nat} {sz : Nat} {x : Opd} : stepC env H nk (.slcA n sz x) = (match getO env x with
    | .ptr b ver off => match H b with
      | some (v, _, _, cs) => some (v = ver ∧ off + n * sz ≤ cs.length ∧ ((cs.drop off).take (n * sz)).all D.frozen = true, .sl n ((cs.drop off).take (n * sz)), [(b, none)], [b])
      | none => none
    | .rp cs => pureC (n * sz ≤ cs.length) (.sl n (cs.take (n * sz)))
    | _ => none) := of_eq rfl
theorem st_aeq {n : Nat} {ne : Bool} {x : Opd} {y : Opd} : stepC env H nk (.aeq n ne x y) = (match getO env x, getO env y with
    | .agg l, .agg m => match eqInts l m with
      | some r => pureC (l.length = n) (.bool (if ne then !r else r))
      | none => none
    | _, _ => none) := of_eq rfl
theorem st_isnil {ne : Bool} {k : Nat} {x : Opd} : stepC env H nk (.isnil ne k x) = (match nilD k (getO env x) with
    | some r => pureC True (.bool (if ne then !r else r))
    | none => none) := of_eq rfl
theorem st_mkmap {t : TypeId} : stepC env H nk (.mkmap t) = (some (True, .mo nk 0, [(nk, some (0, t, 0, [.mp []]))], [])) := of_eq rfl
theorem st_look {kn : Option Nat} {ok : Bool} {z : D} {x : Opd} {k : Opd} : stepC env H nk (.look kn ok z x k) = (match getO env x with
    | .mo b ver => match H b with
      | some (v, _, _, [.mp kvs]) => match lookD (getO env k) kvs with
        | some r => some (v = ver ∧ (getO env k).key kn = true, foundD ok z r, [], [b])
        | none => none
      | _ => none
    | .mf kvs => match lookD (getO env k) kvs with
      | some r => pureC ((getO env k).key kn = true) (foundD ok z r)
      | none => none
    | .nilm => pureC ((getO env k).key kn = true) (foundD ok z none)
    | _ => none) := of_eq rfl
theorem st_mput {kn : Option Nat} {x : Opd} {k : Opd} {y : Opd} : stepC env H nk (.mput kn x k y) = (match getO env x with
    | .mo b ver => match H b with
      | some (v, t, s, [.mp kvs]) => match putM (getO env k) (getO env y) kvs with
        | some kvs => some (v = ver ∧ (getO env k).key kn = true ∧ (getO env y).boxable = true, .un, [(b, some (v, t, s, [.mp kvs]))], [b])
        | none => none
      | _ => none
    | _ => none) := of_eq rfl
theorem st_mkfn {f : FuncId} {cs : List Opd} : stepC env H nk (.mkfn f cs) = (pureC True (.fn f (cs.map (getO env)))) := of_eq rfl
theorem getD_some' {cs : List D} {i : Nat} (h : i < cs.length) : cs[i]? = some (cs.getD i .un) := by
  rw [List.getD_eq_getElem?_getD, List.getElem?_eq_getElem h]; rfl
theorem binC_ok {op : BinOp} {x y d : D} {c : Prop} (h : binC op x y = some (c, d)) (hc : c) : binD op x y = some d := by
  cases x <;> cases y <;> simp only [binC] at h <;> try (cases h; done)
  · split at h
    · rename_i hk
      simp only [binD]
      cases op <;> simp only [intBinC, Option.some.injEq, Prod.mk.injEq] at h <;> obtain ⟨rfl, rfl⟩ := h <;> simp [shiftBin, intBin, andI, orI, xorI, andNotI, hc] at hk ⊢ <;> try (first | exact hk | (intro h; omega) | (exact ⟨hk, hc⟩))
      all_goals first
        | (subst hk; simp; done)
        | (simp [hk]; done)
        | exact ⟨hk, by rw [Bool.eq_iff_iff]; simp⟩
    · cases h
  · split at h
    · simp only [Option.some.injEq, Prod.mk.injEq] at h
      obtain ⟨rfl, rfl⟩ := h
      simp only [binD, strBin]
      rw [if_neg (by omega)]
    · obtain ⟨d', hd, he⟩ := Option.map_eq_some_iff.1 h
      cases he
      exact hd
theorem loadC_ok {ag : Bool} {sz off : Nat} {cs : List D} {c c' : Prop} {rs : List Nat} {e : Eff} (h : loadC ag sz off cs c rs = some (c', e)) (hc : c') : c ∧ (if ag then (if off + sz ≤ cs.length then some (D.agg ((cs.drop off).take sz), ([] : List (Nat × Blk)), rs) else none) else (cs[off]?).map fun d => (d, [], rs)) = some e := by
  unfold loadC at h
  cases ag
  · simp only [Bool.false_eq_true, if_false, Option.some.injEq, Prod.mk.injEq] at h
    obtain ⟨rfl, rfl⟩ := h
    refine ⟨hc.1, ?_⟩
    simp only [Bool.false_eq_true, if_false, getD_some' hc.2, Option.map_some]
  · simp only [if_true, Option.some.injEq, Prod.mk.injEq] at h
    obtain ⟨rfl, rfl⟩ := h
    refine ⟨hc.1, ?_⟩
    rw [if_pos rfl, if_pos hc.2]
theorem pureC_ok {c c' : Prop} {d : D} {e : Eff} (h : pureC c d = some (c', e)) : c' = c ∧ e = (d, [], []) := by
  simp only [pureC, Option.some.injEq, Prod.mk.injEq] at h
  obtain ⟨rfl, rfl⟩ := h
  exact ⟨rfl, rfl⟩
theorem stepC_ok {op : IOp} {c : Prop} {e : Eff} (h : stepC env H nk op = some (c, e)) (hc : c) : stepF env H nk op = some e := by
  cases op <;> simp only [stepC] at h <;> simp only [stepF]
  case mv => obtain ⟨rfl, rfl⟩ := pureC_ok h; rfl
  case pick =>
    split at h
    · rename_i hd
      obtain ⟨rfl, rfl⟩ := pureC_ok h
      rw [hd]
    · cases h
  case new => cases h; rfl
  case box => cases h; rw [if_pos hc]
  case build =>
    split at h
    · rename_i hd
      obtain ⟨rfl, rfl⟩ := pureC_ok h
      rw [hd]; rfl
    · cases h
  case lit =>
    split at h
    · rename_i hd
      cases h
      rw [hd]; rfl
    · cases h
  case load =>
    split at h
    · rename_i hd
      rw [hd]
      split at h
      · rename_i hb
        obtain ⟨h1, h2⟩ := loadC_ok h hc
        simp only [hb, if_pos h1]
        exact h2
      · cases h
    · rename_i hd
      rw [hd]
      obtain ⟨h1, h2⟩ := loadC_ok h hc
      simpa using h2
    · cases h
  case store =>
    split at h
    · rename_i hd
      rw [hd]
      split at h
      · rename_i hb
        cases h
        simp only [hb, if_pos hc]
      · cases h
    · cases h
  case faddr =>
    split at h
    · rename_i hd; obtain ⟨rfl, rfl⟩ := pureC_ok h; rw [hd]
    · rename_i hd; obtain ⟨rfl, rfl⟩ := pureC_ok h; rw [hd]
    · cases h
  case fld =>
    split at h
    · rename_i hd
      rw [hd]
      exact (loadC_ok h hc).2
    · cases h
  case iaddrS =>
    split at h
    · rename_i hd he
      rw [hd, he]
      split at h
      · rename_i hb
        cases h
        simp only [hb, if_pos hc]
      · cases h
    · rename_i hd he
      obtain ⟨rfl, rfl⟩ := pureC_ok h
      rw [hd, he]
      simp only [if_pos hc]
    · cases h
  case iaddrA =>
    split at h
    · rename_i hd he
      obtain ⟨rfl, rfl⟩ := pureC_ok h
      rw [hd, he]
      simp only [if_pos hc]
    · rename_i hd he
      obtain ⟨rfl, rfl⟩ := pureC_ok h
      rw [hd, he]
      simp only [if_pos hc]
    · cases h
  case idxs =>
    split at h
    · rename_i hd he
      obtain ⟨rfl, rfl⟩ := pureC_ok h
      rw [hd, he]
      simp only [if_pos hc]
    · cases h
  case bin =>
    split at h
    · rename_i hd
      obtain ⟨rfl, rfl⟩ := pureC_ok h
      rw [binC_ok hd hc]; rfl
    · cases h
  case beq =>
    split at h
    · rename_i hd he
      obtain ⟨rfl, rfl⟩ := pureC_ok h
      rw [hd, he]
    · cases h
  case neg =>
    split at h
    · rename_i hd; obtain ⟨rfl, rfl⟩ := pureC_ok h; rw [hd]
    · cases h
  case not =>
    split at h
    · rename_i hd; obtain ⟨rfl, rfl⟩ := pureC_ok h; rw [hd]
    · cases h
  case conv =>
    split at h
    · rename_i hd; obtain ⟨rfl, rfl⟩ := pureC_ok h; rw [hd]
    · cases h
  case slcS =>
    split at h
    · rename_i hd
      split at h
      · rename_i hh hl
        obtain ⟨rfl, rfl⟩ := pureC_ok h
        rw [hd]
        simp only [hh, hl, Option.bind_some, if_pos hc]
      · cases h
    · cases h
  case slcL =>
    split at h
    · rename_i hd
      rw [hd]
      split at h
      · rename_i hb
        split at h
        · rename_i hh hl
          cases h
          simp only [hb, if_pos hc.1, hh, hl, Option.bind_some, if_pos hc.2]
        · cases h
      · cases h
    · rename_i hd
      rw [hd]
      split at h
      · rename_i hh hl
        obtain ⟨rfl, rfl⟩ := pureC_ok h
        simp only [hh, hl, Option.bind_some, if_pos hc]
      · cases h
    · rename_i hd
      rw [hd]
      split at h
      · rename_i hh hl
        obtain ⟨rfl, rfl⟩ := pureC_ok h
        simp only [hh, hl, Option.bind_some, if_pos hc]
      · cases h
    · cases h
  case make =>
    split at h
    · rename_i hd
      cases h
      rw [hd]
      simp only [if_pos hc]
    · cases h
  case app =>
    split at h
    · rename_i hr
      rw [hr]
      split at h
      · rename_i hd
        cases h
        rw [hd]
        simp only [if_pos hc]
      · rename_i hd
        rw [hd]
        split at h
        · rename_i hb
          cases h
          simp only [hb, if_pos hc]
        · cases h
      · cases h
    · cases h
  case lenS =>
    split at h
    · rename_i hd; obtain ⟨rfl, rfl⟩ := pureC_ok h; rw [hd]
    · cases h
  case appZ =>
    split at h
    · rename_i hd he
      cases h
      rw [hd, he]
      simp only [if_pos hc]
    · cases h
  case seq =>
    split at h
    · rename_i hd he
      rw [hd, he]
      split at h
      · rename_i hq
        obtain ⟨rfl, rfl⟩ := pureC_ok h
        simp only [hq, Option.map_some]
      · cases h
    · cases h
  case capL =>
    split at h
    · rename_i hd; obtain ⟨rfl, rfl⟩ := pureC_ok h; rw [hd]
    · cases h
  case lenL =>
    split at h
    · rename_i hd; obtain ⟨rfl, rfl⟩ := pureC_ok h; rw [hd]
    · rename_i hd; obtain ⟨rfl, rfl⟩ := pureC_ok h; rw [hd]
    · rename_i hd; obtain ⟨rfl, rfl⟩ := pureC_ok h; rw [hd]
    · cases h
  case mx =>
    split at h
    · rename_i hd he
      obtain ⟨rfl, rfl⟩ := pureC_ok h
      rw [hd, he]
    · cases h
  case mn =>
    split at h
    · rename_i hd he
      obtain ⟨rfl, rfl⟩ := pureC_ok h
      rw [hd, he]
    · cases h
  case ext =>
    split at h
    · rename_i hd
      obtain ⟨rfl, rfl⟩ := pureC_ok h
      rw [hd]
      simp only [getD_some' hc, Option.map_some]
    · cases h
  case nilck =>
    split at h
    · rename_i hd; obtain ⟨rfl, rfl⟩ := pureC_ok h; rw [hd]
    · rename_i hd; obtain ⟨rfl, rfl⟩ := pureC_ok h; rw [hd]
    · cases h
  case bstr =>
    split at h
    · rename_i hr
      rw [hr]
      split at h
      · rename_i hl
        cases h
        simp only [hl]
      · cases h
    · cases h
  case idxA =>
    split at h
    · rename_i hd he
      rw [hd, he]
      obtain ⟨h1, h2⟩ := loadC_ok h hc
      simp only [if_pos h1]
      exact h2
    · cases h
  case slcA =>
    split at h
    · rename_i hd
      rw [hd]
      split at h
      · rename_i hb
        cases h
        simp only [hb, if_pos hc]
      · cases h
    · rename_i hd
      obtain ⟨rfl, rfl⟩ := pureC_ok h
      rw [hd]
      simp only [if_pos hc]
    · cases h
  case aeq =>
    split at h
    · rename_i hd he
      rw [hd, he]
      split at h
      · rename_i hq
        obtain ⟨rfl, rfl⟩ := pureC_ok h
        simp only [if_pos hc, hq, Option.map_some]
      · cases h
    · cases h
  case isnil =>
    split at h
    · rename_i hd; obtain ⟨rfl, rfl⟩ := pureC_ok h; rw [hd]; rfl
    · cases h
  case mkmap => cases h; rfl
  case look =>
    split at h
    · rename_i hd
      split at h
      · rename_i hb
        split at h
        · rename_i hq
          cases h
          rw [if_pos hc.2, hd]
          simp only [hb, if_pos hc.1, hq, Option.map_some]
        · cases h
      · cases h
    · rename_i hd
      split at h
      · rename_i hq
        obtain ⟨rfl, rfl⟩ := pureC_ok h
        rw [if_pos hc, hd]
        simp only [hq, Option.map_some]
      · cases h
    · rename_i hd
      obtain ⟨rfl, rfl⟩ := pureC_ok h
      rw [if_pos hc, hd]
    · cases h
  case mput =>
    split at h
    · rename_i hd
      rw [hd]
      split at h
      · rename_i hb
        split at h
        · rename_i hq
          cases h
          simp only [hb, if_pos hc, hq, Option.map_some]
        · cases h
      · cases h
    · cases h
  case mkfn => obtain ⟨rfl, rfl⟩ := pureC_ok h; rfl
  case call => cases h
  case dcall => cases h

/-! a region, up to its next call -/
def gd (env : Nat → D) : Option (Option Nat × Bool) → Option Bool
  | none => some true
  | some (some t, w) => match env t with
    | .bool b => some (b == w)
    | .tup _ => some false
    | _ => none
  | some (none, _) => some false
structure Ran where
  c : Prop
  tr : Tr
  env : Nat → D
  h : List Blk
  rest : List IOper
def symOps : List IOper → Prop → Tr → (Nat → D) → List Blk → Option Ran
  | [], c, tr, env, h => some ⟨c, tr, env, h, []⟩
  | o :: l, c, tr, env, h =>
    match gd env o.guard with
    | some true => if o.op.isCall = true then some ⟨c, tr, env, h, o :: l⟩ else match stepC env (hv h) h.length o.op with
      | some (c', d, ws, rs) => symOps l (c ∧ c') ((ws.map (·.1), rs) :: tr) (putE env o.dst d) (setH h ws)
      | none => none
    | some false => symOps l c (([], []) :: tr) (putE env o.dst (.tup [])) h
    | none => none
end
section
variable {P : Program} {G : World → Prop} {Q : AEx → St → Prop} {K : Tr → St → Prop} {env env' : Nat → D} {h h' : List Blk} {tr tr' : Tr} {l rest : List IOper}
theorem gd_wanted (g : Option (Option Nat × Bool)) : gd env g = wantedI env g := by
  cases g with
  | none => rfl
  | some p =>
    obtain ⟨t, w⟩ := p
    cases t with
    | none => rfl
    | some t => rfl
theorem ops_sym0 : ∀ (l : List IOper) (c0 c : Prop) (tr tr' : Tr) (env env' : Nat → D) (h h' : List Blk) (rest : List IOper), symOps l c0 tr env h = some ⟨c, tr', env', h', rest⟩ → c → awpOps P G K rest tr' ⟨env', h'⟩ → c0 ∧ awpOps P G K l tr ⟨env, h⟩
  | [], c0, c, tr, tr', env, env', h, h', rest, hs, hc, hk => by cases hs; exact ⟨hc, hk⟩
  | o :: l, c0, c, tr, tr', env, env', h, h', rest, hs, hc, hk => by
    simp only [symOps] at hs
    split at hs
    · rename_i hg
      split at hs
      · cases hs; exact ⟨hc, hk⟩
      · rename_i hcall
        split at hs
        · rename_i c' d ws rs hst
          obtain ⟨⟨h1, h2⟩, h3⟩ := ops_sym0 l _ _ _ _ _ _ _ _ _ hs hc hk
          refine ⟨h1, ?_⟩
          rw [gd_wanted] at hg
          simp only [awpOps, hg]
          have hst2 := stepC_ok hst h2
          generalize o.op = op at *
          cases op <;> first | (simp [IOp.isCall] at hcall; done) | (simp only [aOp, hst2]; exact h3)
        · cases hs
    · rename_i hg
      obtain ⟨h1, h3⟩ := ops_sym0 l _ _ _ _ _ _ _ _ _ hs hc hk
      refine ⟨h1, ?_⟩
      rw [gd_wanted] at hg
      simp only [awpOps, hg]
      exact h3
    · cases hs
theorem sym_nil {c : Prop} : symOps [] c tr env h = some ⟨c, tr, env, h, []⟩ := of_eq rfl
def symG (g : Option Bool) (call : Bool) (s : Option CE) (o : IOper) (l : List IOper) (c : Prop) (tr : Tr) (env : Nat → D) (h : List Blk) : Option Ran :=
  match g with
  | some true => if call = true then some ⟨c, tr, env, h, o :: l⟩ else match s with
    | some (c', d, ws, rs) => symOps l (c ∧ c') ((ws.map (·.1), rs) :: tr) (putE env o.dst d) (setH h ws)
    | none => none
  | some false => symOps l c (([], []) :: tr) (putE env o.dst (.tup [])) h
  | none => none
theorem sym_cons {dst : Option Nat} {op : IOp} {g : Option (Option Nat × Bool)} {c : Prop} : symOps (⟨dst, op, g⟩ :: l) c tr env h = symG (gd env g) op.isCall (stepC env (hv h) h.length op) ⟨dst, op, g⟩ l c tr env h := of_eq rfl
theorem symG_call {s : Option CE} {o : IOper} {c : Prop} : symG (some true) true s o l c tr env h = some ⟨c, tr, env, h, o :: l⟩ := of_eq rfl
theorem symG_op {dst : Option Nat} {op : IOp} {g : Option (Option Nat × Bool)} {c c' : Prop} {d : D} {ws : List (Nat × Blk)} {rs : List Nat} : symG (some true) false (some (c', d, ws, rs)) ⟨dst, op, g⟩ l c tr env h = symOps l (c ∧ c') ((ws.map (·.1), rs) :: tr) (putE env dst d) (setH h ws) := of_eq rfl
theorem symG_skip {call : Bool} {s : Option CE} {dst : Option Nat} {op : IOp} {g : Option (Option Nat × Bool)} {c : Prop} : symG (some false) call s ⟨dst, op, g⟩ l c tr env h = symOps l c (([], []) :: tr) (putE env dst (.tup [])) h := of_eq rfl
theorem ops_sym {c : Prop} (hs : symOps l True tr env h = some ⟨c, tr', env', h', rest⟩) (hc : c) (hk : awpOps P G K rest tr' ⟨env', h'⟩) : awpOps P G K l tr ⟨env, h⟩ := (ops_sym0 l _ _ _ _ _ _ _ _ _ hs hc hk).2
theorem ops_call {dst : Option Nat} {f : FuncId} {args : List Opd} {xs : List D} {ks : List Nat} {r : D} (hx : resArgs (hv h) env args = some (xs, ks)) (hp : PCr P G f xs r) (hk : awpOps P G K l ((ks, ks) :: tr) ⟨putE env dst r, setH h (ks.map fun b => (b, none))⟩) : awpOps P G K (⟨dst, .call f args, none⟩ :: l) tr ⟨env, h⟩ := by
  simp only [awpOps, wantedI, aOp, aCall, hx]
  refine .inl ⟨r, true, hp, .inl rfl, ?_⟩
  simp only [callE, if_true, List.map_map, Function.comp_def, List.map_id']
  exact hk
theorem ops_callf {dst : Option Nat} {f : FuncId} {args : List Opd} {xs : List D} {ks : List Nat} {r : D} (hx : resArgs (hv h) env args = some (xs, ks)) (hp : PCr P G f xs r) (hf : r.flat = true) (hk : awpOps P G K l (([], ks) :: tr) ⟨putE env dst r, h⟩) : awpOps P G K (⟨dst, .call f args, none⟩ :: l) tr ⟨env, h⟩ := by
  simp only [awpOps, wantedI, aOp, aCall, hx]
  exact .inl ⟨r, false, hp, .inr hf, hk⟩
theorem ops_callg {dst : Option Nat} {f : FuncId} {args : List Opd} {xs : List D} {ks : List Nat} {r : D} {t : Nat} {b w : Bool} (hb : env t = .bool b) (hw : b = w) (hx : resArgs (hv h) env args = some (xs, ks)) (hp : PCr P G f xs r) (hk : awpOps P G K l ((ks, ks) :: tr) ⟨putE env dst r, setH h (ks.map fun b => (b, none))⟩) : awpOps P G K (⟨dst, .call f args, some (some t, w)⟩ :: l) tr ⟨env, h⟩ := by
  subst hw
  rw [ops_guard hb, if_pos rfl]
  simp only [aOp, aCall, hx]
  refine .inl ⟨r, true, hp, .inl rfl, ?_⟩
  simp only [callE, if_true, List.map_map, Function.comp_def, List.map_id']
  exact hk
theorem ops_callgf {dst : Option Nat} {f : FuncId} {args : List Opd} {xs : List D} {ks : List Nat} {r : D} {t : Nat} {b w : Bool} (hb : env t = .bool b) (hw : b = w) (hx : resArgs (hv h) env args = some (xs, ks)) (hp : PCr P G f xs r) (hf : r.flat = true) (hk : awpOps P G K l (([], ks) :: tr) ⟨putE env dst r, h⟩) : awpOps P G K (⟨dst, .call f args, some (some t, w)⟩ :: l) tr ⟨env, h⟩ := by
  subst hw
  rw [ops_guard hb, if_pos rfl]
  simp only [aOp, aCall, hx]
  exact .inl ⟨r, false, hp, .inr hf, hk⟩
theorem ops_dcall {dst : Option Nat} {f : FuncId} {x : Opd} {args : List Opd} {cs : List D} {g : Option (Option Nat × Bool)} (hx : getO env x = .fn f cs) (hf : okF P f = true) (hk : awpOps P G K (⟨dst, .call f (args ++ cs.map .c), g⟩ :: l) tr ⟨env, h⟩) : awpOps P G K (⟨dst, .dcall x args, g⟩ :: l) tr ⟨env, h⟩ := by
  simp only [awpOps] at hk ⊢
  split
  · rename_i hw
    rw [hw] at hk
    exact ⟨f, cs, hx, hf, hk⟩
  · rename_i hw
    rw [hw] at hk
    exact hk
  · rename_i hw
    rw [hw] at hk
    exact hk
theorem ops_skip {dst : Option Nat} {op : IOp} {t : Nat} {b w : Bool} (hb : env t = .bool b) (hw : b ≠ w) (hk : awpOps P G K l (([], []) :: tr) ⟨putE env dst (.tup []), h⟩) : awpOps P G K (⟨dst, op, some (some t, w)⟩ :: l) tr ⟨env, h⟩ := by
  rw [ops_guard hb, if_neg hw]
  exact hk
theorem ops_skipt {dst : Option Nat} {op : IOp} {t : Nat} {ds : List D} {w : Bool} (hb : env t = .tup ds) (hk : awpOps P G K l (([], []) :: tr) ⟨putE env dst (.tup []), h⟩) : awpOps P G K (⟨dst, op, some (some t, w)⟩ :: l) tr ⟨env, h⟩ := by
  rw [ops_tup hb]
  exact hk
end
end Go.Proofs.YtgimaioeifnajaaGreatDoorK.AI
/-
  The abstract interpreter, part 20: telling less: of slots, of blocks; letting the last blocks go.
-/
namespace Go.Proofs.YtgimaioeifnajaaGreatDoorK.AI
open Go.RowKit

section
variable {P : Program} {R R' : Nat → Nat → Bnd} {S : Nat → Prop} {base : Nat → Prop} {w : World} {H H' : Nat → Blk}
theorem AOf.less (hle : ∀ b, H' b = none ∨ H' b = H b) {g : Nat} (h : AOf S R H' g) : AOf S R H g := by
  rcases h with h | ⟨b, ver, t, sz, cs, cap, sz', hb, hR⟩
  · exact .inl h
  · rcases hle b with e | e
    · rw [e] at hb; cases hb
    · exact .inr ⟨b, ver, t, sz, cs, cap, sz', e ▸ hb, hR⟩
theorem HRel.less (hr : HRel R S base w H) (hle : ∀ b, H' b = none ∨ H' b = H b) : HRel R S base w H' where
  blk := fun b => by
    have hb := hr.blk b
    rcases hle b with e | e
    · rw [e]; exact trivial
    · rw [e]
      cases hH : H b with
      | none => exact trivial
      | some x =>
        obtain ⟨v, t, s, cs⟩ := x
        rw [hH] at hb
        rcases hb with h | ⟨g, cap, vs, h1, h2, h3, h4, h5, h6, h7⟩ | ⟨g, es, c, kvs, h1, h2, h3, h4, h5, h6, h7⟩
        · exact .inl h
        · exact .inr (.inl ⟨g, cap, vs, h1, h2, h3, h4, h5, h6, fun j d hj => (h7 j d hj).mono (fun _ _ _ => rfl) (fun g _ hg => ⟨fun h => hg (h.less hle), Same.refl _ g⟩)⟩)
        · exact .inr (.inr ⟨g, es, c, kvs, h1, h2, h3, h4, h5, h6, fun j d hj => (h7 j d hj).mono (fun _ _ _ => rfl) (fun g _ hg => ⟨fun h => hg (h.less hle), Same.refl _ g⟩)⟩)
  vers := fun b ver t sz cs h => by
    rcases hle b with e | e
    · rw [e] at h; cases h
    · exact hr.vers b ver t sz cs (e ▸ h)
  inj := fun b b' ver ver' t t' sz sz' cs cs' g cap cap' s s' h h' => by
    rcases hle b with e | e
    · rw [e] at h; cases h
    · rcases hle b' with e' | e'
      · rw [e'] at h'; cases h'
      · exact hr.inj b b' ver ver' t t' sz sz' cs cs' g cap cap' s s' (e ▸ h) (e' ▸ h')
  ext := hr.ext
  bnd := hr.bnd
def LessH : List Blk → List Blk → Prop
  | [], [] => True
  | x :: l, y :: m => (y = none ∨ y = x) ∧ LessH l m
  | _, _ => False
theorem lessH_get : ∀ {l m : List Blk}, LessH l m → m.length = l.length ∧ ∀ b, hv m b = none ∨ hv m b = hv l b
  | [], [], _ => ⟨rfl, fun _ => .inl rfl⟩
  | x :: l, y :: m, h => by
    obtain ⟨h1, h2⟩ := lessH_get h.2
    refine ⟨by simp [h1], fun b => ?_⟩
    cases b with
    | zero => exact h.1
    | succ b => exact h2 b
  | [], _ :: _, h => h.elim
  | _ :: _, [], h => h.elim
theorem lessH_refl : ∀ l : List Blk, LessH l l
  | [] => trivial
  | _ :: l => ⟨.inr rfl, lessH_refl l⟩
theorem Ent.st {env env' : Nat → D} {h h' : List Blk} (he : Less env env') (hh : LessH h h') : Ent ⟨env, h⟩ ⟨env', h'⟩ := fun n G R S w0 w a hlm hm hf => by
  obtain ⟨hl, hg⟩ := lessH_get hh
  have hA : ∀ g, g < w.heap.size → ¬ AOf S R (hv h) g → ¬ AOf S R (hv h') g ∧ Same w w g := fun g _ hn => ⟨fun h => hn (h.less hg), Same.refl _ g⟩
  refine ⟨R, ⟨hm.hrel.less hg, ⟨hm.srel.nod, hm.srel.len, fun t => ?_⟩, hm.below, hm.kin, hm.g, hm.gk, hm.r0m, hm.keepR⟩, fun b v hb => hf b v (by show h.length ≤ b; rw [← hl]; exact hb)⟩
  show Rep _ _ _ _ (env' t)
  rcases he t with e | e
  · rw [e]; exact .imm (.un _)
  · rw [e]; exact (hm.srel.rep t).mono (fun _ _ _ => rfl) hA

/-! letting the last blocks go -/
theorem Rep.keys {k : Nat} {A A' : Nat → Prop} {v : Value} {d : D} (h : Rep R A w v d) (hk : kb k d) (hR : ∀ b v, b < k → R' b v = R b v) (hA : ∀ g, A' g → A g) : Rep R' A' w v d := by
  induction h with
  | imm h => exact .imm (h.weak hA)
  | agg vs cs hl _ ih => exact .agg vs cs hl fun j d hj => ih j d hj (kbs_get (by simpa [kb] using hk) j d hj)
  | tup vs cs hl _ ih => exact .tup vs cs hl fun j d hj => ih j d hj (kbs_get (by simpa [kb] using hk) j d hj)
  | fn f vs cs hl _ ih => exact .fn f vs cs hl fun j d hj => ih j d hj (kbs_get (by simpa [kb] using hk) j d hj)
  | mo b ver g hR0 => exact .mo b ver g ((hR b ver (by simpa [kb] using hk)).trans hR0)
  | own b ver off n g cap sz o hR0 h0 ho hn => exact .own b ver off n g cap sz o ((hR b ver (by simpa [kb] using hk)).trans hR0) h0 ho hn
  | ownn b ver hR0 => exact .ownn b ver ((hR b ver (by simpa [kb] using hk)).trans hR0)
  | ptr b ver off g cap sz hR0 h0 => exact .ptr b ver off g cap sz ((hR b ver (by simpa [kb] using hk)).trans hR0) h0
theorem Ent.cut {env : Nat → D} {h l : List Blk} (he : ∀ t, kb h.length (env t)) (hh : kbH h.length h) : Ent ⟨env, h ++ l⟩ ⟨env, h⟩ := fun n G R S w0 w a hlm hm hf => by
  have hle : ∀ b, hv h b = none ∨ hv h b = hv (h ++ l) b := fun b => by
    by_cases hb : b < h.length
    · right
      unfold hv
      rw [List.getD_eq_getElem?_getD, List.getD_eq_getElem?_getD, List.getElem?_append_left hb]
    · exact .inl (hv_ge (by omega))
  have hr := hm.hrel.less hle
  let R' : Nat → Nat → Bnd := fun b v => if b < h.length then R b v else .no
  have hR : ∀ b v, b < h.length → R' b v = R b v := fun b v hb => if_pos hb
  have hAle : ∀ g, AOf S R' (hv h) g → AOf S R (hv h) g := fun g hg => by
    rcases hg with hg | ⟨b, ver, t, sz, cs, cap, sz', hb, hRb⟩
    · exact .inl hg
    · refine .inr ⟨b, ver, t, sz, cs, cap, sz', hb, ?_⟩
      by_cases hbl : b < h.length
      · rw [← hR b ver hbl]; exact hRb
      · rw [hv_ge (by omega)] at hb; cases hb
  have key : ∀ b ver t sz cs, hv h b = some (ver, t, sz, cs) → b < h.length := fun b ver t sz cs hb => by
    rcases Nat.lt_or_ge b h.length with h1 | h1
    · exact h1
    · rw [hv_ge h1] at hb; cases hb
  refine ⟨R', ⟨⟨fun b => ?_, fun b ver t sz cs hb v' hv' => ?_, fun b b' ver ver' t t' sz sz' cs cs' g cap cap' s s' hb hb' h1 h2 => ?_, hm.hrel.ext, fun b ver g cap sz h1 => ?_⟩, ⟨hm.srel.nod, hm.srel.len, fun t => ?_⟩, hm.below, hm.kin, hm.g, hm.gk, hm.r0m, fun b ver hb => ?_⟩, fun b v hb => if_neg (by exact Nat.not_lt.2 hb)⟩
  · show BlkRel R' _ _ _ _ (hv h b)
    have hb := hr.blk b
    cases hH : hv h b with
    | none => exact trivial
    | some x =>
      obtain ⟨ver, t, sz, cs⟩ := x
      rw [hH] at hb
      have hbl := key _ _ _ _ _ hH
      rcases hb with h1 | ⟨g, cap, vs, h1, h2, h3, h4, h5, h6, h7⟩ | ⟨g, es, c, kvs, h1, h2, h3, h4, rfl, h6, h7⟩
      · exact .inl ⟨(hR b ver hbl).trans h1.1, h1.2⟩
      · exact .inr (.inl ⟨g, cap, vs, (hR b ver hbl).trans h1, h2, h3, h4, h5, h6, fun j d hj => (h7 j d hj).keys (kbs_get (kbH_get hh _ _ _ _ _ hH) j d hj) hR hAle⟩)
      · have hkk := kbH_get hh _ _ _ _ _ hH
        simp only [kb.kbs, kb] at hkk
        exact .inr (.inr ⟨g, es, c, kvs, (hR b ver hbl).trans h1, h2, h3, h4, rfl, h6, fun j d hj => (h7 j d hj).keys (kbs_get hkk.1 j d hj) hR hAle⟩)
  · rw [hR b v' (key _ _ _ _ _ hb)]
    exact hr.vers b ver t sz cs hb v' hv'
  · rw [hR b ver (key _ _ _ _ _ hb)] at h1
    rw [hR b' ver' (key _ _ _ _ _ hb')] at h2
    exact hr.inj b b' ver ver' t t' sz sz' cs cs' g cap cap' s s' hb hb' h1 h2
  · by_cases hbl : b < h.length
    · rw [hR b ver hbl] at h1; exact hm.hrel.bnd b ver g cap sz h1
    · have : R' b ver = .no := if_neg hbl
      rw [this] at h1; cases h1
  · exact ((hm.srel.rep t).mono (fun _ _ _ => rfl) (fun g _ hg => ⟨fun h => hg (h.less hle), Same.refl _ g⟩)).keys (he t) hR hAle
  · have hbl : b < h.length := by
      rcases Nat.lt_or_ge b w0.m with h1 | h1
      · exact Nat.lt_of_lt_of_le h1 hlm
      · exact absurd (hm.r0m b ver h1) hb
    exact (hR b ver hbl).trans (hm.keepR b ver hb)
theorem Ent.trans {σ σ' σ'' : St} (h : Ent σ σ') (hl : σ''.heap.length ≤ σ'.heap.length) (h' : Ent σ' σ'') : Ent σ σ'' := fun n G R S w0 w a hlm hm hf => by
  obtain ⟨R1, hm1, hf1⟩ := h n G R S w0 w a (Nat.le_trans hlm hl) hm hf
  exact h' n G R1 S w0 w a hlm hm1 hf1
theorem hv_app1 (h : List Blk) (x : Blk) : hv (h ++ [x]) = updB (hv h) h.length x := by
  funext c
  unfold hv updB
  simp only [List.getD_eq_getElem?_getD, List.getElem?_append]
  by_cases e : c = h.length
  · subst e; simp
  · rw [if_neg e]
    split
    · rfl
    · rename_i hc
      rw [List.getElem?_eq_none (by simp; omega), List.getElem?_eq_none (by omega)]
theorem Ent.nils {env : Nat → D} {h : List Blk} {s : Nat} (t sz : Nat) (hs : env s = .nils) : Ent ⟨env, h⟩ ⟨putE env (some s) (.own h.length 0 0 0), h ++ [some (0, t, sz, [])]⟩ := fun n G R S w0 w a hlm hm hf => by
  have hR : ∀ b v, R b v ≠ .no → bindR R h.length 0 .nil b v = R b v := fun b v hb => bindR_other (hf _ _ (Nat.le_refl _)) hb
  obtain ⟨h1, h2⟩ := hrel_upd (w' := w) (R' := bindR R h.length 0 .nil) (b0 := h.length) (ver := 0) (t := t) (sz := sz) (cs := []) hm.hrel hR (fun b hb => bindR_key hb)
    (fun v' hv' => by unfold bindR; rw [if_neg (by omega)]; exact hf _ _ (Nat.le_refl _))
    (fun v g cap s hb => by
      unfold bindR at hb
      split at hb
      · cases hb
      · have e : R h.length v = .no := hf _ _ (Nat.le_refl _)
        rw [e] at hb; cases hb)
    (.inl ⟨bindR_same, rfl⟩) (Nat.le_refl _) (fun _ _ _ => rfl)
  rw [← hv_app1] at h1 h2
  refine ⟨_, ⟨h1, ⟨hm.srel.nod, hm.srel.len, fun t' => ?_⟩, hm.below, hm.kin, hm.g, hm.gk, hm.r0m, fun b ver hb => (hR b ver (by rw [hm.keepR b ver hb]; exact hb)).trans (hm.keepR b ver hb)⟩, fun b v hb => ?_⟩
  · show Rep _ _ _ _ (putE env (some s) (.own h.length 0 0 0) t')
    unfold putE
    split
    · rename_i e
      cases e
      have := hm.srel.rep s
      rw [show (⟨env, h⟩ : St).env s = .nils from hs] at this
      rw [this.nils_inv]
      exact .ownn _ _ bindR_same
    · exact (hm.srel.rep t').mono hR h2
  · have hb' : h.length + 1 ≤ b := by simpa using hb
    unfold bindR
    rw [if_neg (by omega)]
    exact hf b v (by show h.length ≤ b; omega)
theorem lessH_app : ∀ {h0 h l : List Blk}, LessH h0 h → LessH (h0 ++ l) (h ++ l)
  | [], [], l, _ => lessH_refl l
  | x :: h0, y :: h, l, hl => ⟨hl.1, lessH_app hl.2⟩
  | [], _ :: _, _, h => h.elim
  | _ :: _, [], _, h => h.elim
theorem Ent.cutst {env env' : Nat → D} {h0 h l : List Blk} (he : Less env env') (hh : LessH h0 h) (hk : ∀ t, kb h.length (env' t)) (hb : kbH h.length h) : Ent ⟨env, h0 ++ l⟩ ⟨env', h⟩ :=
  (Ent.st he (lessH_app hh)).trans (by simp) (Ent.cut hk hb)
theorem Ent.cutk (k : Nat) {env env' : Nat → D} {h1 h : List Blk} (he : Less env env') (hh : LessH (h1.take k) h) (hk : ∀ t, kb h.length (env' t)) (hb : kbH h.length h) : Ent ⟨env, h1⟩ ⟨env', h⟩ := by
  have := Ent.cutst (l := h1.drop k) he hh hk hb
  rwa [List.take_append_drop] at this
theorem kb_un0 (k t : Nat) : kb k (un0 t) := trivial
theorem kb_put {k : Nat} {env : Nat → D} {s : Nat} {d : D} (h : ∀ t, kb k (env t)) (hd : kb k d) (t : Nat) : kb k (putE env (some s) d t) := by
  unfold putE
  split
  · exact hd
  · exact h t
end
end Go.Proofs.YtgimaioeifnajaaGreatDoorK.AI
/-
  The abstract interpreter, part 22: a function that is handed own blocks: its contract, by its code.
-/
namespace Go.Proofs.YtgimaioeifnajaaGreatDoorK.AI
open Go.RowKit

section
variable {P : Program} {G : World → Prop} {R : Nat → Nat → Bnd} {S : Nat → Prop} {base : Nat → Prop} {w : World}
theorem HRel.cut {h l : List Blk} (hr0 : HRel R S base w (hv (h ++ l))) (hh : kbH h.length h) : ∃ R' : Nat → Nat → Bnd, HRel R' S base w (hv h) ∧ (∀ b v, b < h.length → R' b v = R b v) ∧ (∀ b v, h.length ≤ b → R' b v = .no) ∧ ∀ g, AOf S R' (hv h) g → AOf S R (hv (h ++ l)) g := by
  have hle : ∀ b, hv h b = none ∨ hv h b = hv (h ++ l) b := fun b => by
    by_cases hb : b < h.length
    · right
      unfold hv
      rw [List.getD_eq_getElem?_getD, List.getD_eq_getElem?_getD, List.getElem?_append_left hb]
    · exact .inl (hv_ge (by omega))
  have hr := hr0.less hle
  let R' : Nat → Nat → Bnd := fun b v => if b < h.length then R b v else .no
  have hR : ∀ b v, b < h.length → R' b v = R b v := fun b v hb => if_pos hb
  have hAle : ∀ g, AOf S R' (hv h) g → AOf S R (hv h) g := fun g hg => by
    rcases hg with hg | ⟨b, ver, t, sz, cs, cap, sz', hb, hRb⟩
    · exact .inl hg
    · refine .inr ⟨b, ver, t, sz, cs, cap, sz', hb, ?_⟩
      by_cases hbl : b < h.length
      · rw [← hR b ver hbl]; exact hRb
      · rw [hv_ge (by omega)] at hb; cases hb
  have key : ∀ b ver t sz cs, hv h b = some (ver, t, sz, cs) → b < h.length := fun b ver t sz cs hb => by
    rcases Nat.lt_or_ge b h.length with h1 | h1
    · exact h1
    · rw [hv_ge h1] at hb; cases hb
  refine ⟨R', ⟨fun b => ?_, fun b ver t sz cs hb v' hv' => ?_, fun b b' ver ver' t t' sz sz' cs cs' g cap cap' s s' hb hb' h1 h2 => ?_, hr.ext, fun b ver g cap sz h1 => ?_⟩, hR, fun b v hb => if_neg (by exact Nat.not_lt.2 hb), fun g hg => (hAle g hg).less hle⟩
  · show BlkRel R' _ _ _ _ (hv h b)
    have hb := hr.blk b
    cases hH : hv h b with
    | none => exact trivial
    | some x =>
      obtain ⟨ver, t, sz, cs⟩ := x
      rw [hH] at hb
      have hbl := key _ _ _ _ _ hH
      rcases hb with h1 | ⟨g, cap, vs, h1, h2, h3, h4, h5, h6, h7⟩ | ⟨g, es, c, kvs, h1, h2, h3, h4, rfl, h6, h7⟩
      · exact .inl ⟨(hR b ver hbl).trans h1.1, h1.2⟩
      · exact .inr (.inl ⟨g, cap, vs, (hR b ver hbl).trans h1, h2, h3, h4, h5, h6, fun j d hj => (h7 j d hj).keys (kbs_get (kbH_get hh _ _ _ _ _ hH) j d hj) hR hAle⟩)
      · have hkk := kbH_get hh _ _ _ _ _ hH
        simp only [kb.kbs, kb] at hkk
        exact .inr (.inr ⟨g, es, c, kvs, (hR b ver hbl).trans h1, h2, h3, h4, rfl, h6, fun j d hj => (h7 j d hj).keys (kbs_get hkk.1 j d hj) hR hAle⟩)
  · rw [hR b v' (key _ _ _ _ _ hb)]
    exact hr.vers b ver t sz cs hb v' hv'
  · rw [hR b ver (key _ _ _ _ _ hb)] at h1
    rw [hR b' ver' (key _ _ _ _ _ hb')] at h2
    exact hr.inj b b' ver ver' t t' sz sz' cs cs' g cap cap' s s' hb hb' h1 h2
  · by_cases hbl : b < h.length
    · rw [hR b ver hbl] at h1; exact hr.bnd b ver g cap sz h1
    · have : R' b ver = .no := if_neg hbl
      rw [this] at h1; cases h1
def ResG (rv : List RV) (r : D) (h' : List Blk) (e : AEx) (σ : St) : Prop := (match e with | .exit _ => False | _ => True) ∧ ∃ l ds, σ.heap = h' ++ l ∧ rvDs (hv σ.heap) σ.env rv = some ds ∧ one? ds = r ∧ kb h'.length r ∧ kbH h'.length h'
theorem pcg_by {f : FuncId} {fn : Func} {ir : IR} {rv : List RV} {xs : List D} {rr : D} {h h' : List Blk} {n : Nat} (hf : P.funcs[f]? = some fn) (hc : fn.body.bind (comp P) = some ir) (hr : compRes P fn.results.toList = some rv) (h4 : fn.results.toList.length ≤ 4) (hn : fn.ntmps = n) (hx : xs.length ≤ n) (hd : dstOk n ir = true)
    (hl : h.length ≤ h'.length) (hw : ∀ r hh, r = rr → hh = h' → awp P G h.length ir (ResG rv r hh) ⟨ini xs, h⟩) : PCg P G f xs h rr h' := by
  subst hn
  obtain ⟨c, hb, hc⟩ := Option.bind_eq_some_iff.1 hc
  intro R S K w vs hrel hK hG hfr hsz hvs
  refine calls_of_wp hf hb (wp_mono (awp_sound (G := G) (S := S) (w0 := ⟨w, K, h.length, R⟩) c ir (ResG rv rr h') ⟨ini xs, h⟩ _ w hc hd (hw _ _ rfl rfl)
    ⟨Nat.le_refl _, R, ⟨hrel, ⟨rfl, ?_, fun t => ?_⟩, BelowK.refl _ _, hK, hG w (BelowK.refl _ _), hG, hfr, fun _ _ _ => rfl⟩, hfr⟩) ?_)
  · simp [hsz]; omega
  · show Rep _ _ _ ((vs ++ Array.replicate (fn.ntmps - vs.size) undef).getD t undef) (xs.getD t (D.tup []))
    rw [Array.getD_eq_getD_getElem?, List.getD_eq_getElem?_getD, Array.getElem?_append, hsz]
    split
    · rename_i ht
      have h1 := hvs t xs[t] (List.getElem?_eq_getElem ht)
      rw [List.getElem?_eq_getElem ht]
      rw [Array.getD_eq_getD_getElem?] at h1
      exact h1
    · rename_i ht
      rw [List.getElem?_eq_none (by omega), Array.getElem?_replicate]
      split
      · exact rep_undef
      · exact rep_undef
  · rintro e a w' ⟨ae, σ, rfl, ⟨hae, l, ds, hσ, hds, hone, hkr, hkh⟩, hml, R1, hm, hfr1⟩
    obtain ⟨vs', hl', hruns, hreps⟩ := runs_rvs hm.hrel hm.srel _ _ _ hr hds
    have hrun := run_results (fn := fn) _ _ (by simp) h4 hruns
    have hrep := rep_one? hl' hreps
    rw [hone] at hrep
    have hrel1 := hm.hrel
    rw [hσ] at hrel1 hrep
    obtain ⟨R', p1, p2, p3, p4⟩ := hrel1.cut hkh
    have hend : a.defers = [] ∧ ∃ v, (results fn a.tmps).run P w' = .ok v w' ∧ ∃ u R', Ending.returned v = .returned u ∧ HRel R' S K w' (hv h') ∧ Rep R' (AOf S R' (hv h')) w' u rr ∧ (∀ b ver, R b ver ≠ .no → R' b ver = R b ver) ∧ (∀ b v, h'.length ≤ b → R' b v = .no) ∧ BelowK K w w' := by
      refine ⟨hm.srel.nod, _, hrun, _, R', rfl, p1, hrep.keys hkr p2 p4, fun b ver hb => ?_, p3, hm.below⟩
      have hbl : b < h'.length := by
        rcases Nat.lt_or_ge b h.length with h1 | h1
        · omega
        · exact absurd (hfr b ver h1) hb
      rw [p2 b ver hbl]
      exact hm.keepR b ver hb
    cases ae with
    | normal => exact hend
    | exit id => exact hae.elim
    | ret => exact hend
theorem resg_ret {rv : List RV} {r : D} {h' l : List Blk} {env : Nat → D} {ds : List D} (hr : rvDs (hv (h' ++ l)) env rv = some ds) (e : one? ds = r) (hk : kb h'.length r) (hh : kbH h'.length h') : ResG rv r h' .ret ⟨env, h' ++ l⟩ := ⟨trivial, l, ds, rfl, hr, e, hk, hh⟩
theorem resg_end {rv : List RV} {r : D} {h' l : List Blk} {env : Nat → D} {ds : List D} (hr : rvDs (hv (h' ++ l)) env rv = some ds) (e : one? ds = r) (hk : kb h'.length r) (hh : kbH h'.length h') : ResG rv r h' .normal ⟨env, h' ++ l⟩ := ⟨trivial, l, ds, rfl, hr, e, hk, hh⟩
def immH : List Blk → Bool
  | [] => true
  | none :: l => immH l
  | some (_, _, _, cs) :: l => cs.all D.imm && immH l
theorem ren_imm {κ : List Nat} {d : D} (h : d.imm = true) : d.ren κ = d := by cases d <;> simp [D.imm] at h <;> rfl
theorem map_imm {κ : List Nat} : ∀ {l : List D}, l.all D.imm = true → l.map (D.ren κ) = l
  | [], _ => rfl
  | x :: l, h => by
    simp only [List.all_cons, Bool.and_eq_true] at h
    rw [List.map_cons, ren_imm h.1, map_imm h.2]
theorem renB_imm {κ : List Nat} : ∀ {h : List Blk}, immH h = true → h.map (renB κ) = h
  | [], _ => rfl
  | none :: l, hi => by rw [List.map_cons, renB_imm (h := l) hi]; rfl
  | some (v, t, s, cs) :: l, hi => by
    simp only [immH, Bool.and_eq_true] at hi
    rw [List.map_cons, renB_imm hi.2]
    simp only [renB, map_imm hi.1]
theorem kbH_imm {k : Nat} : ∀ {h : List Blk}, immH h = true → kbH k h
  | [], _ => trivial
  | none :: l, hi => kbH_imm (h := l) hi
  | some (v, t, s, cs) :: l, hi => by
    simp only [immH, Bool.and_eq_true] at hi
    exact ⟨kbs_of_imm hi.1, kbH_imm hi.2⟩
theorem ops_callw {K : Tr → St → Prop} {tr : Tr} {l : List IOper} {env : Nat → D} {hp : List Blk} {dst : Option Nat} {f : FuncId} {args : List Opd} (κ : List Nat) {xs : List D} {h h' : List Blk} {r r' : D} {ws : List (Nat × Blk)} (hg : PCg P G f xs h r h')
    (ha : args.map (getO env) = xs.map (D.ren κ)) (hs : ∀ d ∈ xs, kb κ.length d) (hn : κ.Nodup) (hl : h'.length = κ.length) (hle : h.length ≤ κ.length) (hb : (κ.take h.length).map (hv hp) = h) (hnew : ∀ b ∈ κ.drop h.length, hp.length ≤ b ∧ hp.length ∈ κ.drop h.length) (hi : immH h = true) (hi' : immH h' = true) (hr : r.ren κ = r') (hw : κ.zip h' = ws)
    (hk : awpOps P G K l ((ws.map (·.1), κ.take h.length) :: tr) ⟨putE env dst r', setH hp ws⟩) :
    awpOps P G K (⟨dst, .call f args, none⟩ :: l) tr ⟨env, hp⟩ := by
  subst hw hr
  have hget : ∀ i, i < h.length → hv hp (κ.getD i 0) = hv h i := fun i hi => by
    have h1 : i < κ.length := by omega
    have h2 := congrArg (fun l => l[i]?) hb
    simp only [List.getElem?_map, List.getElem?_take, if_pos hi, List.getElem?_eq_getElem h1, List.getElem?_eq_getElem hi, Option.map_some, Option.some.injEq] at h2
    rw [List.getD_eq_getElem?_getD, List.getElem?_eq_getElem h1]
    show hv hp κ[i] = h.getD i none
    rw [h2, List.getD_eq_getElem?_getD, List.getElem?_eq_getElem hi]; rfl
  simp only [awpOps, wantedI, aOp]
  refine .inr ⟨κ, xs, h, r, h', ⟨ha, hs, ⟨hn, hle, hl, kbH_imm hi, fun i hil => ?_, hnew⟩, hg⟩, ?_⟩
  · rw [hget i hil]
    have := renB_imm (κ := κ) hi
    have h2 := congrArg (fun l => l[i]?) this
    simp only [List.getElem?_map, List.getElem?_eq_getElem hil, Option.map_some, Option.some.injEq] at h2
    show h.getD i none = renB κ (h.getD i none)
    rw [List.getD_eq_getElem?_getD, List.getElem?_eq_getElem hil]
    exact h2.symm
  · rw [renB_imm hi']
    exact hk
theorem ops_callr {K : Tr → St → Prop} {tr : Tr} {l : List IOper} {env : Nat → D} {hp : List Blk} {dst : Option Nat} {f : FuncId} {args : List Opd} (κ : List Nat) {xs : List D} {h h' : List Blk} {r r' : D} {ws : List (Nat × Blk)} {gu : Option (Option Nat × Bool)} (hg : PCg P G f xs h r h')
    (hgu : wantedI env gu = some true) (ha : args.map (getO env) = xs.map (D.ren κ)) (hs : ∀ d ∈ xs, kb κ.length d) (hn : κ.Nodup) (hl : h'.length = κ.length) (hle : h.length ≤ κ.length) (hb : (κ.take h.length).map (hv hp) = h.map (renB κ)) (hnew : ∀ b ∈ κ.drop h.length, hp.length ≤ b ∧ hp.length ∈ κ.drop h.length) (hk0 : kbH κ.length h) (hr : r.ren κ = r') (hw : κ.zip (h'.map (renB κ)) = ws)
    (hk : awpOps P G K l ((ws.map (·.1), κ.take h.length) :: tr) ⟨putE env dst r', setH hp ws⟩) :
    awpOps P G K (⟨dst, .call f args, gu⟩ :: l) tr ⟨env, hp⟩ := by
  subst hw hr
  simp only [awpOps, hgu, aOp]
  refine .inr ⟨κ, xs, h, r, h', ⟨ha, hs, ⟨hn, hle, hl, hk0, fun i hil => ?_, hnew⟩, hg⟩, ?_⟩
  · have h1 : i < κ.length := by omega
    have h2 := congrArg (fun l => l[i]?) hb
    simp only [List.getElem?_map, List.getElem?_take, if_pos hil, List.getElem?_eq_getElem h1, List.getElem?_eq_getElem hil, Option.map_some, Option.some.injEq] at h2
    rw [List.getD_eq_getElem?_getD, List.getElem?_eq_getElem h1]
    show hv hp κ[i] = renB κ (h.getD i none)
    rw [h2, List.getD_eq_getElem?_getD, List.getElem?_eq_getElem hil]; rfl
  · exact hk
end
end Go.Proofs.YtgimaioeifnajaaGreatDoorK.AI
/-
  A row that is nil is a row with nothing in it.
-/
namespace Go.Proofs.YtgimaioeifnajaaGreatDoorK.AI
open Go.RowKit
theorem Ent.nilsl {env : Nat → D} {h : List Blk} {s : Nat} (hs : env s = .nils) : Ent ⟨env, h⟩ ⟨putE env (some s) (.sl 0 []), h⟩ := fun n G R S w0 w a hlm hm hf => by
  refine ⟨R, ⟨hm.hrel, ⟨hm.srel.nod, hm.srel.len, fun t' => ?_⟩, hm.below, hm.kin, hm.g, hm.gk, hm.r0m, hm.keepR⟩, hf⟩
  show Rep _ _ _ _ (putE env (some s) (.sl 0 []) t')
  unfold putE
  split
  · rename_i e
    cases e
    have := hm.srel.rep s
    rw [show (⟨env, h⟩ : St).env s = .nils from hs] at this
    rw [this.nils_inv]
    exact .imm (.sl none 0 0 [] 0 0 (fun _ => undef) (Nat.le_refl _) (Nat.zero_le _) (fun h => absurd rfl h) (fun h => absurd rfl h) (fun j d h => by simp at h) (fun j d h => by simp at h))
  · exact hm.srel.rep t'
end Go.Proofs.YtgimaioeifnajaaGreatDoorK.AI
/-
  Steps of a walk, each one lemma; what each asks for is sought by a tactic that the lemma itself names.
-/
namespace Go.Proofs.YtgimaioeifnajaaGreatDoorK.AI
open Go.RowKit
section
variable {P : Program} {G : World → Prop} {Q : AEx → St → Prop} {K : Tr → St → Prop} {env env' : Nat → D} {h h' : List Blk} {tr tr' : Tr} {l rest : List IOper} {σ : St} {m : Nat}
theorem xctl {p q : Prop} (k : q) (f : q → p := by intro f; (repeat with_reducible first | refine awp_seq_i ?_ | refine awp_reg_i ?_ | refine ops_nil_i ?_ | refine then_normal_i ?_ | refine awp_draw_i ?_ | refine awp_block_i ?_ | refine in_normal_i ?_ | refine awp_exit_i ?_ | refine then_exit_i ?_ | refine in_exit_i ?_ | refine in_exit_ne (by decide) ?_ | refine awp_ret_i ?_ | refine then_ret_i ?_ | refine in_ret_i ?_ | refine awp_skip_i ?_); exact f) : p := f k
theorem xctl1 {p q : Prop} (k : q) (f : q → p := by intro f; (repeat with_reducible first | refine awp_reg_i ?_ | refine ops_nil_i ?_ | refine then_normal_i ?_ | refine awp_draw_i ?_ | refine awp_block_i ?_ | refine in_normal_i ?_ | refine awp_exit_i ?_ | refine then_exit_i ?_ | refine in_exit_i ?_ | refine in_exit_ne (by decide) ?_ | refine awp_ret_i ?_ | refine then_ret_i ?_ | refine in_ret_i ?_ | refine awp_skip_i ?_); exact f) : p := f k
theorem xrg {c : Prop} (hk : awpOps P G K rest tr' ⟨env', h'⟩) (hs : symOps l True tr env h = some ⟨c, tr', env', h', rest⟩ := by simp (disch := omega) only [go_sem, Nat.reduceEqDiff, Nat.reduceAdd, Nat.reduceLT, Nat.reduceMul, Nat.reduceLeDiff, reduceCtorEq, Int.reduceNeg, Int.reduceToNat]; rfl) (hc : c := by first | with_reducible exact True.intro | omega) : awpOps P G K l tr ⟨env, h⟩ := ops_sym hs hc hk
theorem xrg0 {c : Prop} (hc : c) (hk : awpOps P G K rest tr' ⟨env', h'⟩) (hs : symOps l True tr env h = some ⟨c, tr', env', h', rest⟩ := by simp (disch := omega) only [go_sem, Nat.reduceEqDiff, Nat.reduceAdd, Nat.reduceLT, Nat.reduceMul, Nat.reduceLeDiff, reduceCtorEq, Int.reduceNeg, Int.reduceToNat]; rfl) : awpOps P G K l tr ⟨env, h⟩ := ops_sym hs hc hk
def CallA (P : Program) (G : World → Prop) (f : FuncId) (xs : List D) (k : D → Prop) : Prop := ∃ r, PCr P G f xs r ∧ k r
def CallF (P : Program) (G : World → Prop) (f : FuncId) (xs : List D) (k : D → Prop) : Prop := ∃ r, PCr P G f xs r ∧ r.flat = true ∧ k r
theorem xca {f : FuncId} {xs : List D} {r : D} {k : D → Prop} (hp : PCr P G f xs r) (hk : k r) : CallA P G f xs k := ⟨r, hp, hk⟩
theorem xcf {f : FuncId} {xs : List D} {r : D} {k : D → Prop} (hp : PCr P G f xs r) (hf : r.flat = true) (hk : k r) : CallF P G f xs k := ⟨r, hp, hf, hk⟩
theorem xca1 {dst : Option Nat} {f : FuncId} {args : List Opd} {xs : List D} {ks : List Nat} (hk : CallA P G f xs fun r => awpOps P G K l ((ks, ks) :: tr) ⟨putE env dst r, setH h (ks.map fun b => (b, none))⟩) (hx : resArgs (hv h) env args = some (xs, ks) := by simp (disch := omega) only [go_sem, Nat.reduceEqDiff, Nat.reduceAdd, Nat.reduceLT, Nat.reduceMul, Nat.reduceLeDiff, reduceCtorEq, Int.reduceNeg, Int.reduceToNat]; rfl) : awpOps P G K (⟨dst, .call f args, none⟩ :: l) tr ⟨env, h⟩ :=
  have ⟨_, hp, hk⟩ := hk; ops_call hx hp hk
theorem xcf1 {dst : Option Nat} {f : FuncId} {args : List Opd} {xs : List D} {ks : List Nat} (hk : CallF P G f xs fun r => awpOps P G K l (([], ks) :: tr) ⟨putE env dst r, h⟩) (hx : resArgs (hv h) env args = some (xs, ks) := by simp (disch := omega) only [go_sem, Nat.reduceEqDiff, Nat.reduceAdd, Nat.reduceLT, Nat.reduceMul, Nat.reduceLeDiff, reduceCtorEq, Int.reduceNeg, Int.reduceToNat]; rfl) : awpOps P G K (⟨dst, .call f args, none⟩ :: l) tr ⟨env, h⟩ :=
  have ⟨_, hp, hf, hk⟩ := hk; ops_callf hx hp hf hk
theorem xcga1 {dst : Option Nat} {f : FuncId} {args : List Opd} {xs : List D} {ks : List Nat} {t : Nat} {b w : Bool} (hk : CallA P G f xs fun r => awpOps P G K l ((ks, ks) :: tr) ⟨putE env dst r, setH h (ks.map fun b => (b, none))⟩) (hb : env t = .bool b := by simp only [go_sem, Nat.reduceEqDiff, Nat.reduceAdd, Nat.reduceLT, Nat.reduceMul, Nat.reduceLeDiff, reduceCtorEq, Int.reduceNeg, Int.reduceToNat] <;> rfl) (hw : b = w := by rfl) (hx : resArgs (hv h) env args = some (xs, ks) := by simp (disch := omega) only [go_sem, Nat.reduceEqDiff, Nat.reduceAdd, Nat.reduceLT, Nat.reduceMul, Nat.reduceLeDiff, reduceCtorEq, Int.reduceNeg, Int.reduceToNat]; rfl) :
    awpOps P G K (⟨dst, .call f args, some (some t, w)⟩ :: l) tr ⟨env, h⟩ := have ⟨_, hp, hk⟩ := hk; ops_callg hb hw hx hp hk
theorem xcgf1 {dst : Option Nat} {f : FuncId} {args : List Opd} {xs : List D} {ks : List Nat} {t : Nat} {b w : Bool} (hk : CallF P G f xs fun r => awpOps P G K l (([], ks) :: tr) ⟨putE env dst r, h⟩) (hb : env t = .bool b := by simp only [go_sem, Nat.reduceEqDiff, Nat.reduceAdd, Nat.reduceLT, Nat.reduceMul, Nat.reduceLeDiff, reduceCtorEq, Int.reduceNeg, Int.reduceToNat] <;> rfl) (hw : b = w := by rfl) (hx : resArgs (hv h) env args = some (xs, ks) := by simp (disch := omega) only [go_sem, Nat.reduceEqDiff, Nat.reduceAdd, Nat.reduceLT, Nat.reduceMul, Nat.reduceLeDiff, reduceCtorEq, Int.reduceNeg, Int.reduceToNat]; rfl) :
    awpOps P G K (⟨dst, .call f args, some (some t, w)⟩ :: l) tr ⟨env, h⟩ := have ⟨_, hp, hf, hk⟩ := hk; ops_callgf hb hw hx hp hf hk
theorem xdc1 {dst : Option Nat} {f : FuncId} {x : Opd} {args args' : List Opd} {cs : List D} {g : Option (Option Nat × Bool)} (hk : awpOps P G K (⟨dst, .call f args', g⟩ :: l) tr ⟨env, h⟩) (hx : getO env x = .fn f cs := by simp only [go_sem, Nat.reduceEqDiff, Nat.reduceAdd, Nat.reduceLT, Nat.reduceMul, Nat.reduceLeDiff, reduceCtorEq, Int.reduceNeg, Int.reduceToNat]; rfl) (hf : okF P f = true := by first | with_reducible assumption | kernel_rfl)
    (ha : args ++ cs.map Opd.c = args' := by simp only [List.map_cons, List.map_nil, List.cons_append, List.nil_append, List.append_nil]; rfl) : awpOps P G K (⟨dst, .dcall x args, g⟩ :: l) tr ⟨env, h⟩ := by
  subst ha
  exact ops_dcall hx hf hk
theorem xrt {rv : List RV} {r r' : D} {ks : List Nat} (e : r' = r) (hr : ((rvDs (hv h) env rv).bind fun ds => resD (hv h) 6 (one? ds)) = some (r', ks) := by simp (disch := omega) only [go_sem, Nat.reduceEqDiff, Nat.reduceAdd, Nat.reduceLT, Nat.reduceMul, Nat.reduceLeDiff, reduceCtorEq, Int.reduceNeg, Int.reduceToNat]; rfl) : Res rv r .ret ⟨env, h⟩ := res_ret hr e
theorem xct {c : Opd} {a b : IR} (hk : awp P G m a Q ⟨env, h⟩) (hc : getO env c = .bool true := by simp only [go_sem, Nat.reduceEqDiff, Nat.reduceAdd, Nat.reduceLT, Nat.reduceMul, Nat.reduceLeDiff, reduceCtorEq, Int.reduceNeg, Int.reduceToNat]) : awp P G m (.cond c a b) Q ⟨env, h⟩ := awp_cond_t hc hk
theorem xcF {c : Opd} {a b : IR} (hk : awp P G m b Q ⟨env, h⟩) (hc : getO env c = .bool false := by simp only [go_sem, Nat.reduceEqDiff, Nat.reduceAdd, Nat.reduceLT, Nat.reduceMul, Nat.reduceLeDiff, reduceCtorEq, Int.reduceNeg, Int.reduceToNat]) : awp P G m (.cond c a b) Q ⟨env, h⟩ := awp_cond_f hc hk
theorem xcto {c : Opd} {a b : IR} (hk : awp P G m a Q ⟨env, h⟩) (hc : getO env c = .bool true := by simp only [go_sem, Nat.reduceEqDiff, Nat.reduceAdd, Nat.reduceLT, Nat.reduceMul, Nat.reduceLeDiff, reduceCtorEq, Int.reduceNeg, Int.reduceToNat]; exact congrArg D.bool (decide_eq_true (by omega))) : awp P G m (.cond c a b) Q ⟨env, h⟩ := awp_cond_t hc hk
theorem xcfo {c : Opd} {a b : IR} (hk : awp P G m b Q ⟨env, h⟩) (hc : getO env c = .bool false := by simp only [go_sem, Nat.reduceEqDiff, Nat.reduceAdd, Nat.reduceLT, Nat.reduceMul, Nat.reduceLeDiff, reduceCtorEq, Int.reduceNeg, Int.reduceToNat]; exact congrArg D.bool (decide_eq_false (by omega))) : awp P G m (.cond c a b) Q ⟨env, h⟩ := awp_cond_f hc hk
theorem xcs {c : Opd} {a b : IR} {t : Bool} (h1 : t = true → awp P G m a Q ⟨env, h⟩) (h2 : t = false → awp P G m b Q ⟨env, h⟩) (hc : getO env c = .bool t := by simp only [go_sem, Nat.reduceEqDiff, Nat.reduceAdd, Nat.reduceLT, Nat.reduceMul, Nat.reduceLeDiff, reduceCtorEq, Int.reduceNeg, Int.reduceToNat]; rfl) : awp P G m (.cond c a b) Q ⟨env, h⟩ := awp_cond_sym hc h1 h2
theorem xdr {anc : List Nat} (hk : Q .normal σ) (h : clear anc tr = true := by first | rfl | decide) : clear anc tr = true ∧ Q .normal σ := ⟨h, hk⟩
theorem xlq {α : Sort _} {a b : α} (h : a = b := by simp only [go_sem, Nat.reduceEqDiff, Nat.reduceAdd, Nat.reduceLT, Nat.reduceMul, Nat.reduceLeDiff, reduceCtorEq, Int.reduceNeg, Int.reduceToNat]) : a = b := h
end
end Go.Proofs.YtgimaioeifnajaaGreatDoorK.AI
/-
  Steps of a walk that are taken only where they go on: a walk is these, repeated.
-/
namespace Go.Proofs.YtgimaioeifnajaaGreatDoorK.AI
open Go.RowKit
section
variable {P : Program} {G : World → Prop} {Q : AEx → St → Prop} {K : Tr → St → Prop} {env env' : Nat → D} {h h' : List Blk} {tr tr' : Tr} {l rest : List IOper} {σ : St} {m : Nat}
theorem xctlp {p q : Prop} (k : q) (f : q → p := by intro f; (with_reducible first | refine awp_seq_i ?_ | refine awp_reg_i ?_ | refine ops_nil_i ?_ | refine then_normal_i ?_ | refine awp_draw_i ?_ | refine awp_block_i ?_ | refine in_normal_i ?_ | refine awp_exit_i ?_ | refine then_exit_i ?_ | refine in_exit_i ?_ | refine in_exit_ne (by decide) ?_ | refine awp_ret_i ?_ | refine then_ret_i ?_ | refine in_ret_i ?_ | refine awp_skip_i ?_); (repeat with_reducible first | refine awp_seq_i ?_ | refine awp_reg_i ?_ | refine ops_nil_i ?_ | refine then_normal_i ?_ | refine awp_draw_i ?_ | refine awp_block_i ?_ | refine in_normal_i ?_ | refine awp_exit_i ?_ | refine then_exit_i ?_ | refine in_exit_i ?_ | refine in_exit_ne (by decide) ?_ | refine awp_ret_i ?_ | refine then_ret_i ?_ | refine in_ret_i ?_ | refine awp_skip_i ?_); exact f) : p := f k
theorem xrgp {dst : Option Nat} {op : IOp} {g : Option (Option Nat × Bool)} {c : Prop} (hk : awpOps P G K rest tr' ⟨env', h'⟩) (hn : op.isCall = false := by rfl) (hs : symOps (⟨dst, op, g⟩ :: l) True tr env h = some ⟨c, tr', env', h', rest⟩ := by simp (disch := omega) only [go_sem, Nat.reduceEqDiff, Nat.reduceAdd, Nat.reduceLT, Nat.reduceMul, Nat.reduceLeDiff, reduceCtorEq, Int.reduceNeg, Int.reduceToNat]; rfl) (hc : c := by first | with_reducible exact True.intro | omega) : awpOps P G K (⟨dst, op, g⟩ :: l) tr ⟨env, h⟩ := ops_sym hs hc hk
theorem xrgs {dst : Option Nat} {op : IOp} {t : Nat} {w : Bool} {c : Prop} (hk : awpOps P G K rest tr' ⟨env', h'⟩) (hn : op.isCall = true := by rfl) (hg : env t = .bool (!w) := by simp only [go_sem, Nat.reduceEqDiff, Nat.reduceAdd, Nat.reduceLT, Nat.reduceMul, Nat.reduceLeDiff, reduceCtorEq, Int.reduceNeg, Int.reduceToNat] <;> rfl) (hs : symOps (⟨dst, op, some (some t, w)⟩ :: l) True tr env h = some ⟨c, tr', env', h', rest⟩ := by simp (disch := omega) only [go_sem, Nat.reduceEqDiff, Nat.reduceAdd, Nat.reduceLT, Nat.reduceMul, Nat.reduceLeDiff, reduceCtorEq, Int.reduceNeg, Int.reduceToNat]; rfl) (hc : c := by first | with_reducible exact True.intro | omega) : awpOps P G K (⟨dst, op, some (some t, w)⟩ :: l) tr ⟨env, h⟩ := ops_sym hs hc hk
def CallB (P : Program) (G : World → Prop) (f : FuncId) (xs : List D) (kF kA : D → Prop) : Prop := (∃ r, PCr P G f xs r ∧ r.flat = true ∧ kF r) ∨ ∃ r, PCr P G f xs r ∧ kA r
theorem xcbf {f : FuncId} {xs : List D} {r : D} {kF kA : D → Prop} (hp : PCr P G f xs r) (hf : r.flat = true) (hk : kF r) : CallB P G f xs kF kA := .inl ⟨r, hp, hf, hk⟩
theorem xcba {f : FuncId} {xs : List D} {r : D} {kF kA : D → Prop} (hp : PCr P G f xs r) (hk : kA r) : CallB P G f xs kF kA := .inr ⟨r, hp, hk⟩
theorem xcb1 {dst : Option Nat} {f : FuncId} {args : List Opd} {xs : List D} {ks : List Nat} (hk : CallB P G f xs (fun r => awpOps P G K l (([], ks) :: tr) ⟨putE env dst r, h⟩) (fun r => awpOps P G K l ((ks, ks) :: tr) ⟨putE env dst r, setH h (ks.map fun b => (b, none))⟩)) (hx : resArgs (hv h) env args = some (xs, ks) := by simp (disch := omega) only [go_sem, Nat.reduceEqDiff, Nat.reduceAdd, Nat.reduceLT, Nat.reduceMul, Nat.reduceLeDiff, reduceCtorEq, Int.reduceNeg, Int.reduceToNat]; rfl) : awpOps P G K (⟨dst, .call f args, none⟩ :: l) tr ⟨env, h⟩ :=
  hk.elim (fun ⟨_, hp, hf, hk⟩ => ops_callf hx hp hf hk) (fun ⟨_, hp, hk⟩ => ops_call hx hp hk)
theorem xcbg1 {dst : Option Nat} {f : FuncId} {args : List Opd} {xs : List D} {ks : List Nat} {t : Nat} {b w : Bool} (hk : CallB P G f xs (fun r => awpOps P G K l (([], ks) :: tr) ⟨putE env dst r, h⟩) (fun r => awpOps P G K l ((ks, ks) :: tr) ⟨putE env dst r, setH h (ks.map fun b => (b, none))⟩)) (hb : env t = .bool b := by simp only [go_sem, Nat.reduceEqDiff, Nat.reduceAdd, Nat.reduceLT, Nat.reduceMul, Nat.reduceLeDiff, reduceCtorEq, Int.reduceNeg, Int.reduceToNat] <;> rfl) (hw : b = w := by rfl) (hx : resArgs (hv h) env args = some (xs, ks) := by simp (disch := omega) only [go_sem, Nat.reduceEqDiff, Nat.reduceAdd, Nat.reduceLT, Nat.reduceMul, Nat.reduceLeDiff, reduceCtorEq, Int.reduceNeg, Int.reduceToNat]; rfl) : awpOps P G K (⟨dst, .call f args, some (some t, w)⟩ :: l) tr ⟨env, h⟩ :=
  hk.elim (fun ⟨_, hp, hf, hk⟩ => ops_callgf hb hw hx hp hf hk) (fun ⟨_, hp, hk⟩ => ops_callg hb hw hx hp hk)
end
end Go.Proofs.YtgimaioeifnajaaGreatDoorK.AI
/-
  Two more steps of a walk.
-/
namespace Go.Proofs.YtgimaioeifnajaaGreatDoorK.AI
open Go.RowKit
structure Held (q : Prop) : Prop where
  out : q
section
variable {P : Program} {G : World → Prop} {Q : AEx → St → Prop} {env : Nat → D} {h : List Blk} {m : Nat}
theorem xctp {c : Opd} {a b : IR} (hk : awp P G m a Q ⟨env, h⟩) (hc : getO env c = .bool true := by simp only [go_sem, Nat.reduceEqDiff, Nat.reduceAdd, Nat.reduceLT, Nat.reduceMul, Nat.reduceLeDiff, reduceCtorEq, Int.reduceNeg, Int.reduceToNat] <;> fail) : awp P G m (.cond c a b) Q ⟨env, h⟩ := awp_cond_t hc hk
theorem xcFp {c : Opd} {a b : IR} (hk : awp P G m b Q ⟨env, h⟩) (hc : getO env c = .bool false := by simp only [go_sem, Nat.reduceEqDiff, Nat.reduceAdd, Nat.reduceLT, Nat.reduceMul, Nat.reduceLeDiff, reduceCtorEq, Int.reduceNeg, Int.reduceToNat] <;> fail) : awp P G m (.cond c a b) Q ⟨env, h⟩ := awp_cond_f hc hk
theorem xwalk {p q : Prop} (k : q) (f : Held q → p := by intro f; (repeat (first | refine xctlp ?_ | refine xrgp ?_ | refine xdc1 ?_ | (refine xcb1 ?_; (first | refine xcbf (by first | with_reducible assumption | assumption) (by rfl) ?_ | refine xcba (by first | with_reducible assumption | assumption) ?_)) | refine xrgs ?_ | (refine xcbg1 ?_; (first | refine xcbf (by first | with_reducible assumption | assumption) (by rfl) ?_ | refine xcba (by first | with_reducible assumption | assumption) ?_)) | refine xdr ?_ | refine xctp ?_ | refine xcFp ?_ | refine xcto ?_ | refine xcfo ?_ | (refine xrt ?_; exact hr.symm))); exact f.out) : p := f ⟨k⟩
theorem xwalkd {p : Prop} (f : p := by (repeat (first | refine xctlp ?_ | refine xrgp ?_ | refine xdc1 ?_ | (refine xcb1 ?_; (first | refine xcbf (by first | with_reducible assumption | assumption) (by rfl) ?_ | refine xcba (by first | with_reducible assumption | assumption) ?_)) | refine xrgs ?_ | (refine xcbg1 ?_; (first | refine xcbf (by first | with_reducible assumption | assumption) (by rfl) ?_ | refine xcba (by first | with_reducible assumption | assumption) ?_)) | refine xdr ?_ | refine xctp ?_ | refine xcFp ?_ | refine xcto ?_ | refine xcfo ?_ | (refine xrt ?_; exact hr.symm)))) : p := f
theorem xwalk1 {p q : Prop} (k : q) (f : Held q → p := by intro f; (repeat (first | refine xctlp ?_ | refine xrgp (hs := by simp (disch := omega) only [go_sem, Nat.reduceEqDiff, Nat.reduceAdd, Nat.reduceLT, Nat.reduceMul, Nat.reduceLeDiff, reduceCtorEq, Int.reduceNeg, Int.reduceToNat, we1]; rfl) ?_ | refine xdc1 ?_ | (refine xcb1 (hx := by simp (disch := omega) only [go_sem, Nat.reduceEqDiff, Nat.reduceAdd, Nat.reduceLT, Nat.reduceMul, Nat.reduceLeDiff, reduceCtorEq, Int.reduceNeg, Int.reduceToNat, we1]; rfl) ?_; (first | refine xcbf (by first | with_reducible assumption | assumption) (by rfl) ?_ | refine xcba (by first | with_reducible assumption | assumption) ?_)) | refine xrgs (hs := by simp (disch := omega) only [go_sem, Nat.reduceEqDiff, Nat.reduceAdd, Nat.reduceLT, Nat.reduceMul, Nat.reduceLeDiff, reduceCtorEq, Int.reduceNeg, Int.reduceToNat, we1]; rfl) ?_ | (refine xcbg1 (hx := by simp (disch := omega) only [go_sem, Nat.reduceEqDiff, Nat.reduceAdd, Nat.reduceLT, Nat.reduceMul, Nat.reduceLeDiff, reduceCtorEq, Int.reduceNeg, Int.reduceToNat, we1]; rfl) ?_; (first | refine xcbf (by first | with_reducible assumption | assumption) (by rfl) ?_ | refine xcba (by first | with_reducible assumption | assumption) ?_)) | refine xdr ?_ | refine xctp ?_ | refine xcFp ?_ | refine xcto ?_ | refine xcfo ?_ | (refine xrt (hr := by simp (disch := omega) only [go_sem, Nat.reduceEqDiff, Nat.reduceAdd, Nat.reduceLT, Nat.reduceMul, Nat.reduceLeDiff, reduceCtorEq, Int.reduceNeg, Int.reduceToNat, we1]; rfl) ?_; exact hr.symm))); exact f.out) : p := f ⟨k⟩
theorem xwalkd1 {p : Prop} (f : p := by (repeat (first | refine xctlp ?_ | refine xrgp (hs := by simp (disch := omega) only [go_sem, Nat.reduceEqDiff, Nat.reduceAdd, Nat.reduceLT, Nat.reduceMul, Nat.reduceLeDiff, reduceCtorEq, Int.reduceNeg, Int.reduceToNat, we1]; rfl) ?_ | refine xdc1 ?_ | (refine xcb1 (hx := by simp (disch := omega) only [go_sem, Nat.reduceEqDiff, Nat.reduceAdd, Nat.reduceLT, Nat.reduceMul, Nat.reduceLeDiff, reduceCtorEq, Int.reduceNeg, Int.reduceToNat, we1]; rfl) ?_; (first | refine xcbf (by first | with_reducible assumption | assumption) (by rfl) ?_ | refine xcba (by first | with_reducible assumption | assumption) ?_)) | refine xrgs (hs := by simp (disch := omega) only [go_sem, Nat.reduceEqDiff, Nat.reduceAdd, Nat.reduceLT, Nat.reduceMul, Nat.reduceLeDiff, reduceCtorEq, Int.reduceNeg, Int.reduceToNat, we1]; rfl) ?_ | (refine xcbg1 (hx := by simp (disch := omega) only [go_sem, Nat.reduceEqDiff, Nat.reduceAdd, Nat.reduceLT, Nat.reduceMul, Nat.reduceLeDiff, reduceCtorEq, Int.reduceNeg, Int.reduceToNat, we1]; rfl) ?_; (first | refine xcbf (by first | with_reducible assumption | assumption) (by rfl) ?_ | refine xcba (by first | with_reducible assumption | assumption) ?_)) | refine xdr ?_ | refine xctp ?_ | refine xcFp ?_ | refine xcto ?_ | refine xcfo ?_ | (refine xrt (hr := by simp (disch := omega) only [go_sem, Nat.reduceEqDiff, Nat.reduceAdd, Nat.reduceLT, Nat.reduceMul, Nat.reduceLeDiff, reduceCtorEq, Int.reduceNeg, Int.reduceToNat, we1]; rfl) ?_; exact hr.symm)))) : p := f
theorem xwalk2 {p q : Prop} (k : q) (f : Held q → p := by intro f; (repeat (first | refine xctlp ?_ | refine xrgp (hs := by simp (disch := omega) only [go_sem, Nat.reduceEqDiff, Nat.reduceAdd, Nat.reduceLT, Nat.reduceMul, Nat.reduceLeDiff, reduceCtorEq, Int.reduceNeg, Int.reduceToNat, we1, we2]; rfl) ?_ | refine xdc1 ?_ | (refine xcb1 (hx := by simp (disch := omega) only [go_sem, Nat.reduceEqDiff, Nat.reduceAdd, Nat.reduceLT, Nat.reduceMul, Nat.reduceLeDiff, reduceCtorEq, Int.reduceNeg, Int.reduceToNat, we1, we2]; rfl) ?_; (first | refine xcbf (by first | with_reducible assumption | assumption) (by rfl) ?_ | refine xcba (by first | with_reducible assumption | assumption) ?_)) | refine xrgs (hs := by simp (disch := omega) only [go_sem, Nat.reduceEqDiff, Nat.reduceAdd, Nat.reduceLT, Nat.reduceMul, Nat.reduceLeDiff, reduceCtorEq, Int.reduceNeg, Int.reduceToNat, we1, we2]; rfl) ?_ | (refine xcbg1 (hx := by simp (disch := omega) only [go_sem, Nat.reduceEqDiff, Nat.reduceAdd, Nat.reduceLT, Nat.reduceMul, Nat.reduceLeDiff, reduceCtorEq, Int.reduceNeg, Int.reduceToNat, we1, we2]; rfl) ?_; (first | refine xcbf (by first | with_reducible assumption | assumption) (by rfl) ?_ | refine xcba (by first | with_reducible assumption | assumption) ?_)) | refine xdr ?_ | refine xctp ?_ | refine xcFp ?_ | refine xcto ?_ | refine xcfo ?_ | (refine xrt (hr := by simp (disch := omega) only [go_sem, Nat.reduceEqDiff, Nat.reduceAdd, Nat.reduceLT, Nat.reduceMul, Nat.reduceLeDiff, reduceCtorEq, Int.reduceNeg, Int.reduceToNat, we1, we2]; rfl) ?_; exact hr.symm))); exact f.out) : p := f ⟨k⟩
theorem xwalkd2 {p : Prop} (f : p := by (repeat (first | refine xctlp ?_ | refine xrgp (hs := by simp (disch := omega) only [go_sem, Nat.reduceEqDiff, Nat.reduceAdd, Nat.reduceLT, Nat.reduceMul, Nat.reduceLeDiff, reduceCtorEq, Int.reduceNeg, Int.reduceToNat, we1, we2]; rfl) ?_ | refine xdc1 ?_ | (refine xcb1 (hx := by simp (disch := omega) only [go_sem, Nat.reduceEqDiff, Nat.reduceAdd, Nat.reduceLT, Nat.reduceMul, Nat.reduceLeDiff, reduceCtorEq, Int.reduceNeg, Int.reduceToNat, we1, we2]; rfl) ?_; (first | refine xcbf (by first | with_reducible assumption | assumption) (by rfl) ?_ | refine xcba (by first | with_reducible assumption | assumption) ?_)) | refine xrgs (hs := by simp (disch := omega) only [go_sem, Nat.reduceEqDiff, Nat.reduceAdd, Nat.reduceLT, Nat.reduceMul, Nat.reduceLeDiff, reduceCtorEq, Int.reduceNeg, Int.reduceToNat, we1, we2]; rfl) ?_ | (refine xcbg1 (hx := by simp (disch := omega) only [go_sem, Nat.reduceEqDiff, Nat.reduceAdd, Nat.reduceLT, Nat.reduceMul, Nat.reduceLeDiff, reduceCtorEq, Int.reduceNeg, Int.reduceToNat, we1, we2]; rfl) ?_; (first | refine xcbf (by first | with_reducible assumption | assumption) (by rfl) ?_ | refine xcba (by first | with_reducible assumption | assumption) ?_)) | refine xdr ?_ | refine xctp ?_ | refine xcFp ?_ | refine xcto ?_ | refine xcfo ?_ | (refine xrt (hr := by simp (disch := omega) only [go_sem, Nat.reduceEqDiff, Nat.reduceAdd, Nat.reduceLT, Nat.reduceMul, Nat.reduceLeDiff, reduceCtorEq, Int.reduceNeg, Int.reduceToNat, we1, we2]; rfl) ?_; exact hr.symm)))) : p := f
theorem xwalk3 {p q : Prop} (k : q) (f : Held q → p := by intro f; (repeat (first | refine xctlp ?_ | refine xrgp (hs := by simp (disch := omega) only [go_sem, Nat.reduceEqDiff, Nat.reduceAdd, Nat.reduceLT, Nat.reduceMul, Nat.reduceLeDiff, reduceCtorEq, Int.reduceNeg, Int.reduceToNat, we1, we2, we3]; rfl) ?_ | refine xdc1 ?_ | (refine xcb1 (hx := by simp (disch := omega) only [go_sem, Nat.reduceEqDiff, Nat.reduceAdd, Nat.reduceLT, Nat.reduceMul, Nat.reduceLeDiff, reduceCtorEq, Int.reduceNeg, Int.reduceToNat, we1, we2, we3]; rfl) ?_; (first | refine xcbf (by first | with_reducible assumption | assumption) (by rfl) ?_ | refine xcba (by first | with_reducible assumption | assumption) ?_)) | refine xrgs (hs := by simp (disch := omega) only [go_sem, Nat.reduceEqDiff, Nat.reduceAdd, Nat.reduceLT, Nat.reduceMul, Nat.reduceLeDiff, reduceCtorEq, Int.reduceNeg, Int.reduceToNat, we1, we2, we3]; rfl) ?_ | (refine xcbg1 (hx := by simp (disch := omega) only [go_sem, Nat.reduceEqDiff, Nat.reduceAdd, Nat.reduceLT, Nat.reduceMul, Nat.reduceLeDiff, reduceCtorEq, Int.reduceNeg, Int.reduceToNat, we1, we2, we3]; rfl) ?_; (first | refine xcbf (by first | with_reducible assumption | assumption) (by rfl) ?_ | refine xcba (by first | with_reducible assumption | assumption) ?_)) | refine xdr ?_ | refine xctp ?_ | refine xcFp ?_ | refine xcto ?_ | refine xcfo ?_ | (refine xrt (hr := by simp (disch := omega) only [go_sem, Nat.reduceEqDiff, Nat.reduceAdd, Nat.reduceLT, Nat.reduceMul, Nat.reduceLeDiff, reduceCtorEq, Int.reduceNeg, Int.reduceToNat, we1, we2, we3]; rfl) ?_; exact hr.symm))); exact f.out) : p := f ⟨k⟩
theorem xwalkd3 {p : Prop} (f : p := by (repeat (first | refine xctlp ?_ | refine xrgp (hs := by simp (disch := omega) only [go_sem, Nat.reduceEqDiff, Nat.reduceAdd, Nat.reduceLT, Nat.reduceMul, Nat.reduceLeDiff, reduceCtorEq, Int.reduceNeg, Int.reduceToNat, we1, we2, we3]; rfl) ?_ | refine xdc1 ?_ | (refine xcb1 (hx := by simp (disch := omega) only [go_sem, Nat.reduceEqDiff, Nat.reduceAdd, Nat.reduceLT, Nat.reduceMul, Nat.reduceLeDiff, reduceCtorEq, Int.reduceNeg, Int.reduceToNat, we1, we2, we3]; rfl) ?_; (first | refine xcbf (by first | with_reducible assumption | assumption) (by rfl) ?_ | refine xcba (by first | with_reducible assumption | assumption) ?_)) | refine xrgs (hs := by simp (disch := omega) only [go_sem, Nat.reduceEqDiff, Nat.reduceAdd, Nat.reduceLT, Nat.reduceMul, Nat.reduceLeDiff, reduceCtorEq, Int.reduceNeg, Int.reduceToNat, we1, we2, we3]; rfl) ?_ | (refine xcbg1 (hx := by simp (disch := omega) only [go_sem, Nat.reduceEqDiff, Nat.reduceAdd, Nat.reduceLT, Nat.reduceMul, Nat.reduceLeDiff, reduceCtorEq, Int.reduceNeg, Int.reduceToNat, we1, we2, we3]; rfl) ?_; (first | refine xcbf (by first | with_reducible assumption | assumption) (by rfl) ?_ | refine xcba (by first | with_reducible assumption | assumption) ?_)) | refine xdr ?_ | refine xctp ?_ | refine xcFp ?_ | refine xcto ?_ | refine xcfo ?_ | (refine xrt (hr := by simp (disch := omega) only [go_sem, Nat.reduceEqDiff, Nat.reduceAdd, Nat.reduceLT, Nat.reduceMul, Nat.reduceLeDiff, reduceCtorEq, Int.reduceNeg, Int.reduceToNat, we1, we2, we3]; rfl) ?_; exact hr.symm)))) : p := f
theorem xwalk4 {p q : Prop} (k : q) (f : Held q → p := by intro f; (repeat (first | refine xctlp ?_ | refine xrgp (hs := by simp (disch := omega) only [go_sem, Nat.reduceEqDiff, Nat.reduceAdd, Nat.reduceLT, Nat.reduceMul, Nat.reduceLeDiff, reduceCtorEq, Int.reduceNeg, Int.reduceToNat, we1, we2, we3, we4]; rfl) ?_ | refine xdc1 ?_ | (refine xcb1 (hx := by simp (disch := omega) only [go_sem, Nat.reduceEqDiff, Nat.reduceAdd, Nat.reduceLT, Nat.reduceMul, Nat.reduceLeDiff, reduceCtorEq, Int.reduceNeg, Int.reduceToNat, we1, we2, we3, we4]; rfl) ?_; (first | refine xcbf (by first | with_reducible assumption | assumption) (by rfl) ?_ | refine xcba (by first | with_reducible assumption | assumption) ?_)) | refine xrgs (hs := by simp (disch := omega) only [go_sem, Nat.reduceEqDiff, Nat.reduceAdd, Nat.reduceLT, Nat.reduceMul, Nat.reduceLeDiff, reduceCtorEq, Int.reduceNeg, Int.reduceToNat, we1, we2, we3, we4]; rfl) ?_ | (refine xcbg1 (hx := by simp (disch := omega) only [go_sem, Nat.reduceEqDiff, Nat.reduceAdd, Nat.reduceLT, Nat.reduceMul, Nat.reduceLeDiff, reduceCtorEq, Int.reduceNeg, Int.reduceToNat, we1, we2, we3, we4]; rfl) ?_; (first | refine xcbf (by first | with_reducible assumption | assumption) (by rfl) ?_ | refine xcba (by first | with_reducible assumption | assumption) ?_)) | refine xdr ?_ | refine xctp ?_ | refine xcFp ?_ | refine xcto ?_ | refine xcfo ?_ | (refine xrt (hr := by simp (disch := omega) only [go_sem, Nat.reduceEqDiff, Nat.reduceAdd, Nat.reduceLT, Nat.reduceMul, Nat.reduceLeDiff, reduceCtorEq, Int.reduceNeg, Int.reduceToNat, we1, we2, we3, we4]; rfl) ?_; exact hr.symm))); exact f.out) : p := f ⟨k⟩
theorem xwalkd4 {p : Prop} (f : p := by (repeat (first | refine xctlp ?_ | refine xrgp (hs := by simp (disch := omega) only [go_sem, Nat.reduceEqDiff, Nat.reduceAdd, Nat.reduceLT, Nat.reduceMul, Nat.reduceLeDiff, reduceCtorEq, Int.reduceNeg, Int.reduceToNat, we1, we2, we3, we4]; rfl) ?_ | refine xdc1 ?_ | (refine xcb1 (hx := by simp (disch := omega) only [go_sem, Nat.reduceEqDiff, Nat.reduceAdd, Nat.reduceLT, Nat.reduceMul, Nat.reduceLeDiff, reduceCtorEq, Int.reduceNeg, Int.reduceToNat, we1, we2, we3, we4]; rfl) ?_; (first | refine xcbf (by first | with_reducible assumption | assumption) (by rfl) ?_ | refine xcba (by first | with_reducible assumption | assumption) ?_)) | refine xrgs (hs := by simp (disch := omega) only [go_sem, Nat.reduceEqDiff, Nat.reduceAdd, Nat.reduceLT, Nat.reduceMul, Nat.reduceLeDiff, reduceCtorEq, Int.reduceNeg, Int.reduceToNat, we1, we2, we3, we4]; rfl) ?_ | (refine xcbg1 (hx := by simp (disch := omega) only [go_sem, Nat.reduceEqDiff, Nat.reduceAdd, Nat.reduceLT, Nat.reduceMul, Nat.reduceLeDiff, reduceCtorEq, Int.reduceNeg, Int.reduceToNat, we1, we2, we3, we4]; rfl) ?_; (first | refine xcbf (by first | with_reducible assumption | assumption) (by rfl) ?_ | refine xcba (by first | with_reducible assumption | assumption) ?_)) | refine xdr ?_ | refine xctp ?_ | refine xcFp ?_ | refine xcto ?_ | refine xcfo ?_ | (refine xrt (hr := by simp (disch := omega) only [go_sem, Nat.reduceEqDiff, Nat.reduceAdd, Nat.reduceLT, Nat.reduceMul, Nat.reduceLeDiff, reduceCtorEq, Int.reduceNeg, Int.reduceToNat, we1, we2, we3, we4]; rfl) ?_; exact hr.symm)))) : p := f
theorem xwalk5 {p q : Prop} (k : q) (f : Held q → p := by intro f; (repeat (first | refine xctlp ?_ | refine xrgp (hs := by simp (disch := omega) only [go_sem, Nat.reduceEqDiff, Nat.reduceAdd, Nat.reduceLT, Nat.reduceMul, Nat.reduceLeDiff, reduceCtorEq, Int.reduceNeg, Int.reduceToNat, we1, we2, we3, we4, we5]; rfl) ?_ | refine xdc1 ?_ | (refine xcb1 (hx := by simp (disch := omega) only [go_sem, Nat.reduceEqDiff, Nat.reduceAdd, Nat.reduceLT, Nat.reduceMul, Nat.reduceLeDiff, reduceCtorEq, Int.reduceNeg, Int.reduceToNat, we1, we2, we3, we4, we5]; rfl) ?_; (first | refine xcbf (by first | with_reducible assumption | assumption) (by rfl) ?_ | refine xcba (by first | with_reducible assumption | assumption) ?_)) | refine xrgs (hs := by simp (disch := omega) only [go_sem, Nat.reduceEqDiff, Nat.reduceAdd, Nat.reduceLT, Nat.reduceMul, Nat.reduceLeDiff, reduceCtorEq, Int.reduceNeg, Int.reduceToNat, we1, we2, we3, we4, we5]; rfl) ?_ | (refine xcbg1 (hx := by simp (disch := omega) only [go_sem, Nat.reduceEqDiff, Nat.reduceAdd, Nat.reduceLT, Nat.reduceMul, Nat.reduceLeDiff, reduceCtorEq, Int.reduceNeg, Int.reduceToNat, we1, we2, we3, we4, we5]; rfl) ?_; (first | refine xcbf (by first | with_reducible assumption | assumption) (by rfl) ?_ | refine xcba (by first | with_reducible assumption | assumption) ?_)) | refine xdr ?_ | refine xctp ?_ | refine xcFp ?_ | refine xcto ?_ | refine xcfo ?_ | (refine xrt (hr := by simp (disch := omega) only [go_sem, Nat.reduceEqDiff, Nat.reduceAdd, Nat.reduceLT, Nat.reduceMul, Nat.reduceLeDiff, reduceCtorEq, Int.reduceNeg, Int.reduceToNat, we1, we2, we3, we4, we5]; rfl) ?_; exact hr.symm))); exact f.out) : p := f ⟨k⟩
theorem xwalkd5 {p : Prop} (f : p := by (repeat (first | refine xctlp ?_ | refine xrgp (hs := by simp (disch := omega) only [go_sem, Nat.reduceEqDiff, Nat.reduceAdd, Nat.reduceLT, Nat.reduceMul, Nat.reduceLeDiff, reduceCtorEq, Int.reduceNeg, Int.reduceToNat, we1, we2, we3, we4, we5]; rfl) ?_ | refine xdc1 ?_ | (refine xcb1 (hx := by simp (disch := omega) only [go_sem, Nat.reduceEqDiff, Nat.reduceAdd, Nat.reduceLT, Nat.reduceMul, Nat.reduceLeDiff, reduceCtorEq, Int.reduceNeg, Int.reduceToNat, we1, we2, we3, we4, we5]; rfl) ?_; (first | refine xcbf (by first | with_reducible assumption | assumption) (by rfl) ?_ | refine xcba (by first | with_reducible assumption | assumption) ?_)) | refine xrgs (hs := by simp (disch := omega) only [go_sem, Nat.reduceEqDiff, Nat.reduceAdd, Nat.reduceLT, Nat.reduceMul, Nat.reduceLeDiff, reduceCtorEq, Int.reduceNeg, Int.reduceToNat, we1, we2, we3, we4, we5]; rfl) ?_ | (refine xcbg1 (hx := by simp (disch := omega) only [go_sem, Nat.reduceEqDiff, Nat.reduceAdd, Nat.reduceLT, Nat.reduceMul, Nat.reduceLeDiff, reduceCtorEq, Int.reduceNeg, Int.reduceToNat, we1, we2, we3, we4, we5]; rfl) ?_; (first | refine xcbf (by first | with_reducible assumption | assumption) (by rfl) ?_ | refine xcba (by first | with_reducible assumption | assumption) ?_)) | refine xdr ?_ | refine xctp ?_ | refine xcFp ?_ | refine xcto ?_ | refine xcfo ?_ | (refine xrt (hr := by simp (disch := omega) only [go_sem, Nat.reduceEqDiff, Nat.reduceAdd, Nat.reduceLT, Nat.reduceMul, Nat.reduceLeDiff, reduceCtorEq, Int.reduceNeg, Int.reduceToNat, we1, we2, we3, we4, we5]; rfl) ?_; exact hr.symm)))) : p := f
theorem xwalk6 {p q : Prop} (k : q) (f : Held q → p := by intro f; (repeat (first | refine xctlp ?_ | refine xrgp (hs := by simp (disch := omega) only [go_sem, Nat.reduceEqDiff, Nat.reduceAdd, Nat.reduceLT, Nat.reduceMul, Nat.reduceLeDiff, reduceCtorEq, Int.reduceNeg, Int.reduceToNat, we1, we2, we3, we4, we5, we6]; rfl) ?_ | refine xdc1 ?_ | (refine xcb1 (hx := by simp (disch := omega) only [go_sem, Nat.reduceEqDiff, Nat.reduceAdd, Nat.reduceLT, Nat.reduceMul, Nat.reduceLeDiff, reduceCtorEq, Int.reduceNeg, Int.reduceToNat, we1, we2, we3, we4, we5, we6]; rfl) ?_; (first | refine xcbf (by first | with_reducible assumption | assumption) (by rfl) ?_ | refine xcba (by first | with_reducible assumption | assumption) ?_)) | refine xrgs (hs := by simp (disch := omega) only [go_sem, Nat.reduceEqDiff, Nat.reduceAdd, Nat.reduceLT, Nat.reduceMul, Nat.reduceLeDiff, reduceCtorEq, Int.reduceNeg, Int.reduceToNat, we1, we2, we3, we4, we5, we6]; rfl) ?_ | (refine xcbg1 (hx := by simp (disch := omega) only [go_sem, Nat.reduceEqDiff, Nat.reduceAdd, Nat.reduceLT, Nat.reduceMul, Nat.reduceLeDiff, reduceCtorEq, Int.reduceNeg, Int.reduceToNat, we1, we2, we3, we4, we5, we6]; rfl) ?_; (first | refine xcbf (by first | with_reducible assumption | assumption) (by rfl) ?_ | refine xcba (by first | with_reducible assumption | assumption) ?_)) | refine xdr ?_ | refine xctp ?_ | refine xcFp ?_ | refine xcto ?_ | refine xcfo ?_ | (refine xrt (hr := by simp (disch := omega) only [go_sem, Nat.reduceEqDiff, Nat.reduceAdd, Nat.reduceLT, Nat.reduceMul, Nat.reduceLeDiff, reduceCtorEq, Int.reduceNeg, Int.reduceToNat, we1, we2, we3, we4, we5, we6]; rfl) ?_; exact hr.symm))); exact f.out) : p := f ⟨k⟩
theorem xwalkd6 {p : Prop} (f : p := by (repeat (first | refine xctlp ?_ | refine xrgp (hs := by simp (disch := omega) only [go_sem, Nat.reduceEqDiff, Nat.reduceAdd, Nat.reduceLT, Nat.reduceMul, Nat.reduceLeDiff, reduceCtorEq, Int.reduceNeg, Int.reduceToNat, we1, we2, we3, we4, we5, we6]; rfl) ?_ | refine xdc1 ?_ | (refine xcb1 (hx := by simp (disch := omega) only [go_sem, Nat.reduceEqDiff, Nat.reduceAdd, Nat.reduceLT, Nat.reduceMul, Nat.reduceLeDiff, reduceCtorEq, Int.reduceNeg, Int.reduceToNat, we1, we2, we3, we4, we5, we6]; rfl) ?_; (first | refine xcbf (by first | with_reducible assumption | assumption) (by rfl) ?_ | refine xcba (by first | with_reducible assumption | assumption) ?_)) | refine xrgs (hs := by simp (disch := omega) only [go_sem, Nat.reduceEqDiff, Nat.reduceAdd, Nat.reduceLT, Nat.reduceMul, Nat.reduceLeDiff, reduceCtorEq, Int.reduceNeg, Int.reduceToNat, we1, we2, we3, we4, we5, we6]; rfl) ?_ | (refine xcbg1 (hx := by simp (disch := omega) only [go_sem, Nat.reduceEqDiff, Nat.reduceAdd, Nat.reduceLT, Nat.reduceMul, Nat.reduceLeDiff, reduceCtorEq, Int.reduceNeg, Int.reduceToNat, we1, we2, we3, we4, we5, we6]; rfl) ?_; (first | refine xcbf (by first | with_reducible assumption | assumption) (by rfl) ?_ | refine xcba (by first | with_reducible assumption | assumption) ?_)) | refine xdr ?_ | refine xctp ?_ | refine xcFp ?_ | refine xcto ?_ | refine xcfo ?_ | (refine xrt (hr := by simp (disch := omega) only [go_sem, Nat.reduceEqDiff, Nat.reduceAdd, Nat.reduceLT, Nat.reduceMul, Nat.reduceLeDiff, reduceCtorEq, Int.reduceNeg, Int.reduceToNat, we1, we2, we3, we4, we5, we6]; rfl) ?_; exact hr.symm)))) : p := f
theorem xwalk7 {p q : Prop} (k : q) (f : Held q → p := by intro f; (repeat (first | refine xctlp ?_ | refine xrgp (hs := by simp (disch := omega) only [go_sem, Nat.reduceEqDiff, Nat.reduceAdd, Nat.reduceLT, Nat.reduceMul, Nat.reduceLeDiff, reduceCtorEq, Int.reduceNeg, Int.reduceToNat, we1, we2, we3, we4, we5, we6, we7]; rfl) ?_ | refine xdc1 ?_ | (refine xcb1 (hx := by simp (disch := omega) only [go_sem, Nat.reduceEqDiff, Nat.reduceAdd, Nat.reduceLT, Nat.reduceMul, Nat.reduceLeDiff, reduceCtorEq, Int.reduceNeg, Int.reduceToNat, we1, we2, we3, we4, we5, we6, we7]; rfl) ?_; (first | refine xcbf (by first | with_reducible assumption | assumption) (by rfl) ?_ | refine xcba (by first | with_reducible assumption | assumption) ?_)) | refine xrgs (hs := by simp (disch := omega) only [go_sem, Nat.reduceEqDiff, Nat.reduceAdd, Nat.reduceLT, Nat.reduceMul, Nat.reduceLeDiff, reduceCtorEq, Int.reduceNeg, Int.reduceToNat, we1, we2, we3, we4, we5, we6, we7]; rfl) ?_ | (refine xcbg1 (hx := by simp (disch := omega) only [go_sem, Nat.reduceEqDiff, Nat.reduceAdd, Nat.reduceLT, Nat.reduceMul, Nat.reduceLeDiff, reduceCtorEq, Int.reduceNeg, Int.reduceToNat, we1, we2, we3, we4, we5, we6, we7]; rfl) ?_; (first | refine xcbf (by first | with_reducible assumption | assumption) (by rfl) ?_ | refine xcba (by first | with_reducible assumption | assumption) ?_)) | refine xdr ?_ | refine xctp ?_ | refine xcFp ?_ | refine xcto ?_ | refine xcfo ?_ | (refine xrt (hr := by simp (disch := omega) only [go_sem, Nat.reduceEqDiff, Nat.reduceAdd, Nat.reduceLT, Nat.reduceMul, Nat.reduceLeDiff, reduceCtorEq, Int.reduceNeg, Int.reduceToNat, we1, we2, we3, we4, we5, we6, we7]; rfl) ?_; exact hr.symm))); exact f.out) : p := f ⟨k⟩
theorem xwalkd7 {p : Prop} (f : p := by (repeat (first | refine xctlp ?_ | refine xrgp (hs := by simp (disch := omega) only [go_sem, Nat.reduceEqDiff, Nat.reduceAdd, Nat.reduceLT, Nat.reduceMul, Nat.reduceLeDiff, reduceCtorEq, Int.reduceNeg, Int.reduceToNat, we1, we2, we3, we4, we5, we6, we7]; rfl) ?_ | refine xdc1 ?_ | (refine xcb1 (hx := by simp (disch := omega) only [go_sem, Nat.reduceEqDiff, Nat.reduceAdd, Nat.reduceLT, Nat.reduceMul, Nat.reduceLeDiff, reduceCtorEq, Int.reduceNeg, Int.reduceToNat, we1, we2, we3, we4, we5, we6, we7]; rfl) ?_; (first | refine xcbf (by first | with_reducible assumption | assumption) (by rfl) ?_ | refine xcba (by first | with_reducible assumption | assumption) ?_)) | refine xrgs (hs := by simp (disch := omega) only [go_sem, Nat.reduceEqDiff, Nat.reduceAdd, Nat.reduceLT, Nat.reduceMul, Nat.reduceLeDiff, reduceCtorEq, Int.reduceNeg, Int.reduceToNat, we1, we2, we3, we4, we5, we6, we7]; rfl) ?_ | (refine xcbg1 (hx := by simp (disch := omega) only [go_sem, Nat.reduceEqDiff, Nat.reduceAdd, Nat.reduceLT, Nat.reduceMul, Nat.reduceLeDiff, reduceCtorEq, Int.reduceNeg, Int.reduceToNat, we1, we2, we3, we4, we5, we6, we7]; rfl) ?_; (first | refine xcbf (by first | with_reducible assumption | assumption) (by rfl) ?_ | refine xcba (by first | with_reducible assumption | assumption) ?_)) | refine xdr ?_ | refine xctp ?_ | refine xcFp ?_ | refine xcto ?_ | refine xcfo ?_ | (refine xrt (hr := by simp (disch := omega) only [go_sem, Nat.reduceEqDiff, Nat.reduceAdd, Nat.reduceLT, Nat.reduceMul, Nat.reduceLeDiff, reduceCtorEq, Int.reduceNeg, Int.reduceToNat, we1, we2, we3, we4, we5, we6, we7]; rfl) ?_; exact hr.symm)))) : p := f
theorem xwalk8 {p q : Prop} (k : q) (f : Held q → p := by intro f; (repeat (first | refine xctlp ?_ | refine xrgp (hs := by simp (disch := omega) only [go_sem, Nat.reduceEqDiff, Nat.reduceAdd, Nat.reduceLT, Nat.reduceMul, Nat.reduceLeDiff, reduceCtorEq, Int.reduceNeg, Int.reduceToNat, we1, we2, we3, we4, we5, we6, we7, we8]; rfl) ?_ | refine xdc1 ?_ | (refine xcb1 (hx := by simp (disch := omega) only [go_sem, Nat.reduceEqDiff, Nat.reduceAdd, Nat.reduceLT, Nat.reduceMul, Nat.reduceLeDiff, reduceCtorEq, Int.reduceNeg, Int.reduceToNat, we1, we2, we3, we4, we5, we6, we7, we8]; rfl) ?_; (first | refine xcbf (by first | with_reducible assumption | assumption) (by rfl) ?_ | refine xcba (by first | with_reducible assumption | assumption) ?_)) | refine xrgs (hs := by simp (disch := omega) only [go_sem, Nat.reduceEqDiff, Nat.reduceAdd, Nat.reduceLT, Nat.reduceMul, Nat.reduceLeDiff, reduceCtorEq, Int.reduceNeg, Int.reduceToNat, we1, we2, we3, we4, we5, we6, we7, we8]; rfl) ?_ | (refine xcbg1 (hx := by simp (disch := omega) only [go_sem, Nat.reduceEqDiff, Nat.reduceAdd, Nat.reduceLT, Nat.reduceMul, Nat.reduceLeDiff, reduceCtorEq, Int.reduceNeg, Int.reduceToNat, we1, we2, we3, we4, we5, we6, we7, we8]; rfl) ?_; (first | refine xcbf (by first | with_reducible assumption | assumption) (by rfl) ?_ | refine xcba (by first | with_reducible assumption | assumption) ?_)) | refine xdr ?_ | refine xctp ?_ | refine xcFp ?_ | refine xcto ?_ | refine xcfo ?_ | (refine xrt (hr := by simp (disch := omega) only [go_sem, Nat.reduceEqDiff, Nat.reduceAdd, Nat.reduceLT, Nat.reduceMul, Nat.reduceLeDiff, reduceCtorEq, Int.reduceNeg, Int.reduceToNat, we1, we2, we3, we4, we5, we6, we7, we8]; rfl) ?_; exact hr.symm))); exact f.out) : p := f ⟨k⟩
theorem xwalkd8 {p : Prop} (f : p := by (repeat (first | refine xctlp ?_ | refine xrgp (hs := by simp (disch := omega) only [go_sem, Nat.reduceEqDiff, Nat.reduceAdd, Nat.reduceLT, Nat.reduceMul, Nat.reduceLeDiff, reduceCtorEq, Int.reduceNeg, Int.reduceToNat, we1, we2, we3, we4, we5, we6, we7, we8]; rfl) ?_ | refine xdc1 ?_ | (refine xcb1 (hx := by simp (disch := omega) only [go_sem, Nat.reduceEqDiff, Nat.reduceAdd, Nat.reduceLT, Nat.reduceMul, Nat.reduceLeDiff, reduceCtorEq, Int.reduceNeg, Int.reduceToNat, we1, we2, we3, we4, we5, we6, we7, we8]; rfl) ?_; (first | refine xcbf (by first | with_reducible assumption | assumption) (by rfl) ?_ | refine xcba (by first | with_reducible assumption | assumption) ?_)) | refine xrgs (hs := by simp (disch := omega) only [go_sem, Nat.reduceEqDiff, Nat.reduceAdd, Nat.reduceLT, Nat.reduceMul, Nat.reduceLeDiff, reduceCtorEq, Int.reduceNeg, Int.reduceToNat, we1, we2, we3, we4, we5, we6, we7, we8]; rfl) ?_ | (refine xcbg1 (hx := by simp (disch := omega) only [go_sem, Nat.reduceEqDiff, Nat.reduceAdd, Nat.reduceLT, Nat.reduceMul, Nat.reduceLeDiff, reduceCtorEq, Int.reduceNeg, Int.reduceToNat, we1, we2, we3, we4, we5, we6, we7, we8]; rfl) ?_; (first | refine xcbf (by first | with_reducible assumption | assumption) (by rfl) ?_ | refine xcba (by first | with_reducible assumption | assumption) ?_)) | refine xdr ?_ | refine xctp ?_ | refine xcFp ?_ | refine xcto ?_ | refine xcfo ?_ | (refine xrt (hr := by simp (disch := omega) only [go_sem, Nat.reduceEqDiff, Nat.reduceAdd, Nat.reduceLT, Nat.reduceMul, Nat.reduceLeDiff, reduceCtorEq, Int.reduceNeg, Int.reduceToNat, we1, we2, we3, we4, we5, we6, we7, we8]; rfl) ?_; exact hr.symm)))) : p := f
theorem xwalk9 {p q : Prop} (k : q) (f : Held q → p := by intro f; (repeat (first | refine xctlp ?_ | refine xrgp (hs := by simp (disch := omega) only [go_sem, Nat.reduceEqDiff, Nat.reduceAdd, Nat.reduceLT, Nat.reduceMul, Nat.reduceLeDiff, reduceCtorEq, Int.reduceNeg, Int.reduceToNat, we1, we2, we3, we4, we5, we6, we7, we8, we9]; rfl) ?_ | refine xdc1 ?_ | (refine xcb1 (hx := by simp (disch := omega) only [go_sem, Nat.reduceEqDiff, Nat.reduceAdd, Nat.reduceLT, Nat.reduceMul, Nat.reduceLeDiff, reduceCtorEq, Int.reduceNeg, Int.reduceToNat, we1, we2, we3, we4, we5, we6, we7, we8, we9]; rfl) ?_; (first | refine xcbf (by first | with_reducible assumption | assumption) (by rfl) ?_ | refine xcba (by first | with_reducible assumption | assumption) ?_)) | refine xrgs (hs := by simp (disch := omega) only [go_sem, Nat.reduceEqDiff, Nat.reduceAdd, Nat.reduceLT, Nat.reduceMul, Nat.reduceLeDiff, reduceCtorEq, Int.reduceNeg, Int.reduceToNat, we1, we2, we3, we4, we5, we6, we7, we8, we9]; rfl) ?_ | (refine xcbg1 (hx := by simp (disch := omega) only [go_sem, Nat.reduceEqDiff, Nat.reduceAdd, Nat.reduceLT, Nat.reduceMul, Nat.reduceLeDiff, reduceCtorEq, Int.reduceNeg, Int.reduceToNat, we1, we2, we3, we4, we5, we6, we7, we8, we9]; rfl) ?_; (first | refine xcbf (by first | with_reducible assumption | assumption) (by rfl) ?_ | refine xcba (by first | with_reducible assumption | assumption) ?_)) | refine xdr ?_ | refine xctp ?_ | refine xcFp ?_ | refine xcto ?_ | refine xcfo ?_ | (refine xrt (hr := by simp (disch := omega) only [go_sem, Nat.reduceEqDiff, Nat.reduceAdd, Nat.reduceLT, Nat.reduceMul, Nat.reduceLeDiff, reduceCtorEq, Int.reduceNeg, Int.reduceToNat, we1, we2, we3, we4, we5, we6, we7, we8, we9]; rfl) ?_; exact hr.symm))); exact f.out) : p := f ⟨k⟩
theorem xwalkd9 {p : Prop} (f : p := by (repeat (first | refine xctlp ?_ | refine xrgp (hs := by simp (disch := omega) only [go_sem, Nat.reduceEqDiff, Nat.reduceAdd, Nat.reduceLT, Nat.reduceMul, Nat.reduceLeDiff, reduceCtorEq, Int.reduceNeg, Int.reduceToNat, we1, we2, we3, we4, we5, we6, we7, we8, we9]; rfl) ?_ | refine xdc1 ?_ | (refine xcb1 (hx := by simp (disch := omega) only [go_sem, Nat.reduceEqDiff, Nat.reduceAdd, Nat.reduceLT, Nat.reduceMul, Nat.reduceLeDiff, reduceCtorEq, Int.reduceNeg, Int.reduceToNat, we1, we2, we3, we4, we5, we6, we7, we8, we9]; rfl) ?_; (first | refine xcbf (by first | with_reducible assumption | assumption) (by rfl) ?_ | refine xcba (by first | with_reducible assumption | assumption) ?_)) | refine xrgs (hs := by simp (disch := omega) only [go_sem, Nat.reduceEqDiff, Nat.reduceAdd, Nat.reduceLT, Nat.reduceMul, Nat.reduceLeDiff, reduceCtorEq, Int.reduceNeg, Int.reduceToNat, we1, we2, we3, we4, we5, we6, we7, we8, we9]; rfl) ?_ | (refine xcbg1 (hx := by simp (disch := omega) only [go_sem, Nat.reduceEqDiff, Nat.reduceAdd, Nat.reduceLT, Nat.reduceMul, Nat.reduceLeDiff, reduceCtorEq, Int.reduceNeg, Int.reduceToNat, we1, we2, we3, we4, we5, we6, we7, we8, we9]; rfl) ?_; (first | refine xcbf (by first | with_reducible assumption | assumption) (by rfl) ?_ | refine xcba (by first | with_reducible assumption | assumption) ?_)) | refine xdr ?_ | refine xctp ?_ | refine xcFp ?_ | refine xcto ?_ | refine xcfo ?_ | (refine xrt (hr := by simp (disch := omega) only [go_sem, Nat.reduceEqDiff, Nat.reduceAdd, Nat.reduceLT, Nat.reduceMul, Nat.reduceLeDiff, reduceCtorEq, Int.reduceNeg, Int.reduceToNat, we1, we2, we3, we4, we5, we6, we7, we8, we9]; rfl) ?_; exact hr.symm)))) : p := f
theorem xwalk10 {p q : Prop} (k : q) (f : Held q → p := by intro f; (repeat (first | refine xctlp ?_ | refine xrgp (hs := by simp (disch := omega) only [go_sem, Nat.reduceEqDiff, Nat.reduceAdd, Nat.reduceLT, Nat.reduceMul, Nat.reduceLeDiff, reduceCtorEq, Int.reduceNeg, Int.reduceToNat, we1, we2, we3, we4, we5, we6, we7, we8, we9, we10]; rfl) ?_ | refine xdc1 ?_ | (refine xcb1 (hx := by simp (disch := omega) only [go_sem, Nat.reduceEqDiff, Nat.reduceAdd, Nat.reduceLT, Nat.reduceMul, Nat.reduceLeDiff, reduceCtorEq, Int.reduceNeg, Int.reduceToNat, we1, we2, we3, we4, we5, we6, we7, we8, we9, we10]; rfl) ?_; (first | refine xcbf (by first | with_reducible assumption | assumption) (by rfl) ?_ | refine xcba (by first | with_reducible assumption | assumption) ?_)) | refine xrgs (hs := by simp (disch := omega) only [go_sem, Nat.reduceEqDiff, Nat.reduceAdd, Nat.reduceLT, Nat.reduceMul, Nat.reduceLeDiff, reduceCtorEq, Int.reduceNeg, Int.reduceToNat, we1, we2, we3, we4, we5, we6, we7, we8, we9, we10]; rfl) ?_ | (refine xcbg1 (hx := by simp (disch := omega) only [go_sem, Nat.reduceEqDiff, Nat.reduceAdd, Nat.reduceLT, Nat.reduceMul, Nat.reduceLeDiff, reduceCtorEq, Int.reduceNeg, Int.reduceToNat, we1, we2, we3, we4, we5, we6, we7, we8, we9, we10]; rfl) ?_; (first | refine xcbf (by first | with_reducible assumption | assumption) (by rfl) ?_ | refine xcba (by first | with_reducible assumption | assumption) ?_)) | refine xdr ?_ | refine xctp ?_ | refine xcFp ?_ | refine xcto ?_ | refine xcfo ?_ | (refine xrt (hr := by simp (disch := omega) only [go_sem, Nat.reduceEqDiff, Nat.reduceAdd, Nat.reduceLT, Nat.reduceMul, Nat.reduceLeDiff, reduceCtorEq, Int.reduceNeg, Int.reduceToNat, we1, we2, we3, we4, we5, we6, we7, we8, we9, we10]; rfl) ?_; exact hr.symm))); exact f.out) : p := f ⟨k⟩
theorem xwalkd10 {p : Prop} (f : p := by (repeat (first | refine xctlp ?_ | refine xrgp (hs := by simp (disch := omega) only [go_sem, Nat.reduceEqDiff, Nat.reduceAdd, Nat.reduceLT, Nat.reduceMul, Nat.reduceLeDiff, reduceCtorEq, Int.reduceNeg, Int.reduceToNat, we1, we2, we3, we4, we5, we6, we7, we8, we9, we10]; rfl) ?_ | refine xdc1 ?_ | (refine xcb1 (hx := by simp (disch := omega) only [go_sem, Nat.reduceEqDiff, Nat.reduceAdd, Nat.reduceLT, Nat.reduceMul, Nat.reduceLeDiff, reduceCtorEq, Int.reduceNeg, Int.reduceToNat, we1, we2, we3, we4, we5, we6, we7, we8, we9, we10]; rfl) ?_; (first | refine xcbf (by first | with_reducible assumption | assumption) (by rfl) ?_ | refine xcba (by first | with_reducible assumption | assumption) ?_)) | refine xrgs (hs := by simp (disch := omega) only [go_sem, Nat.reduceEqDiff, Nat.reduceAdd, Nat.reduceLT, Nat.reduceMul, Nat.reduceLeDiff, reduceCtorEq, Int.reduceNeg, Int.reduceToNat, we1, we2, we3, we4, we5, we6, we7, we8, we9, we10]; rfl) ?_ | (refine xcbg1 (hx := by simp (disch := omega) only [go_sem, Nat.reduceEqDiff, Nat.reduceAdd, Nat.reduceLT, Nat.reduceMul, Nat.reduceLeDiff, reduceCtorEq, Int.reduceNeg, Int.reduceToNat, we1, we2, we3, we4, we5, we6, we7, we8, we9, we10]; rfl) ?_; (first | refine xcbf (by first | with_reducible assumption | assumption) (by rfl) ?_ | refine xcba (by first | with_reducible assumption | assumption) ?_)) | refine xdr ?_ | refine xctp ?_ | refine xcFp ?_ | refine xcto ?_ | refine xcfo ?_ | (refine xrt (hr := by simp (disch := omega) only [go_sem, Nat.reduceEqDiff, Nat.reduceAdd, Nat.reduceLT, Nat.reduceMul, Nat.reduceLeDiff, reduceCtorEq, Int.reduceNeg, Int.reduceToNat, we1, we2, we3, we4, we5, we6, we7, we8, we9, we10]; rfl) ?_; exact hr.symm)))) : p := f
theorem xwalk11 {p q : Prop} (k : q) (f : Held q → p := by intro f; (repeat (first | refine xctlp ?_ | refine xrgp (hs := by simp (disch := omega) only [go_sem, Nat.reduceEqDiff, Nat.reduceAdd, Nat.reduceLT, Nat.reduceMul, Nat.reduceLeDiff, reduceCtorEq, Int.reduceNeg, Int.reduceToNat, we1, we2, we3, we4, we5, we6, we7, we8, we9, we10, we11]; rfl) ?_ | refine xdc1 ?_ | (refine xcb1 (hx := by simp (disch := omega) only [go_sem, Nat.reduceEqDiff, Nat.reduceAdd, Nat.reduceLT, Nat.reduceMul, Nat.reduceLeDiff, reduceCtorEq, Int.reduceNeg, Int.reduceToNat, we1, we2, we3, we4, we5, we6, we7, we8, we9, we10, we11]; rfl) ?_; (first | refine xcbf (by first | with_reducible assumption | assumption) (by rfl) ?_ | refine xcba (by first | with_reducible assumption | assumption) ?_)) | refine xrgs (hs := by simp (disch := omega) only [go_sem, Nat.reduceEqDiff, Nat.reduceAdd, Nat.reduceLT, Nat.reduceMul, Nat.reduceLeDiff, reduceCtorEq, Int.reduceNeg, Int.reduceToNat, we1, we2, we3, we4, we5, we6, we7, we8, we9, we10, we11]; rfl) ?_ | (refine xcbg1 (hx := by simp (disch := omega) only [go_sem, Nat.reduceEqDiff, Nat.reduceAdd, Nat.reduceLT, Nat.reduceMul, Nat.reduceLeDiff, reduceCtorEq, Int.reduceNeg, Int.reduceToNat, we1, we2, we3, we4, we5, we6, we7, we8, we9, we10, we11]; rfl) ?_; (first | refine xcbf (by first | with_reducible assumption | assumption) (by rfl) ?_ | refine xcba (by first | with_reducible assumption | assumption) ?_)) | refine xdr ?_ | refine xctp ?_ | refine xcFp ?_ | refine xcto ?_ | refine xcfo ?_ | (refine xrt (hr := by simp (disch := omega) only [go_sem, Nat.reduceEqDiff, Nat.reduceAdd, Nat.reduceLT, Nat.reduceMul, Nat.reduceLeDiff, reduceCtorEq, Int.reduceNeg, Int.reduceToNat, we1, we2, we3, we4, we5, we6, we7, we8, we9, we10, we11]; rfl) ?_; exact hr.symm))); exact f.out) : p := f ⟨k⟩
theorem xwalkd11 {p : Prop} (f : p := by (repeat (first | refine xctlp ?_ | refine xrgp (hs := by simp (disch := omega) only [go_sem, Nat.reduceEqDiff, Nat.reduceAdd, Nat.reduceLT, Nat.reduceMul, Nat.reduceLeDiff, reduceCtorEq, Int.reduceNeg, Int.reduceToNat, we1, we2, we3, we4, we5, we6, we7, we8, we9, we10, we11]; rfl) ?_ | refine xdc1 ?_ | (refine xcb1 (hx := by simp (disch := omega) only [go_sem, Nat.reduceEqDiff, Nat.reduceAdd, Nat.reduceLT, Nat.reduceMul, Nat.reduceLeDiff, reduceCtorEq, Int.reduceNeg, Int.reduceToNat, we1, we2, we3, we4, we5, we6, we7, we8, we9, we10, we11]; rfl) ?_; (first | refine xcbf (by first | with_reducible assumption | assumption) (by rfl) ?_ | refine xcba (by first | with_reducible assumption | assumption) ?_)) | refine xrgs (hs := by simp (disch := omega) only [go_sem, Nat.reduceEqDiff, Nat.reduceAdd, Nat.reduceLT, Nat.reduceMul, Nat.reduceLeDiff, reduceCtorEq, Int.reduceNeg, Int.reduceToNat, we1, we2, we3, we4, we5, we6, we7, we8, we9, we10, we11]; rfl) ?_ | (refine xcbg1 (hx := by simp (disch := omega) only [go_sem, Nat.reduceEqDiff, Nat.reduceAdd, Nat.reduceLT, Nat.reduceMul, Nat.reduceLeDiff, reduceCtorEq, Int.reduceNeg, Int.reduceToNat, we1, we2, we3, we4, we5, we6, we7, we8, we9, we10, we11]; rfl) ?_; (first | refine xcbf (by first | with_reducible assumption | assumption) (by rfl) ?_ | refine xcba (by first | with_reducible assumption | assumption) ?_)) | refine xdr ?_ | refine xctp ?_ | refine xcFp ?_ | refine xcto ?_ | refine xcfo ?_ | (refine xrt (hr := by simp (disch := omega) only [go_sem, Nat.reduceEqDiff, Nat.reduceAdd, Nat.reduceLT, Nat.reduceMul, Nat.reduceLeDiff, reduceCtorEq, Int.reduceNeg, Int.reduceToNat, we1, we2, we3, we4, we5, we6, we7, we8, we9, we10, we11]; rfl) ?_; exact hr.symm)))) : p := f
end
end Go.Proofs.YtgimaioeifnajaaGreatDoorK.AI
