/-
 Joined: Ev, EvR.
-/
import Derived.Test.YtoiepmpggabglaaGreatDoorKAc
import Derived.ChangeKeysEq
set_option linter.all false
set_option maxHeartbeats 4000000
/-
 The abstract interpreter, part 21: closed calls are run (evF): what comes out is the call's contract.
-/
namespace Go.Proofs.YtoiepmpggabglaaGreatDoorK.AI
open Go.RowKit

/-! values are told out, so that no work piles up -/
section
variable {α : Type}
def frcN (n : Nat) (k : Nat → α) : α := match n with | 0 => k 0 | m + 1 => k (m + 1)
def frcI (n : Int) (k : Int → α) : α := match n with | .ofNat m => frcN m fun m => k (.ofNat m) | .negSucc m => frcN m fun m => k (.negSucc m)
def frcB (b : Bool) (k : Bool → α) : α := match b with | true => k true | false => k false
def frcL {β : Type} (l : List β) (k : List β → α) : α := match l with | [] => k [] | x :: l => frcL l fun l => k (x :: l)
def frcS (s : ByteArray) (k : ByteArray → α) : α := match s with | ⟨⟨l⟩⟩ => frcL l fun l => k ⟨⟨l⟩⟩
def frc1 (d : D) (k : D → α) : α := match d with
 | .bool b => frcB b fun b => k (.bool b)
 | .int q n => frcI n fun n => k (.int q n)
 | .str s => frcS s fun s => k (.str s)
 | .ptr b v o => frcN b fun b => frcN v fun v => frcN o fun o => k (.ptr b v o)
 | .own b v o n => frcN b fun b => frcN v fun v => frcN o fun o => frcN n fun n => k (.own b v o n)
 | .sl n cs => frcN n fun n => frcL cs fun cs => k (.sl n cs)
 | .rp cs => frcL cs fun cs => k (.rp cs)
 | .agg cs => frcL cs fun cs => k (.agg cs)
 | .tup cs => frcL cs fun cs => k (.tup cs)
 | .un => k .un
 | .null => k .null
 | .nils => k .nils
 | .nilm => k .nilm
 | .fn f cs => frcN f fun f => frcL cs fun cs => k (.fn f cs)
 | .mp kvs => frcL kvs fun kvs => k (.mp kvs)
 | .mo b v => frcN b fun b => frcN v fun v => k (.mo b v)
 | .mf kvs => frcL kvs fun kvs => k (.mf kvs)
def frcLD (l : List D) (k : List D → α) : α := match l with | [] => k [] | x :: l => frc1 x fun x => frcLD l fun l => k (x :: l)
def frcD (d : D) (k : D → α) : α := match d with
 | .agg cs => frcLD cs fun cs => k (.agg cs)
 | .tup cs => frcLD cs fun cs => k (.tup cs)
 | d => frc1 d k
def frcBlk (b : Blk) (k : Blk → α) : α := match b with
 | none => k none
 | some (v, t, s, cs) => frcN v fun v => frcN t fun t => frcN s fun s => frcLD cs fun cs => k (some (v, t, s, cs))
def frcW (l : List (Nat × Blk)) (k : List (Nat × Blk) → α) : α := match l with
 | [] => k []
 | (b, x) :: l => frcN b fun b => frcBlk x fun x => frcW l fun l => k ((b, x) :: l)
/-! what was told out before is not told out again -/
def frc0 (d : D) (k : D → α) : α := match d with
 | .un => k .un
 | .null => k .null
 | .nils => k .nils
 | .bool b => k (.bool b)
 | .int q n => k (.int q n)
 | .str s => k (.str s)
 | .agg cs => k (.agg cs)
 | .tup cs => k (.tup cs)
 | .sl n cs => k (.sl n cs)
 | .rp cs => k (.rp cs)
 | .own b v o n => k (.own b v o n)
 | .ptr b v o => k (.ptr b v o)
 | .nilm => k .nilm
 | .fn f cs => k (.fn f cs)
 | .mp kvs => k (.mp kvs)
 | .mo b v => k (.mo b v)
 | .mf kvs => k (.mf kvs)
def frcL0 (l : List D) (k : List D → α) : α := match l with | [] => k [] | x :: l => frc0 x fun x => frcL0 l fun l => k (x :: l)
def frcH (d : D) (k : D → α) : α := match d with
 | .agg cs => frcL0 cs fun cs => k (.agg cs)
 | .tup cs => frcL0 cs fun cs => k (.tup cs)
 | d => frc0 d k
def frcW0 (l : List (Nat × Blk)) (k : List (Nat × Blk) → α) : α := match l with
 | [] => k []
 | (b, x) :: l => frcN b fun b => match x with
  | none => frcW0 l fun l => k ((b, none) :: l)
  | some (v, t, s, cs) => frcN v fun v => frcL0 cs fun cs => frcW0 l fun l => k ((b, some (v, t, s, cs)) :: l)
def frcQ (b : Bool) (d : D) (k : D → α) : α := match b with | true => frcH d k | false => frcD d k
def frcV (b : Bool) (l : List (Nat × Blk)) (k : List (Nat × Blk) → α) : α := match b with | true => frcW0 l k | false => frcW l k
theorem frcN_eq (n : Nat) (k : Nat → α) : frcN n k = k n := by cases n <;> rfl
theorem frcI_eq (n : Int) (k : Int → α) : frcI n k = k n := by cases n <;> simp only [frcI, frcN_eq]
theorem frcB_eq (n : Bool) (k : Bool → α) : frcB n k = k n := by cases n <;> rfl
theorem frcL_eq {β : Type} : ∀ (l : List β) (k : List β → α), frcL l k = k l
 | [], _ => rfl
 | x :: l, k => by rw [frcL, frcL_eq l]
theorem frcS_eq (s : ByteArray) (k : ByteArray → α) : frcS s k = k s := by
 obtain ⟨⟨l⟩⟩ := s
 simp only [frcS, frcL_eq]
theorem frc1_eq (d : D) (k : D → α) : frc1 d k = k d := by cases d <;> simp only [frc1, frcB_eq, frcI_eq, frcS_eq, frcN_eq, frcL_eq]
theorem frcLD_eq : ∀ (l : List D) (k : List D → α), frcLD l k = k l
 | [], _ => rfl
 | x :: l, k => by rw [frcLD, frc1_eq, frcLD_eq l]
theorem frcD_eq (d : D) (k : D → α) : frcD d k = k d := by cases d <;> simp only [frcD, frcLD_eq, frc1_eq]
theorem frcBlk_eq (b : Blk) (k : Blk → α) : frcBlk b k = k b := by
 cases b with
 | none => rfl
 | some x => obtain ⟨v, t, s, cs⟩ := x; simp only [frcBlk, frcN_eq, frcLD_eq]
theorem frcW_eq : ∀ (l : List (Nat × Blk)) (k : List (Nat × Blk) → α), frcW l k = k l
 | [], _ => rfl
 | (b, x) :: l, k => by rw [frcW, frcN_eq, frcBlk_eq, frcW_eq l]
theorem frc0_eq (d : D) (k : D → α) : frc0 d k = k d := by cases d <;> rfl
theorem frcL0_eq : ∀ (l : List D) (k : List D → α), frcL0 l k = k l
 | [], _ => rfl
 | x :: l, k => by rw [frcL0, frc0_eq, frcL0_eq l]
theorem frcH_eq (d : D) (k : D → α) : frcH d k = k d := by cases d <;> simp only [frcH, frcL0_eq, frc0_eq]
theorem frcW0_eq : ∀ (l : List (Nat × Blk)) (k : List (Nat × Blk) → α), frcW0 l k = k l
 | [], _ => rfl
 | (b, none) :: l, k => by simp only [frcW0, frcN_eq, frcW0_eq l]
 | (b, some (v, t, s, cs)) :: l, k => by simp only [frcW0, frcN_eq, frcL0_eq, frcW0_eq l]
theorem frcQ_eq (b : Bool) (d : D) (k : D → α) : frcQ b d k = k d := by cases b <;> simp only [frcQ, frcH_eq, frcD_eq]
theorem frcV_eq (b : Bool) (l : List (Nat × Blk)) (k : List (Nat × Blk) → α) : frcV b l k = k l := by cases b <;> simp only [frcV, frcW0_eq, frcW_eq]
end

/-! own rows told for the last time -/
def goE (f : D → Option (D × List Nat)) : List D → Option (List D × List Nat)
 | [] => some ([], [])
 | d :: l => match f d with
  | some p => match goE f l with
   | some q => some (p.1 :: q.1, p.2 ++ q.2)
   | none => none
  | none => none
def resLE (f : D → Option (D × List Nat)) (cs : List D) : Option (List D × List Nat) := if cs.all D.imm then some (cs, []) else goE f cs
def resE (H : Nat → Blk) : Nat → D → Option (D × List Nat)
 | 0, _ => none
 | k + 1, d => match d with
  | .own b ver off n => match H b with
   | some (v, _, sz, cs) => if v = ver ∧ off * sz + n * sz ≤ cs.length then (resLE (resE H k) ((cs.drop (off * sz)).take (n * sz))).map fun p => (.sl n p.1, b :: p.2) else none
   | none => none
  | .ptr b ver off => match H b with
   | some (v, _, _, cs) => if v = ver then (resLE (resE H k) (cs.drop off)).map fun p => (.rp p.1, b :: p.2) else none
   | none => none
  | .nils => some (.sl 0 [], [])
  | .agg cs => (resLE (resE H k) cs).map fun p => (.agg p.1, p.2)
  | .tup cs => (resLE (resE H k) cs).map fun p => (.tup p.1, p.2)
  | .fn f cs => (resLE (resE H k) cs).map fun p => (.fn f p.1, p.2)
  | .mo b ver => match H b with
   | some (v, _, _, [.mp kvs]) => if v = ver then (resLE (resE H k) kvs).map fun p => (.mf p.1, b :: p.2) else none
   | _ => none
  | d => some (d, [])
theorem goE_eq {H : Nat → Blk} {k : Nat} (h : ∀ d, resE H k d = resD H k d) : ∀ cs, goE (resE H k) cs = resD.go H k cs
 | [] => by rw [goE, go_nil]
 | d :: l => by
  rw [goE, go_cons, h, goE_eq h l]
  cases resD H k d with
  | none => rfl
  | some p => cases resD.go H k l <;> rfl
theorem resLE_eq {H : Nat → Blk} {k : Nat} (h : ∀ d, resE H k d = resD H k d) (cs : List D) : resLE (resE H k) cs = resD.resL H k cs := by
 rw [resLE, resL_eq, goE_eq h]
theorem resE_eq {H : Nat → Blk} : ∀ (k : Nat) (d : D), resE H k d = resD H k d
 | 0, d => by simp [resE, resD]
 | k + 1, d => by
  have h := resLE_eq (resE_eq (H := H) k)
  cases d with
  | own b v o n =>
   simp only [resE, resD, h]
   cases H b <;> rfl
  | ptr b v o =>
   simp only [resE, resD, h]
   cases H b <;> rfl
  | agg cs => simp only [resE, resD, h]
  | tup cs => simp only [resE, resD, h]
  | fn f cs => simp only [resE, resD, h]
  | mo b v =>
   simp only [resE, resD, h]
   rfl
  | _ => simp only [resE, resD]
def resArgsE (H : Nat → Blk) (env : Nat → D) : List Opd → Option (List D × List Nat)
 | [] => some ([], [])
 | x :: l => match resE H 6 (getO env x) with
  | some p => match resArgsE H env l with
   | some q => some (p.1 :: q.1, p.2 ++ q.2)
   | none => none
  | none => none
theorem resArgsE_eq {H : Nat → Blk} {env : Nat → D} : ∀ l, resArgsE H env l = resArgs H env l
 | [] => rfl
 | x :: l => by
  rw [resArgsE, resArgs, resE_eq, resArgsE_eq l]
  cases resD H 6 (getO env x) with
  | none => rfl
  | some p => cases resArgs H env l <;> rfl

/-! operations -/
def beqB : List UInt8 → List UInt8 → Bool
 | [], [] => true
 | x :: l, y :: m => Nat.beq x.toNat y.toNat && beqB l m
 | _, _ => false
theorem beqB_eq : ∀ l m, beqB l m = (l == m)
 | [], [] => rfl
 | [], y :: m => rfl
 | x :: l, [] => rfl
 | x :: l, y :: m => by
  rw [beqB, beqB_eq l m, List.cons_beq_cons]
  congr 1
  rw [Bool.eq_iff_iff, Nat.beq_eq, beq_iff_eq]
  exact ⟨fun h => UInt8.toNat_inj.1 h, fun h => by rw [h]⟩
def strBinE (op : BinOp) (x y : ByteArray) : Option D :=
 match op with
 | .add => if ((x.size + y.size : Nat) : Int) > IntKind.i64.max then none else some (.str ⟨⟨x.data.toList ++ y.data.toList⟩⟩)
 | .eql => some (.bool (beqB x.data.toList y.data.toList))
 | .neq => some (.bool !(beqB x.data.toList y.data.toList))
 | .lss => some (.bool (Op.bytesLess x.data.toList y.data.toList))
 | .leq => some (.bool (Op.bytesLess x.data.toList y.data.toList || beqB x.data.toList y.data.toList))
 | .gtr => some (.bool !(Op.bytesLess x.data.toList y.data.toList || beqB x.data.toList y.data.toList))
 | .geq => some (.bool !(Op.bytesLess x.data.toList y.data.toList))
 | _ => none
theorem ba_mk (l : List UInt8) (x : ByteArray) (h : x.data.toList = l) : (⟨⟨l⟩⟩ : ByteArray) = x := by
 subst h; rfl
theorem strBinE_eq (op : BinOp) (x y : ByteArray) : strBinE op x y = strBin op x y := by
 cases op <;> simp only [strBinE, strBin, beqB_eq, ByteArray.toList_eq]
 rw [ba_mk _ (x ++ y) (by simp [ByteArray.data_append])]
/-! maps -/
def eqKE : D → D → Option Bool
 | .str a, .str b => some (beqB a.data.toList b.data.toList)
 | d, e => eqK d e
theorem beqB_ba (a b : ByteArray) : beqB a.data.toList b.data.toList = (a == b) := by
 obtain ⟨⟨l⟩⟩ := a
 obtain ⟨⟨m⟩⟩ := b
 rw [beqB_eq]
 show (l == m) = (l.toArray == m.toArray)
 simp
theorem eqKE_eq (d e : D) : eqKE d e = eqK d e := by
 unfold eqKE
 split
 ·rw [beqB_ba]; rfl
 ·rfl
def findE (k : D) : List D → Option (Option Nat)
 | [] => some none
 | k' :: l => match l with
  | _ :: l => match eqKE k k' with
   | some true => some (some 0)
   | some false => match findE k l with
    | some (some i) => some (some (i + 1))
    | some none => some none
    | none => none
   | none => none
  | [] => none
theorem findE_eq (k : D) : ∀ l, findE k l = findD k l
 | [] => rfl
 | [_] => rfl
 | k' :: x :: l => by
  simp only [findE, findD, eqKE_eq, findE_eq k l]
  cases eqK k k' with
  | none => rfl
  | some b =>
   cases b with
   | true => rfl
   | false =>
    cases findD k l with
    | none => rfl
    | some r => cases r <;> rfl
def lookE (k : D) (kvs : List D) : Option (Option D) := match findE k kvs with
 | some none => some none
 | some (some i) => match kvs[2 * i + 1]? with
  | some d => some (some d)
  | none => none
 | none => none
theorem lookE_eq (k : D) (kvs : List D) : lookE k kvs = lookD k kvs := by
 unfold lookE lookD
 rw [findE_eq]
 cases findD k kvs with
 | none => rfl
 | some r =>
  cases r with
  | none => rfl
  | some i => simp only [Option.bind_some]; cases kvs[2 * i + 1]? <;> rfl
def putME (k x : D) (kvs : List D) : Option (List D) := match findE k kvs with
 | some none => some (kvs ++ [k, x])
 | some (some i) => some ((kvs.set (2 * i) k).set (2 * i + 1) x)
 | none => none
theorem putME_eq (k x : D) (kvs : List D) : putME k x kvs = putM k x kvs := by
 unfold putME putM
 rw [findE_eq]
 cases findD k kvs with
 | none => rfl
 | some r => cases r <;> rfl
def eq1E (k : Nat) (d e : D) : Option Bool := match d, e with
 | .str a, .str b => match Nat.beq k 2 with
  | true => some (beqB a.data.toList b.data.toList)
  | false => none
 | d, e => eq1 k d e
theorem eq1E_eq (k : Nat) (d e : D) : eq1E k d e = eq1 k d e := by
 unfold eq1E
 split
 ·rename_i a b
  cases hk : Nat.beq k 2 with
  | true =>
   have := Nat.eq_of_beq_eq_true hk
   subst this
   rw [beqB_ba]; rfl
  | false =>
   have := Nat.ne_of_beq_eq_false hk
   match k, this with
   | 0, _ => rfl
   | 1, _ => rfl
   | k + 3, _ => rfl
 ·rfl
def eqAtE : List (Nat × Nat) → List D → List D → Option Bool
 | [], _, _ => some true
 | (o, k) :: os, l, m => match l[o]?, m[o]? with
  | some a, some b => match eq1E k a b with
   | some r => match eqAtE os l m with
    | some s => some (r && s)
    | none => none
   | none => none
  | _, _ => none
theorem eqAtE_eq : ∀ (os : List (Nat × Nat)) (l m : List D), eqAtE os l m = eqAt os l m
 | [], _, _ => rfl
 | (o, k) :: os, l, m => by
  rw [eqAtE, eqAt, eqAtE_eq os l m]
  simp only [eq1E_eq]
  cases l[o]? with
  | none => rfl
  | some a =>
   cases m[o]? with
   | none => rfl
   | some b =>
    simp only
    cases eq1 k a b with
    | none => rfl
    | some r => simp only; cases eqAt os l m <;> rfl
def s_mv (env : Nat → D) (H : Nat → Blk) (nk : Nat) (x : Opd) : Option Eff := some (getO env x, [], [])
def s_pick (env : Nat → D) (H : Nat → Blk) (nk : Nat) (c : Opd) (a : Opd) (b : Opd) : Option Eff := match getO env c with
 | .bool t => some (if t then getO env a else getO env b, [], [])
 | _ => none
def s_new (env : Nat → D) (H : Nat → Blk) (nk : Nat) (t : Nat) (sz : Nat) (z : List D) : Option Eff := some (.ptr nk 0 0, [(nk, some (0, t, sz, z))], [])
def s_box (env : Nat → D) (H : Nat → Blk) (nk : Nat) (t : Nat) (sz : Nat) (x : Opd) : Option Eff := if (getO env x).cells.length = sz ∧ (getO env x).boxable = true then some (.ptr nk 0 0, [(nk, some (0, t, sz, (getO env x).cells))], []) else none
def s_build (env : Nat → D) (H : Nat → Blk) (nk : Nat) (z : List D) (parts : List (Nat × Nat × Opd)) : Option Eff := (fillD env z parts).map fun cs => (.agg cs, [], [])
def s_lit (env : Nat → D) (H : Nat → Blk) (nk : Nat) (t : Nat) (sz : Nat) (n : Nat) (z : List D) (parts : List (Nat × Nat × Opd)) : Option Eff := (fillD env z parts).map fun cs => (.own nk 0 0 n, [(nk, some (0, t, sz, cs))], [])
def s_load (env : Nat → D) (H : Nat → Blk) (nk : Nat) (ag : Bool) (sz : Nat) (x : Opd) : Option Eff := match getO env x with
 | .ptr b ver off => match H b with
  | some (v, _, _, cs) => if v = ver then (if ag then (if off + sz ≤ cs.length then some (.agg ((cs.drop off).take sz), [], [b]) else none) else (cs[off]?).map fun d => (d, [], [b])) else none
  | none => none
 | .rp cs => if ag then (if sz ≤ cs.length then some (.agg (cs.take sz), [], []) else none) else (cs[0]?).map fun d => (d, [], [])
 | _ => none
def s_store (env : Nat → D) (H : Nat → Blk) (nk : Nat) (sz : Nat) (x : Opd) (y : Opd) : Option Eff := match getO env x with
 | .ptr b ver off => match H b with
  | some (v, t, s, cs) => if v = ver ∧ (getO env y).cells.length = sz ∧ off + sz ≤ cs.length ∧ (getO env y).cells.all D.one then some (.un, [(b, some (v, t, s, putD cs off (getO env y).cells))], [b]) else none
  | none => none
 | _ => none
def s_faddr (env : Nat → D) (H : Nat → Blk) (nk : Nat) (off : Nat) (x : Opd) : Option Eff := match getO env x with
 | .ptr b ver o => some (.ptr b ver (o + off), [], [])
 | .rp cs => some (.rp (cs.drop off), [], [])
 | _ => none
def s_fld (env : Nat → D) (H : Nat → Blk) (nk : Nat) (ag : Bool) (off : Nat) (sz : Nat) (x : Opd) : Option Eff := match getO env x with
 | .agg cs => if ag then (if off + sz ≤ cs.length then some (.agg ((cs.drop off).take sz), [], []) else none) else (cs[off]?).map fun d => (d, [], [])
 | _ => none
def s_iaddrS (env : Nat → D) (H : Nat → Blk) (nk : Nat) (sz : Nat) (x : Opd) (i : Opd) : Option Eff := match getO env x, getO env i with
 | .own b ver off n, .int _ k => match H b with
  | some (v, _, s, _) => if v = ver ∧ s = sz ∧ 0 ≤ k ∧ k < n then some (.ptr b ver ((off + k.toNat) * sz), [], [b]) else none
  | none => none
 | .sl n cs, .int _ k => if 0 ≤ k ∧ k < n ∧ k.toNat * sz < cs.length then some (.rp ((cs.drop (k.toNat * sz)).take sz), [], []) else none
 | _, _ => none
def s_iaddrA (env : Nat → D) (H : Nat → Blk) (nk : Nat) (len : Nat) (sz : Nat) (x : Opd) (i : Opd) : Option Eff := match getO env x, getO env i with
 | .ptr b ver off, .int _ k => if 0 ≤ k ∧ k < len then some (.ptr b ver (off + k.toNat * sz), [], []) else none
 | .rp cs, .int _ k => if 0 ≤ k ∧ k < len then some (.rp (cs.drop (k.toNat * sz)), [], []) else none
 | _, _ => none
def s_idxs (env : Nat → D) (H : Nat → Blk) (nk : Nat) (x : Opd) (i : Opd) : Option Eff := match getO env x, getO env i with
 | .str s, .int _ k => if 0 ≤ k ∧ k < s.size then some (.int .u8 (bt s k.toNat), [], []) else none
 | _, _ => none
def s_bin (env : Nat → D) (H : Nat → Blk) (nk : Nat) (op : BinOp) (x : Opd) (y : Opd) : Option Eff := match getO env x, getO env y with
 | .str a, .str b => match strBinE op a b with
  | some d => some (d, [], [])
  | none => none
 | d, d' => match binD op d d' with
  | some d => some (d, [], [])
  | none => none
def s_beq (env : Nat → D) (H : Nat → Blk) (nk : Nat) (ne : Bool) (x : Opd) (y : Opd) : Option Eff := match getO env x, getO env y with
 | .bool a, .bool b => some (.bool (if ne then !(a == b) else a == b), [], [])
 | _, _ => none
def s_neg (env : Nat → D) (H : Nat → Blk) (nk : Nat) (x : Opd) : Option Eff := match getO env x with
 | .int k n => some (.int k (k.wrap (0 - n)), [], [])
 | _ => none
def s_not (env : Nat → D) (H : Nat → Blk) (nk : Nat) (x : Opd) : Option Eff := match getO env x with
 | .bool b => some (.bool !b, [], [])
 | _ => none
def s_conv (env : Nat → D) (H : Nat → Blk) (nk : Nat) (k : IntKind) (x : Opd) : Option Eff := match getO env x with
 | .int _ n => some (.int k (k.wrap n), [], [])
 | _ => none
def s_slcS (env : Nat → D) (H : Nat → Blk) (nk : Nat) (x : Opd) (lo : Option Opd) (hi : Option Opd) : Option Eff := match getO env x with
 | .str s => match boundO env s.size hi with
  | some h => match boundO env 0 lo with
   | some l => if 0 ≤ l ∧ l ≤ h ∧ h ≤ s.size then some (.str ⟨⟨(s.data.toList.drop l.toNat).take (h.toNat - l.toNat)⟩⟩, [], []) else none
   | none => none
  | none => none
 | _ => none
def s_slcL (env : Nat → D) (H : Nat → Blk) (nk : Nat) (sz : Nat) (x : Opd) (lo : Option Opd) (hi : Option Opd) : Option Eff := match getO env x with
 | .own b ver off n => (match H b with | some (v, _, s, _) => if v = ver ∧ s = sz then some () else none | none => none).bind fun _ => (boundO env n hi).bind fun h => (boundO env 0 lo).bind fun l => if 0 ≤ l ∧ l ≤ h ∧ h ≤ n then some (.own b ver (off + l.toNat) (h - l).toNat, [], [b]) else none
 | .sl n cs => (boundO env n hi).bind fun h => (boundO env 0 lo).bind fun l => if 0 ≤ l ∧ l ≤ h ∧ h ≤ n then some (.sl (h - l).toNat ((cs.drop (l.toNat * sz)).take ((h - l).toNat * sz)), [], []) else none
 | .nils => (boundO env 0 hi).bind fun h => (boundO env 0 lo).bind fun l => if l = 0 ∧ h = 0 then some (.nils, [], []) else none
 | _ => none
def s_make (env : Nat → D) (H : Nat → Blk) (nk : Nat) (t : Nat) (sz : Nat) (bytes : Nat) (z : List D) (n : Opd) : Option Eff := match getO env n with
 | .int .i64 k => if 0 ≤ k ∧ k ≤ 4611686018427387904 ∧ k.toNat * bytes ≤ 281474976710656 then some (.own nk 0 0 k.toNat, [(nk, some (0, t, sz, repD z k.toNat))], []) else none
 | _ => none
def s_app (env : Nat → D) (H : Nat → Blk) (nk : Nat) (t : Nat) (sz : Nat) (bytes : Nat) (s : Opd) (x : Opd) : Option Eff := match rowD H sz (getO env x) with
 | some (m, ds, rs) => match getO env s with
  | .nils => if m ≤ 4611686018427387904 ∧ m * bytes ≤ 140737488355328 ∧ ds.all D.one then some (.own nk 0 0 m, [(nk, some (0, t, sz, ds))], rs) else none
  | .own b ver 0 n => match H b with
   | some (v, t', s', cs) => if v = ver ∧ t' = t ∧ s' = sz ∧ cs.length = n * sz ∧ n + m ≤ 4611686018427387904 ∧ (n + m) * bytes ≤ 140737488355328 ∧ ds.all D.one ∧ rs.all (· != b) then some (.own b (ver + 1) 0 (n + m), [(b, some (ver + 1, t, sz, cs ++ ds))], b :: rs) else if v = ver ∧ t' = t ∧ s' = sz ∧ n = 0 ∧ m ≤ 4611686018427387904 ∧ m * bytes ≤ 140737488355328 ∧ ds.all D.one ∧ rs.all (· != b) then some (.own b (ver + 1) 0 m, [(b, some (ver + 1, t, sz, ds))], b :: rs) else none
   | none => none
  | _ => none
 | none => none
def s_appZ (env : Nat → D) (H : Nat → Blk) (nk : Nat) (t : Nat) (sz : Nat) (bytes : Nat) (s : Opd) (x : Opd) : Option Eff := match getO env s, getO env x with
 | .nils, .int _ k => if 0 < k ∧ k ≤ 4611686018427387904 ∧ k.toNat * bytes ≤ 281474976710656 then some (.own nk 0 0 k.toNat, [(nk, some (0, t, sz, []))], []) else none
 | _, _ => none
def s_lenS (env : Nat → D) (H : Nat → Blk) (nk : Nat) (x : Opd) : Option Eff := match getO env x with
 | .str s => some (.int .i64 s.size, [], [])
 | _ => none
def s_lenL (env : Nat → D) (H : Nat → Blk) (nk : Nat) (x : Opd) : Option Eff := match getO env x with
 | .sl n _ => some (.int .i64 n, [], [])
 | .own _ _ _ n => some (.int .i64 n, [], [])
 | .nils => some (.int .i64 0, [], [])
 | _ => none
def s_capL (env : Nat → D) (H : Nat → Blk) (nk : Nat) (x : Opd) : Option Eff := match getO env x with
 | .nils => some (.int .i64 0, [], [])
 | _ => none
def s_mx (env : Nat → D) (H : Nat → Blk) (nk : Nat) (x : Opd) (y : Opd) : Option Eff := match getO env x, getO env y with
 | .int k a, .int _ b => some (.int k (if b > a then b else a), [], [])
 | _, _ => none
def s_mn (env : Nat → D) (H : Nat → Blk) (nk : Nat) (x : Opd) (y : Opd) : Option Eff := match getO env x, getO env y with
 | .int k a, .int _ b => some (.int k (if b < a then b else a), [], [])
 | _, _ => none
def s_ext (env : Nat → D) (H : Nat → Blk) (nk : Nat) (x : Opd) (i : Nat) : Option Eff := match getO env x with
 | .tup vs => (vs[i]?).map fun d => (d, [], [])
 | _ => none
def s_nilck (env : Nat → D) (H : Nat → Blk) (nk : Nat) (x : Opd) : Option Eff := match getO env x with
 | .ptr b ver o => some (.ptr b ver o, [], [])
 | .rp cs => some (.rp cs, [], [])
 | _ => none
def s_bstr (env : Nat → D) (H : Nat → Blk) (nk : Nat) (x : Opd) : Option Eff := match rowD H 1 (getO env x) with
 | some (_, ds, rs) => match byD ds with
  | some l => some (.str ⟨⟨l⟩⟩, [], rs)
  | none => none
 | none => none
def s_idxA (env : Nat → D) (H : Nat → Blk) (nk : Nat) (len : Nat) (sz : Nat) (ag : Bool) (x : Opd) (i : Opd) : Option Eff := match getO env x, getO env i with
 | .agg cs, .int _ k => if 0 ≤ k ∧ k < len then (if ag then (if k.toNat * sz + sz ≤ cs.length then some (.agg ((cs.drop (k.toNat * sz)).take sz), [], []) else none) else (cs[k.toNat * sz]?).map fun d => (d, [], [])) else none
 | _, _ => none
def s_slcA (env : Nat → D) (H : Nat → Blk) (nk : Nat) (n : Nat) (sz : Nat) (x : Opd) : Option Eff := match getO env x with
 | .ptr b ver off => match H b with
  | some (v, _, _, cs) => if v = ver ∧ off + n * sz ≤ cs.length ∧ ((cs.drop off).take (n * sz)).all D.frozen then some (.sl n ((cs.drop off).take (n * sz)), [(b, none)], [b]) else none
  | none => none
 | .rp cs => if n * sz ≤ cs.length then some (.sl n (cs.take (n * sz)), [], []) else none
 | _ => none
def s_aeq (env : Nat → D) (H : Nat → Blk) (nk : Nat) (n : Nat) (ne : Bool) (x : Opd) (y : Opd) : Option Eff := match getO env x, getO env y with
 | .agg l, .agg m => if l.length = n then (eqInts l m).map fun r => (.bool (if ne then !r else r), [], []) else none
 | _, _ => none
def s_isnil (env : Nat → D) (H : Nat → Blk) (nk : Nat) (ne : Bool) (k : Nat) (x : Opd) : Option Eff := (nilD k (getO env x)).map fun r => (.bool (if ne then !r else r), [], [])
def s_seq (env : Nat → D) (H : Nat → Blk) (nk : Nat) (os : List (Nat × Nat)) (ne : Bool) (x : Opd) (y : Opd) : Option Eff := match getO env x, getO env y with
 | .agg l, .agg m => match eqAtE os l m with
  | some r => some (.bool (if ne then !r else r), [], [])
  | none => none
 | _, _ => none
def s_mkmap (env : Nat → D) (H : Nat → Blk) (nk : Nat) (t : TypeId) : Option Eff := some (.mo nk 0, [(nk, some (0, t, 0, [.mp []]))], [])
def s_look (env : Nat → D) (H : Nat → Blk) (nk : Nat) (kn : Option Nat) (ok : Bool) (z : D) (x : Opd) (k : Opd) : Option Eff := match (getO env k).key kn with
 | true => match getO env x with
  | .mo b ver => match H b with
   | some (v, _, _, [.mp kvs]) => if v = ver then (match lookE (getO env k) kvs with | some r => some (foundD ok z r, [], [b]) | none => none) else none
   | _ => none
  | .mf kvs => match lookE (getO env k) kvs with
   | some r => some (foundD ok z r, [], [])
   | none => none
  | .nilm => some (foundD ok z none, [], [])
  | _ => none
 | false => none
def s_mput (env : Nat → D) (H : Nat → Blk) (nk : Nat) (kn : Option Nat) (x : Opd) (k : Opd) (y : Opd) : Option Eff := match getO env x with
 | .mo b ver => match H b with
  | some (v, t, s, [.mp kvs]) => if v = ver ∧ (getO env k).key kn = true ∧ (getO env y).boxable = true then (match putME (getO env k) (getO env y) kvs with | some kvs => some (.un, [(b, some (v, t, s, [.mp kvs]))], [b]) | none => none) else none
  | _ => none
 | _ => none
def s_mkfn (env : Nat → D) (H : Nat → Blk) (nk : Nat) (f : FuncId) (cs : List Opd) : Option Eff := some (.fn f (cs.map (getO env)), [], [])
def stepE (env : Nat → D) (H : Nat → Blk) (nk : Nat) : IOp → Option Eff
 | .mv x => s_mv env H nk x
 | .pick c a b => s_pick env H nk c a b
 | .new t sz z => s_new env H nk t sz z
 | .box t sz x => s_box env H nk t sz x
 | .build z parts => s_build env H nk z parts
 | .lit t sz n z parts => s_lit env H nk t sz n z parts
 | .load ag sz x => s_load env H nk ag sz x
 | .store sz x y => s_store env H nk sz x y
 | .faddr off x => s_faddr env H nk off x
 | .fld ag off sz x => s_fld env H nk ag off sz x
 | .iaddrS sz x i => s_iaddrS env H nk sz x i
 | .iaddrA len sz x i => s_iaddrA env H nk len sz x i
 | .idxs x i => s_idxs env H nk x i
 | .bin op x y => s_bin env H nk op x y
 | .beq ne x y => s_beq env H nk ne x y
 | .neg x => s_neg env H nk x
 | .not x => s_not env H nk x
 | .conv k x => s_conv env H nk k x
 | .slcS x lo hi => s_slcS env H nk x lo hi
 | .slcL sz x lo hi => s_slcL env H nk sz x lo hi
 | .make t sz bytes z n => s_make env H nk t sz bytes z n
 | .app t sz bytes s x => s_app env H nk t sz bytes s x
 | .appZ t sz bytes s x => s_appZ env H nk t sz bytes s x
 | .lenS x => s_lenS env H nk x
 | .lenL x => s_lenL env H nk x
 | .capL x => s_capL env H nk x
 | .mx x y => s_mx env H nk x y
 | .mn x y => s_mn env H nk x y
 | .ext x i => s_ext env H nk x i
 | .nilck x => s_nilck env H nk x
 | .bstr x => s_bstr env H nk x
 | .idxA len sz ag x i => s_idxA env H nk len sz ag x i
 | .slcA n sz x => s_slcA env H nk n sz x
 | .aeq n ne x y => s_aeq env H nk n ne x y
 | .isnil ne k x => s_isnil env H nk ne k x
 | .seq os ne x y => s_seq env H nk os ne x y
 | .mkmap t => s_mkmap env H nk t
 | .look kn ok z x k => s_look env H nk kn ok z x k
 | .mput kn x k y => s_mput env H nk kn x k y
 | .mkfn f cs => s_mkfn env H nk f cs
 | .call .. => none
 | .dcall .. => none
theorem stepE_eq (env : Nat → D) (H : Nat → Blk) (nk : Nat) (op : IOp) : stepE env H nk op = stepF env H nk op := by
 cases op <;> try rfl
 case bin op x y =>
  simp only [stepE, s_bin, stepF]
  split
  ·rename_i a b h1 h2
   rw [h1, h2, strBinE_eq]
   simp only [binD]
   cases strBin op a b <;> rfl
  ·cases binD op (getO env x) (getO env y) <;> rfl
 case slcS x lo hi =>
  simp only [stepE, s_slcS, stepF]
  cases getO env x <;> try rfl
  rename_i s
  simp only
  cases h2 : boundO env (↑s.size) hi with
  | none => rfl
  | some h =>
   cases h3 : boundO env 0 lo with
   | none => rfl
   | some l =>
    simp only [Option.bind_some]
    split
    ·rename_i hc
     rw [ba_mk _ (s.extract l.toNat h.toNat) (by rw [ByteArray.data_extract, Array.toList_extract, List.extract_eq_take_drop])]
    ·rfl
 case seq os ne x y =>
  have e : ∀ (l m : List D), (match eqAt os l m with | some r => some ((.bool (if ne then !r else r), [], []) : Eff) | none => none) = (eqAt os l m).map fun r => ((.bool (if ne then !r else r), [], []) : Eff) := fun l m => by
   cases eqAt os l m <;> rfl
  simp only [stepE, s_seq, stepF, eqAtE_eq, e]
  rfl
 case look kn ok z x k =>
  have e : ∀ (kvs : List D) (g : Option D → Eff), (match lookE (getO env k) kvs with | some r => some (g r) | none => none) = (lookD (getO env k) kvs).map g := fun kvs g => by
   rw [lookE_eq]; cases lookD (getO env k) kvs <;> rfl
  simp only [stepE, s_look, stepF, e]
  cases (getO env k).key kn <;> rfl
 case mput kn x k y =>
  have e : ∀ (kvs : List D) (g : List D → Eff), (match putME (getO env k) (getO env y) kvs with | some r => some (g r) | none => none) = (putM (getO env k) (getO env y) kvs).map g := fun kvs g => by
   rw [putME_eq]; cases putM (getO env k) (getO env y) kvs <;> rfl
  simp only [stepE, s_mput, stepF, e]
  rfl

/-! which own blocks are named -/
def kbB (k : Nat) : D → Bool
 | .own b _ _ _ => Nat.blt b k
 | .ptr b _ _ => Nat.blt b k
 | .agg cs => go k cs
 | .tup cs => go k cs
 | .fn _ cs => go k cs
 | .mo b _ => Nat.blt b k
 | .mp kvs => go k kvs
 | _ => true
 where go (k : Nat) : List D → Bool
 | [] => true
 | d :: l => match kbB k d with
  | true => go k l
  | false => false
theorem blt_ok {a b : Nat} (h : Nat.blt a b = true) : a < b := by
 unfold Nat.blt at h
 exact Nat.le_of_ble_eq_true h
mutual
theorem kbB_ok {k : Nat} : ∀ d, kbB k d = true → kb k d
 | .own b _ _ _, h => by simp only [kbB] at h; simp only [kb]; exact blt_ok h
 | .ptr b _ _, h => by simp only [kbB] at h; simp only [kb]; exact blt_ok h
 | .mo b _, h => by simp only [kbB] at h; simp only [kb]; exact blt_ok h
 | .agg cs, h => by simp only [kbB] at h; simp only [kb]; exact kbL_ok cs h
 | .tup cs, h => by simp only [kbB] at h; simp only [kb]; exact kbL_ok cs h
 | .fn _ cs, h => by simp only [kbB] at h; simp only [kb]; exact kbL_ok cs h
 | .mp cs, h => by simp only [kbB] at h; simp only [kb]; exact kbL_ok cs h
 | .un, _ | .null, _ | .nils, _ | .nilm, _ | .bool _, _ | .int _ _, _ | .str _, _ | .sl _ _, _ | .rp _, _ | .mf _, _ => by simp only [kb]
theorem kbL_ok {k : Nat} : ∀ l, kbB.go k l = true → kb.kbs k l
 | [], _ => by simp only [kb.kbs]
 | d :: l, h => by
  simp only [kbB.go] at h
  split at h
  ·rename_i h1
   simp only [kb.kbs]
   exact ⟨kbB_ok d h1, kbL_ok l h⟩
  ·cases h
end
mutual
theorem kb_mono {k m : Nat} (hkm : k ≤ m) : ∀ d, kb k d → kb m d
 | .own b _ _ _, h => by simp only [kb] at h ⊢; omega
 | .ptr b _ _, h => by simp only [kb] at h ⊢; omega
 | .mo b _, h => by simp only [kb] at h ⊢; omega
 | .agg cs, h => by simp only [kb] at h ⊢; exact kbs_mono hkm cs h
 | .tup cs, h => by simp only [kb] at h ⊢; exact kbs_mono hkm cs h
 | .fn _ cs, h => by simp only [kb] at h ⊢; exact kbs_mono hkm cs h
 | .mp cs, h => by simp only [kb] at h ⊢; exact kbs_mono hkm cs h
 | .un, _ | .null, _ | .nils, _ | .nilm, _ | .bool _, _ | .int _ _, _ | .str _, _ | .sl _ _, _ | .rp _, _ | .mf _, _ => by simp only [kb]
theorem kbs_mono {k m : Nat} (hkm : k ≤ m) : ∀ l, kb.kbs k l → kb.kbs m l
 | [], _ => by simp only [kb.kbs]
 | d :: l, h => by simp only [kb.kbs] at h ⊢; exact ⟨kb_mono hkm d h.1, kbs_mono hkm l h.2⟩
end
theorem kbH_mono {k m : Nat} (hkm : k ≤ m) : ∀ h : List Blk, kbH k h → kbH m h
 | [], _ => trivial
 | none :: l, hh => kbH_mono hkm l hh
 | some (v, t, s, cs) :: l, hh => ⟨kbs_mono hkm cs hh.1, kbH_mono hkm l hh.2⟩
def kbHB (k : Nat) : List Blk → Bool
 | [] => true
 | none :: l => kbHB k l
 | some (_, _, _, cs) :: l => match cs.all D.imm with
  | true => kbHB k l
  | false => match kbB.go k cs with
   | true => kbHB k l
   | false => false
theorem kbHB_ok {k : Nat} : ∀ h, kbHB k h = true → kbH k h
 | [], _ => trivial
 | none :: l, h => kbHB_ok l h
 | some (_, _, _, cs) :: l, h => by
  simp only [kbHB] at h
  split at h
  ·rename_i h1; exact ⟨kbs_of_imm h1, kbHB_ok l h⟩
  ·split at h
   ·rename_i h1; exact ⟨kbL_ok cs h1, kbHB_ok l h⟩
   ·cases h
theorem kbs_all {k : Nat} : ∀ {l : List D}, kb.kbs k l → ∀ d ∈ l, kb k d
 | [], _, d, hd => by simp at hd
 | x :: l, h, d, hd => by
  simp only [kb.kbs] at h
  rcases List.mem_cons.1 hd with rfl | hd
  ·exact h.1
  ·exact kbs_all h.2 d hd

/-! calls -/
abbrev Hnd := Bool → FuncId → List D → List Blk → Option (D × List Blk)
structure Gen (P : Program) (G : World → Prop) (f : FuncId) (xs : List D) (h : List Blk) (r : D) (h' : List Blk) : Prop where
 pcg : PCg P G f xs h r h'
 kr : kb h'.length r
 kh' : kbH h'.length h'
 len : h.length ≤ h'.length
structure HndOk (P : Program) (G : World → Prop) (hnd : Hnd) : Prop where
 pcr : ∀ f xs r h', hnd false f xs [] = some (r, h') → PCr P G f xs r
 gen : ∀ f xs h r h', hnd true f xs h = some (r, h') → Gen P G f xs h r h'
def pos (b : Nat) : List Nat → Nat → Option Nat
 | [], _ => none
 | k :: l, i => match Nat.beq k b with
  | true => some i
  | false => pos b l (i + 1)
theorem pos_ok {b : Nat} : ∀ {l : List Nat} {i j : Nat}, pos b l i = some j → ∃ n, j = i + n ∧ l[n]? = some b
 | [], i, j, h => by simp [pos] at h
 | k :: l, i, j, h => by
  simp only [pos] at h
  split at h
  ·rename_i hk
   cases h
   exact ⟨0, rfl, by rw [Nat.eq_of_beq_eq_true hk]; rfl⟩
  ·obtain ⟨n, h1, h2⟩ := pos_ok h
   exact ⟨n + 1, by omega, h2⟩
def inD (κ : List Nat) : D → Option D
 | .own b v o n => match pos b κ 0 with
  | some i => some (.own i v o n)
  | none => none
 | .ptr b v o => match pos b κ 0 with
  | some i => some (.ptr i v o)
  | none => none
 | .mo b v => match pos b κ 0 with
  | some i => some (.mo i v)
  | none => none
 | .agg cs => match go κ cs with
  | some cs => some (.agg cs)
  | none => none
 | .tup cs => match go κ cs with
  | some cs => some (.tup cs)
  | none => none
 | .fn f cs => match go κ cs with
  | some cs => some (.fn f cs)
  | none => none
 | .mp cs => match go κ cs with
  | some cs => some (.mp cs)
  | none => none
 | .un => some .un
 | .null => some .null
 | .nils => some .nils
 | .nilm => some .nilm
 | .bool b => some (.bool b)
 | .int k n => some (.int k n)
 | .str s => some (.str s)
 | .sl n cs => some (.sl n cs)
 | .rp cs => some (.rp cs)
 | .mf kvs => some (.mf kvs)
 where go (κ : List Nat) : List D → Option (List D)
 | [] => some []
 | d :: l => match inD κ d with
  | some d => match go κ l with
   | some l => some (d :: l)
   | none => none
  | none => none
theorem pos_ren {κ m : List Nat} {b i : Nat} (h : pos b κ 0 = some i) : (κ ++ m).getD i 0 = b ∧ i < κ.length := by
 obtain ⟨n, h1, h2⟩ := pos_ok h
 have h3 : i < κ.length := by have := (List.getElem?_eq_some_iff.1 h2).1; omega
 refine ⟨?_, h3⟩
 rw [List.getD_eq_getElem?_getD, List.getElem?_append_left h3, show i = n by omega, h2]; rfl
mutual
theorem inD_ok {κ m : List Nat} : ∀ (d d' : D), inD κ d = some d' → d'.ren (κ ++ m) = d ∧ kb κ.length d'
 | .own b v o n, d', h => by
  simp only [inD] at h
  split at h
  ·rename_i i hi
   cases h
   obtain ⟨h1, h2⟩ := pos_ren (m := m) hi
   simp only [D.ren, kb, h1, h2, and_self]
  ·cases h
 | .ptr b v o, d', h => by
  simp only [inD] at h
  split at h
  ·rename_i i hi
   cases h
   obtain ⟨h1, h2⟩ := pos_ren (m := m) hi
   simp only [D.ren, kb, h1, h2, and_self]
  ·cases h
 | .mo b v, d', h => by
  simp only [inD] at h
  split at h
  ·rename_i i hi
   cases h
   obtain ⟨h1, h2⟩ := pos_ren (m := m) hi
   simp only [D.ren, kb, h1, h2, and_self]
  ·cases h
 | .agg cs, d', h => by
  simp only [inD] at h
  split at h
  ·rename_i cs' hc
   cases h
   obtain ⟨h1, h2⟩ := inL_ok (m := m) cs cs' hc
   simp only [D.ren, kb, h1, h2, and_self]
  ·cases h
 | .tup cs, d', h => by
  simp only [inD] at h
  split at h
  ·rename_i cs' hc
   cases h
   obtain ⟨h1, h2⟩ := inL_ok (m := m) cs cs' hc
   simp only [D.ren, kb, h1, h2, and_self]
  ·cases h
 | .fn f cs, d', h => by
  simp only [inD] at h
  split at h
  ·rename_i cs' hc
   cases h
   obtain ⟨h1, h2⟩ := inL_ok (m := m) cs cs' hc
   simp only [D.ren, kb, h1, h2, and_self]
  ·cases h
 | .mp cs, d', h => by
  simp only [inD] at h
  split at h
  ·rename_i cs' hc
   cases h
   obtain ⟨h1, h2⟩ := inL_ok (m := m) cs cs' hc
   simp only [D.ren, kb, h1, h2, and_self]
  ·cases h
 | .un, d', h | .null, d', h | .nils, d', h | .nilm, d', h | .bool _, d', h | .int _ _, d', h | .str _, d', h | .sl _ _, d', h | .rp _, d', h | .mf _, d', h => by
  simp only [inD, Option.some.injEq] at h
  subst h
  simp only [D.ren, kb, and_self]
theorem inL_ok {κ m : List Nat} : ∀ (l l' : List D), inD.go κ l = some l' → D.ren.rens (κ ++ m) l' = l ∧ kb.kbs κ.length l'
 | [], l', h => by
  simp only [inD.go, Option.some.injEq] at h
  subst h
  simp only [D.ren.rens, kb.kbs, and_self]
 | d :: l, l', h => by
  simp only [inD.go] at h
  split at h
  ·rename_i d1 h1
   split at h
   ·rename_i l1 h2
    cases h
    obtain ⟨p1, p2⟩ := inD_ok (m := m) d d1 h1
    obtain ⟨q1, q2⟩ := inL_ok (m := m) l l1 h2
    simp only [D.ren.rens, kb.kbs, p1, p2, q1, q2, and_self]
   ·cases h
  ·cases h
end
def inB (κ : List Nat) (b : Blk) : Option Blk := match b with
 | none => some none
 | some (v, t, s, cs) => match cs.all D.imm with
  | true => some b
  | false => match inD.go κ cs with
   | some cs => some (some (v, t, s, cs))
   | none => none
def inH (κ : List Nat) : List Blk → Option (List Blk)
 | [] => some []
 | b :: l => match inB κ b with
  | some b => match inH κ l with
   | some l => some (b :: l)
   | none => none
  | none => none
theorem inB_ok {κ m : List Nat} {b b' : Blk} (e : inB κ b = some b') : renB (κ ++ m) b' = b ∧ ∀ l, kbH κ.length l → kbH κ.length (b' :: l) := by
 unfold inB at e
 split at e
 ·cases e; exact ⟨rfl, fun l hl => hl⟩
 ·rename_i v t s cs
  split at e
  ·rename_i hi
   cases e
   exact ⟨by simp only [renB, map_imm hi], fun l hl => ⟨kbs_of_imm hi, hl⟩⟩
  ·split at e
   ·rename_i cs' hc
    cases e
    obtain ⟨p1, p2⟩ := inL_ok (m := m) cs cs' hc
    refine ⟨?_, fun l hl => ⟨p2, hl⟩⟩
    simp only [renB]
    rw [← rens_map, p1]
   ·cases e
theorem inH_ok {κ m : List Nat} : ∀ (h h' : List Blk), inH κ h = some h' → h'.map (renB (κ ++ m)) = h ∧ kbH κ.length h' ∧ h'.length = h.length
 | [], h', e => by cases e; exact ⟨rfl, trivial, rfl⟩
 | b :: l, h', e => by
  simp only [inH] at e
  split at e
  ·rename_i b' hb
   split at e
   ·rename_i l' hl
    cases e
    obtain ⟨h1, h2, h3⟩ := inH_ok (m := m) l l' hl
    obtain ⟨p1, p2⟩ := inB_ok (m := m) hb
    exact ⟨by rw [List.map_cons, h1, p1], p2 _ h2, by simp [h3]⟩
   ·cases e
  ·cases e
def renBE (κ : List Nat) (b : Blk) : Blk := match b with
 | none => none
 | some (v, t, s, cs) => match cs.all D.imm with
  | true => b
  | false => some (v, t, s, cs.map (D.ren κ))
theorem renBE_eq (κ : List Nat) (b : Blk) : renBE κ b = renB κ b := by
 unfold renBE
 split
 ·rfl
 ·rename_i v t s cs
  split
  ·rename_i hi; simp only [renB, map_imm hi]
  ·rfl
def keysD : D → List Nat → List Nat
 | .own b _ _ _, acc => b :: acc
 | .ptr b _ _, acc => b :: acc
 | .mo b _, acc => b :: acc
 | .agg cs, acc => go cs acc
 | .tup cs, acc => go cs acc
 | .fn _ cs, acc => go cs acc
 | .mp cs, acc => go cs acc
 | _, acc => acc
 where go : List D → List Nat → List Nat
 | [], acc => acc
 | d :: l, acc => keysD d (go l acc)
def elemN (b : Nat) : List Nat → Bool
 | [] => false
 | k :: l => match Nat.beq k b with
  | true => true
  | false => elemN b l
theorem elemN_ok {b : Nat} : ∀ {l : List Nat}, elemN b l = false → b ∉ l
 | [], _ => by simp
 | k :: l, h => by
  simp only [elemN] at h
  split at h
  ·cases h
  ·rename_i hk
   have := elemN_ok h
   have hne := Nat.ne_of_beq_eq_false hk
   simp only [List.mem_cons, not_or]
   exact ⟨fun e => hne e.symm, this⟩
def closeK (heap : List Blk) : Nat → List Nat → List Nat → List Nat
 | 0, _, acc => acc
 | _ + 1, [], acc => acc
 | n + 1, k :: l, acc => frcN k fun k => match elemN k acc with
  | true => closeK heap n l acc
  | false => match hv heap k with
   | some (_, _, _, cs) => match cs.all D.imm with
    | true => closeK heap n l (k :: acc)
    | false => closeK heap n (keysD.go cs l) (k :: acc)
   | none => closeK heap n l (k :: acc)
def nodupN : List Nat → Bool
 | [] => true
 | k :: l => match elemN k l with
  | true => false
  | false => nodupN l
theorem nodupN_ok : ∀ {l : List Nat}, nodupN l = true → l.Nodup
 | [], _ => List.nodup_nil
 | k :: l, h => by
  simp only [nodupN] at h
  split at h
  ·cases h
  ·rename_i hk
   exact List.nodup_cons.2 ⟨elemN_ok hk, nodupN_ok h⟩
def allLt (n : Nat) : List Nat → Bool
 | [] => true
 | k :: l => match Nat.blt k n with
  | true => allLt n l
  | false => false
theorem allLt_ok {n : Nat} : ∀ {l : List Nat}, allLt n l = true → ∀ b ∈ l, b < n
 | [], _, b, hb => by simp at hb
 | k :: l, h, b, hb => by
  simp only [allLt] at h
  split at h
  ·rename_i hk
   rcases List.mem_cons.1 hb with rfl | hb
   ·exact blt_ok hk
   ·exact allLt_ok h b hb
  ·cases h
def frc2 {α : Type} (d : D) (k : D → α) : α := match d with
 | .ptr b v o => frcN b fun b => k (.ptr b v o)
 | .own b v o n => frcN b fun b => k (.own b v o n)
 | .mo b v => frcN b fun b => k (.mo b v)
 | .agg cs => frcL cs fun cs => k (.agg cs)
 | .tup cs => frcL cs fun cs => k (.tup cs)
 | .mp cs => frcL cs fun cs => k (.mp cs)
 | d => frc0 d k
theorem frc2_eq {α : Type} (d : D) (k : D → α) : frc2 d k = k d := by cases d <;> simp only [frc2, frcN_eq, frcL_eq, frc0_eq]
def frcL2 {α : Type} (l : List D) (k : List D → α) : α := match l with
 | [] => k []
 | x :: l => frc2 x fun x => frcL2 l fun l => k (x :: l)
theorem frcL2_eq {α : Type} : ∀ (l : List D) (k : List D → α), frcL2 l k = k l
 | [], _ => rfl
 | x :: l, k => by rw [frcL2, frc2_eq, frcL2_eq l]
def frcB2 {α : Type} (b : Blk) (k : Blk → α) : α := match b with
 | none => k none
 | some (v, t, s, cs) => match cs.all D.imm with
  | true => k (some (v, t, s, cs))
  | false => frcL2 cs fun cs => k (some (v, t, s, cs))
theorem frcB2_eq {α : Type} (b : Blk) (k : Blk → α) : frcB2 b k = k b := by
 cases b with
 | none => rfl
 | some x =>
  obtain ⟨v, t, s, cs⟩ := x
  simp only [frcB2, frcL2_eq]
  cases cs.all D.imm <;> rfl
def frcW2 {α : Type} (l : List (Nat × Blk)) (k : List (Nat × Blk) → α) : α := match l with
 | [] => k []
 | (b, x) :: l => frcN b fun b => frcB2 x fun x => frcW2 l fun l => k ((b, x) :: l)
theorem frcW2_eq {α : Type} : ∀ (l : List (Nat × Blk)) (k : List (Nat × Blk) → α), frcW2 l k = k l
 | [], _ => rfl
 | (b, x) :: l, k => by rw [frcW2, frcN_eq, frcB2_eq, frcW2_eq l]
def frcHp {α : Type} (h : List Blk) (k : List Blk → α) : α := match h with
 | [] => k []
 | x :: l => frcB2 x fun x => frcHp l fun l => k (x :: l)
theorem frcHp_eq {α : Type} : ∀ (h : List Blk) (k : List Blk → α), frcHp h k = k h
 | [], _ => rfl
 | x :: l, k => by rw [frcHp, frcB2_eq, frcHp_eq l]
def callI (hnd : Hnd) (f : FuncId) (xs : List D) (heap : List Blk) : Option (D × List Blk × List Nat × List Nat) :=
 frcL (closeK heap 100000 (keysD.go xs []) []) fun κ0 => match nodupN κ0, allLt heap.length κ0 with
  | true, true => match inD.go κ0 xs, inH κ0 (κ0.map (hv heap)) with
   | some xs', some h => frcL2 xs' fun xs' => frcHp h fun h => match hnd true f xs' h with
    | some (r, h') => frcL (κ0 ++ List.range' heap.length (h'.length - κ0.length)) fun κ => frcW2 (κ.zip (h'.map (renBE κ))) fun ws => frcD (r.ren κ) fun r => frcL (setH heap ws) fun h => some (r, h, ws.map (·.1), κ0)
    | none => none
   | _, _ => none
  | _, _ => none
def callX (hnd : Hnd) (md : Nat) (f : FuncId) (args : List Opd) (env : Nat → D) (heap : List Blk) : Option (D × List Blk × List Nat × List Nat) := match md with
 | 0 => match resArgsE (hv heap) env args with
  | some p => match hnd false f p.1 [] with
   | some (r, _) => match r.flat with
    | true => some (r, heap, [], p.2)
    | false => frcL (setH heap (p.2.map fun b => (b, none))) fun h => some (r, h, (p.2.map fun b => ((b, none) : Nat × Blk)).map (·.1), p.2)
   | none => none
  | none => none
 | _ => frcLD (args.map (getO env)) fun xs => callI hnd f xs heap
section
variable {P : Program} {G : World → Prop} {hnd : Hnd}
theorem callX_ok (hh : HndOk P G hnd) {md : Nat} {f : FuncId} {args : List Opd} {env : Nat → D} {heap : List Blk} {d : D} {h' : List Blk} {ws rs : List Nat} (h : callX hnd md f args env heap = some (d, h', ws, rs)) {k : Eff → Prop}
  (hk : ∀ e : Eff, e.1 = d → setH heap e.2.1 = h' → e.2.1.map (·.1) = ws → e.2.2 = rs → k e) : aCall P G env (hv heap) heap.length f args k := by
 unfold callX at h
 split at h
 ·rw [resArgsE_eq] at h
  split at h
  ·rename_i p hp
   split at h
   ·rename_i r h1 hr
    have hp' := hh.pcr _ _ _ _ hr
    left
    rw [hp]
    split at h
    ·rename_i hf
     cases h
     exact ⟨_, false, hp', .inr hf, hk _ rfl rfl rfl rfl⟩
    ·rw [frcL_eq] at h
     cases h
     exact ⟨_, true, hp', .inl rfl, hk _ rfl rfl rfl rfl⟩
   ·cases h
  ·cases h
 ·rw [frcLD_eq] at h
  unfold callI at h
  rw [frcL_eq] at h
  obtain ⟨κ0, hκ⟩ : ∃ κ0, closeK heap 100000 (keysD.go (args.map (getO env)) []) [] = κ0 := ⟨_, rfl⟩
  rw [hκ] at h
  split at h
  ·rename_i hn hlt
   have hn := nodupN_ok hn
   have hlt := allLt_ok hlt
   split at h
   ·rename_i xs' h0 hx hh0
    simp only [frcL2_eq, frcHp_eq] at h
    split at h
    ·rename_i r h1 hr
     rw [show (renBE : List Nat → Blk → Blk) = renB from funext fun κ => funext fun b => renBE_eq κ b] at h
     simp only [frcL_eq, frcW2_eq, frcD_eq, Option.some.injEq, Prod.mk.injEq] at h
     obtain ⟨ha, hb, hc, hrs⟩ := h
     subst ha hb hc
     have g := hh.gen _ _ _ _ _ hr
     obtain ⟨κ, hκ'⟩ : ∃ κ, κ0 ++ List.range' heap.length (h1.length - κ0.length) = κ := ⟨_, rfl⟩
     have hx1 := inL_ok (m := List.range' heap.length (h1.length - κ0.length)) _ _ hx
     have hh1 := inH_ok (m := List.range' heap.length (h1.length - κ0.length)) _ _ hh0
     rw [hκ'] at hx1 hh1
     have e0 : h0.length = κ0.length := by rw [hh1.2.2, List.length_map]
     have e1 : κ.length = h1.length := by rw [← hκ', List.length_append, List.length_range']; have := g.len; omega
     have e2 : κ.take h0.length = κ0 := by rw [← hκ', e0, List.take_left]
     have e3 : κ.drop h0.length = List.range' heap.length (h1.length - κ0.length) := by rw [← hκ', e0, List.drop_left]
     rw [hκ'] at hk
     refine .inr ⟨κ, xs', h0, r, h1, ⟨?_, ?_, ⟨?_, by rw [e1]; exact g.len, e1.symm, ?_, fun i hi => ?_, fun b hb => ?_⟩, g.pcg⟩, hk _ rfl rfl rfl (by simp only [e2]; exact hrs)⟩
     ·rw [← rens_map]; exact hx1.1.symm
     ·intro x hxm
      exact kb_mono (by rw [e1, ← e0]; exact g.len) x (kbs_all hx1.2 x hxm)
     ·rw [← hκ', List.nodup_append]
      refine ⟨hn, List.nodup_range', fun a ha b hb => ?_⟩
      have h1 := hlt a ha
      rw [List.mem_range'_1] at hb
      omega
     ·exact kbH_mono (by rw [e1, ← e0]; exact g.len) _ hh1.2.1
     ·have hi0 : i < κ0.length := by omega
      have h2 := congrArg (fun l => l[i]?) hh1.1
      simp only [List.getElem?_map, List.getElem?_eq_getElem hi, List.getElem?_eq_getElem hi0, Option.map_some, Option.some.injEq] at h2
      have h3 : κ.getD i 0 = κ0[i] := by rw [← hκ', List.getD_eq_getElem?_getD, List.getElem?_append_left hi0, List.getElem?_eq_getElem hi0]; rfl
      rw [h3, ← h2]
      unfold hv
      rw [List.getD_eq_getElem?_getD, List.getElem?_eq_getElem hi]; rfl
     ·rw [e3] at hb ⊢
      rw [List.mem_range'_1] at hb ⊢
      omega
    ·cases h
   ·cases h
  ·cases h
theorem callX_len {md : Nat} {f : FuncId} {args : List Opd} {env : Nat → D} {heap : List Blk} {d : D} {h' : List Blk} {ws rs : List Nat} (h : callX hnd md f args env heap = some (d, h', ws, rs)) : heap.length ≤ h'.length := by
 unfold callX at h
 split at h
 ·split at h
  ·split at h
   ·split at h
    ·cases h; exact Nat.le_refl _
    ·rw [frcL_eq] at h; cases h; exact setH_len _ _
   ·cases h
  ·cases h
 ·rw [frcLD_eq] at h
  unfold callI at h
  rw [frcL_eq] at h
  split at h
  ·split at h
   ·simp only [frcL2_eq, frcHp_eq] at h
    split at h
    ·simp only [frcL_eq, frcW2_eq, frcD_eq] at h
     cases h; exact setH_len _ _
    ·cases h
   ·cases h
  ·cases h
end

/-! code -/
inductive ET where
 | e
 | n (l : ET) (d : D) (r : ET)
structure ES where
 env : ET
 heap : List Blk
def lk : ET → Nat → D
 | .e, _ => .tup []
 | .n l d r, t => match t with
  | 0 => d
  | t + 1 => match Nat.beq (Nat.mod t 2) 0 with
   | true => lk l (Nat.div t 2)
   | false => lk r (Nat.div t 2)
def ES.st (s : ES) : St := ⟨lk s.env, s.heap⟩
def setE : ET → Nat → D → Option ET
 | .e, _, _ => none
 | .n l x r, t, d => match t with
  | 0 => some (.n l d r)
  | t + 1 => match Nat.beq (Nat.mod t 2) 0 with
   | true => match setE l (Nat.div t 2) d with
    | some l => some (.n l x r)
    | none => none
   | false => match setE r (Nat.div t 2) d with
    | some r => some (.n l x r)
    | none => none
theorem halves {t u : Nat} (h : Nat.beq (Nat.mod t 2) 0 = Nat.beq (Nat.mod u 2) 0) (h2 : Nat.div t 2 = Nat.div u 2) : t = u := by
 have h2 : t / 2 = u / 2 := h2
 have e : ∀ n : Nat, Nat.beq (Nat.mod n 2) 0 = decide (n % 2 = 0) := fun n => by
  rw [Bool.eq_iff_iff, Nat.beq_eq, decide_eq_true_iff]; rfl
 rw [e, e, decide_eq_decide] at h
 omega
theorem setE_at : ∀ {l : ET} {t : Nat} {d : D} {l' : ET}, setE l t d = some l' → ∀ u, lk l' u = if t = u then d else lk l u
 | .e, t, d, l', h, _ => by simp [setE] at h
 | .n l x r, 0, d, l', h, u => by
  simp only [setE, Option.some.injEq] at h
  subst h
  cases u <;> simp [lk]
 | .n l x r, t + 1, d, l', h, u => by
  simp only [setE] at h
  split at h
  ·rename_i hb
   split at h
   ·rename_i l1 h1
    cases h
    have ih := setE_at h1
    cases u with
    | zero => simp [lk]
    | succ u =>
     simp only [lk, Nat.add_right_cancel_iff]
     cases hu : Nat.beq (Nat.mod u 2) 0 with
     | true =>
      simp only [ih]
      by_cases e : Nat.div t 2 = Nat.div u 2
      ·rw [if_pos e, if_pos (halves (hb.trans hu.symm) e)]
      ·rw [if_neg e, if_neg (fun h => e (by rw [h]))]
     | false =>
      simp only
      rw [if_neg (fun h => by rw [h, hu] at hb; cases hb)]
   ·cases h
  ·rename_i hb
   split at h
   ·rename_i l1 h1
    cases h
    have ih := setE_at h1
    cases u with
    | zero => simp [lk]
    | succ u =>
     simp only [lk, Nat.add_right_cancel_iff]
     cases hu : Nat.beq (Nat.mod u 2) 0 with
     | false =>
      simp only [ih]
      by_cases e : Nat.div t 2 = Nat.div u 2
      ·rw [if_pos e, if_pos (halves (hb.trans hu.symm) e)]
      ·rw [if_neg e, if_neg (fun h => e (by rw [h]))]
     | true =>
      simp only
      rw [if_neg (fun h => by rw [h, hu] at hb; cases hb)]
   ·cases h
theorem setE_lk {l : ET} {t : Nat} {d : D} {l' : ET} (h : setE l t d = some l') : lk l' = putE (lk l) (some t) d := by
 funext u
 rw [setE_at h]
 simp only [putE, Option.some.injEq]
def setO (l : ET) (dst : Option Nat) (d : D) : Option ET := match dst with
 | none => some l
 | some t => setE l t d
theorem setO_lk {l : ET} {dst : Option Nat} {d : D} {l' : ET} (h : setO l dst d = some l') : lk l' = putE (lk l) dst d := by
 cases dst with
 | none => cases h; exact putE_none.symm
 | some t => exact setE_lk h
def postX (b : Bool) (heap : List Blk) : Option Eff → Option (D × List Blk × List Nat × List Nat)
 | some (d, ws, rs) => frcQ b d fun d => frcV b ws fun ws => match ws with
  | [] => some (d, heap, [], rs)
  | ws => frcL (setH heap ws) fun h => some (d, h, ws.map (·.1), rs)
 | none => none
theorem postX_ok {b : Bool} {heap : List Blk} {o : Option Eff} {d : D} {h' : List Blk} {ws rs : List Nat} (h : postX b heap o = some (d, h', ws, rs)) : ∃ e : Eff, o = some e ∧ e.1 = d ∧ setH heap e.2.1 = h' ∧ e.2.1.map (·.1) = ws ∧ e.2.2 = rs := by
 cases o with
 | none => cases h
 | some e =>
  obtain ⟨d1, ws1, rs1⟩ := e
  simp only [postX, frcQ_eq, frcV_eq, frcL_eq] at h
  split at h
  ·cases h; exact ⟨_, rfl, rfl, rfl, rfl, rfl⟩
  ·cases h; exact ⟨_, rfl, rfl, rfl, rfl, rfl⟩
def lkK {α : Type} : ET → Nat → (D → α) → α
 | .e, _, k => k (.tup [])
 | .n l d r, t, k => match t with
  | 0 => k d
  | t + 1 => match Nat.beq (Nat.mod t 2) 0 with
   | true => lkK l (Nat.div t 2) k
   | false => lkK r (Nat.div t 2) k
theorem lkK_eq {α : Type} : ∀ (l : ET) (t : Nat) (k : D → α), lkK l t k = k (lk l t)
 | .e, _, _ => rfl
 | .n l d r, 0, _ => rfl
 | .n l d r, t + 1, k => by
  simp only [lkK, lk]
  cases Nat.beq (Nat.mod t 2) 0 <;> simp only [lkK_eq]
def kX {α : Type} (env : ET) (x : Opd) (k : D → α) : α := match x with
 | .t n => lkK env n k
 | .c d => k d
theorem kX_eq {α : Type} (env : ET) (x : Opd) (k : D → α) : kX env x k = k (getO (lk env) x) := by
 cases x with
 | t n => exact lkK_eq _ _ _
 | c d => rfl
def nthF (heap : List Blk) : List D → Nat → Option (D × List Blk × List Nat × List Nat)
 | [], _ => none
 | x :: l, i => match i with
  | 0 => some (x, heap, [], [])
  | i + 1 => nthF heap l i
theorem nthF_eq (heap : List Blk) : ∀ (l : List D) (i : Nat), nthF heap l i = (l[i]?).map fun d => (d, heap, [], [])
 | [], _ => rfl
 | x :: l, 0 => rfl
 | x :: l, i + 1 => by rw [nthF, nthF_eq heap l i]; rfl
def extF (d : D) (i : Nat) (heap : List Blk) : Option (D × List Blk × List Nat × List Nat) := match d with
 | .tup vs => nthF heap vs i
 | _ => none
def pickF (d : D) (env : ET) (a b : Opd) (heap : List Blk) : Option (D × List Blk × List Nat × List Nat) := match d with
 | .bool t => match t with
  | true => kX env a fun d => some (d, heap, [], [])
  | false => kX env b fun d => some (d, heap, [], [])
 | _ => none
def byteF (heap : List Blk) : List UInt8 → Nat → Option (D × List Blk × List Nat × List Nat)
 | [], _ => none
 | x :: l, i => match i with
  | 0 => frcN x.toNat fun n => some (.int .u8 (.ofNat n), heap, [], [])
  | i + 1 => byteF heap l i
theorem byteF_eq (heap : List Blk) : ∀ (l : List UInt8) (i : Nat), byteF heap l i = if i < l.length then some (.int .u8 (.ofNat (l.getD i 0).toNat), heap, [], []) else none
 | [], _ => by simp [byteF]
 | x :: l, 0 => by simp [byteF, frcN_eq]
 | x :: l, i + 1 => by
  rw [byteF, byteF_eq heap l i]
  simp only [List.length_cons, Nat.add_lt_add_iff_right, List.getD_cons_succ]
def idxF (d e : D) (heap : List Blk) : Option (D × List Blk × List Nat × List Nat) := match d with
 | .str s => match e with
  | .int _ z => match z with
   | .ofNat k => byteF heap s.data.toList k
   | .negSucc _ => none
  | _ => none
 | _ => none
def lenF (d : D) (heap : List Blk) : Option (D × List Blk × List Nat × List Nat) := match d with
 | .str s => frcN s.size fun n => some (.int .i64 (.ofNat n), heap, [], [])
 | _ => none
def natE (op : BinOp) (k k' : IntKind) (a b : Nat) : Option D := match op with
 | .add => match k with
  | .i64 => match k' with
   | .i64 => match Nat.blt (Nat.add a b) 4611686018427387904 with
    | true => some (.int .i64 (.ofNat (Nat.add a b)))
    | false => binD .add (.int k (.ofNat a)) (.int k' (.ofNat b))
   | _ => binD .add (.int k (.ofNat a)) (.int k' (.ofNat b))
  | _ => binD .add (.int k (.ofNat a)) (.int k' (.ofNat b))
 | .eql => if k = k' then some (.bool (Nat.beq a b)) else none
 | .neq => if k = k' then some (.bool (!Nat.beq a b)) else none
 | .lss => if k = k' then some (.bool (Nat.blt a b)) else none
 | .leq => if k = k' then some (.bool (Nat.ble a b)) else none
 | .gtr => if k = k' then some (.bool (Nat.blt b a)) else none
 | .geq => if k = k' then some (.bool (Nat.ble b a)) else none
 | op => binD op (.int k (.ofNat a)) (.int k' (.ofNat b))
theorem blt_dec (a b : Nat) : Nat.blt a b = decide ((Int.ofNat a) < (Int.ofNat b)) := by
 rw [Bool.eq_iff_iff, decide_eq_true_iff]
 exact ⟨fun h => Int.ofNat_lt.2 (blt_ok h), fun h => Nat.ble_eq_true_of_le (Int.ofNat_lt.1 h)⟩
theorem ble_dec0 (a b : Nat) : Nat.ble a b = decide ((Int.ofNat a) ≤ (Int.ofNat b)) := by
 rw [Bool.eq_iff_iff, decide_eq_true_iff]
 exact ⟨fun h => Int.ofNat_le.2 (Nat.le_of_ble_eq_true h), fun h => Nat.ble_eq_true_of_le (Int.ofNat_le.1 h)⟩
theorem beq_int (a b : Nat) : Nat.beq a b = (Int.ofNat a == Int.ofNat b) := by
 rw [Bool.eq_iff_iff, beq_iff_eq, Nat.beq_eq]
 exact ⟨fun h => by rw [h], fun h => Int.ofNat.inj h⟩
theorem natE_eq (op : BinOp) (k k' : IntKind) (a b : Nat) : natE op k k' a b = binD op (.int k (.ofNat a)) (.int k' (.ofNat b)) := by
 cases op
 case add =>
  simp only [natE]
  split
  ·split
   ·split
    ·rename_i h
     have h := blt_ok h
     have h' : a + b < 4611686018427387904 := h
     simp only [binD, intBin]
     rw [if_neg (by decide), if_pos trivial]
     rw [show (Int.ofNat a + Int.ofNat b : Int) = Int.ofNat (a + b) from rfl, wrap_i64 (x := Int.ofNat (a + b)) ⟨by have := Int.natCast_nonneg (a + b); show (-9223372036854775808 : Int) ≤ ((a + b : Nat) : Int); omega, by show ((a + b : Nat) : Int) ≤ 9223372036854775807; omega⟩]
     rfl
    ·rfl
   ·rfl
  ·rfl
 case eql => simp only [natE, binD, intBin, beq_int]; rfl
 case neq => simp only [natE, binD, intBin, beq_int]; rfl
 case lss => simp only [natE, binD, intBin, blt_dec]; rfl
 case leq => simp only [natE, binD, intBin, ble_dec0]; rfl
 case gtr => simp only [natE, binD, intBin, blt_dec]; rfl
 case geq => simp only [natE, binD, intBin, ble_dec0]; rfl
 all_goals rfl
def binE (op : BinOp) (d e : D) : Option D := match d with
 | .int k x => match e with
  | .int k' y => match x with
   | .ofNat a => match y with
    | .ofNat b => natE op k k' a b
    | .negSucc b => binD op (.int k (.ofNat a)) (.int k' (.negSucc b))
   | .negSucc a => binD op (.int k (.negSucc a)) (.int k' y)
  | _ => none
 | .str a => match e with
  | .str b => strBinE op a b
  | _ => none
 | _ => none
theorem binE_eq (op : BinOp) (d e : D) : binE op d e = binD op d e := by
 unfold binE
 split
 ·split
  ·split
   ·split
    ·exact natE_eq _ _ _ _ _
    ·rfl
   ·rfl
  ·cases e <;> first | rfl | (rename_i h; exact absurd rfl (h _ _))
 ·split
  ·exact strBinE_eq _ _ _
  ·cases e <;> first | rfl | (rename_i h; exact absurd rfl (h _))
 ·cases d <;> first | rfl | (rename_i h _; exact absurd rfl (h _)) | (rename_i h; exact absurd rfl (h _)) | (rename_i h _; exact absurd rfl (h _ _))
def binF (op : BinOp) (d e : D) (heap : List Blk) : Option (D × List Blk × List Nat × List Nat) := match binE op d e with
 | some r => frc1 r fun r => some (r, heap, [], [])
 | none => none
def dcallX (hnd : Hnd) (md : FuncId → Nat) (okf : FuncId → Bool) (x : Opd) (args : List Opd) (env : Nat → D) (heap : List Blk) : Option (D × List Blk × List Nat × List Nat) := match getO env x with
 | .fn f cs => match okf f with
  | true => callX hnd (md f) f (args ++ cs.map .c) env heap
  | false => none
 | _ => none
def x_new (t : Nat) (sz : Nat) (z : List D) (env : ET) (heap : List Blk) : Option (D × List Blk × List Nat × List Nat) := postX false heap (s_new (lk env) (hv heap) heap.length t sz z)
def x_box (t : Nat) (sz : Nat) (x : Opd) (env : ET) (heap : List Blk) : Option (D × List Blk × List Nat × List Nat) := postX true heap (s_box (lk env) (hv heap) heap.length t sz x)
def x_build (z : List D) (parts : List (Nat × Nat × Opd)) (env : ET) (heap : List Blk) : Option (D × List Blk × List Nat × List Nat) := postX false heap (s_build (lk env) (hv heap) heap.length z parts)
def x_lit (t : Nat) (sz : Nat) (n : Nat) (z : List D) (parts : List (Nat × Nat × Opd)) (env : ET) (heap : List Blk) : Option (D × List Blk × List Nat × List Nat) := postX false heap (s_lit (lk env) (hv heap) heap.length t sz n z parts)
def x_load (ag : Bool) (sz : Nat) (x : Opd) (env : ET) (heap : List Blk) : Option (D × List Blk × List Nat × List Nat) := postX true heap (s_load (lk env) (hv heap) heap.length ag sz x)
def x_store (sz : Nat) (x : Opd) (y : Opd) (env : ET) (heap : List Blk) : Option (D × List Blk × List Nat × List Nat) := postX true heap (s_store (lk env) (hv heap) heap.length sz x y)
def x_faddr (off : Nat) (x : Opd) (env : ET) (heap : List Blk) : Option (D × List Blk × List Nat × List Nat) := postX false heap (s_faddr (lk env) (hv heap) heap.length off x)
def x_fld (ag : Bool) (off : Nat) (sz : Nat) (x : Opd) (env : ET) (heap : List Blk) : Option (D × List Blk × List Nat × List Nat) := postX true heap (s_fld (lk env) (hv heap) heap.length ag off sz x)
def x_iaddrS (sz : Nat) (x : Opd) (i : Opd) (env : ET) (heap : List Blk) : Option (D × List Blk × List Nat × List Nat) := postX false heap (s_iaddrS (lk env) (hv heap) heap.length sz x i)
def x_iaddrA (len : Nat) (sz : Nat) (x : Opd) (i : Opd) (env : ET) (heap : List Blk) : Option (D × List Blk × List Nat × List Nat) := postX false heap (s_iaddrA (lk env) (hv heap) heap.length len sz x i)
def x_beq (ne : Bool) (x : Opd) (y : Opd) (env : ET) (heap : List Blk) : Option (D × List Blk × List Nat × List Nat) := postX false heap (s_beq (lk env) (hv heap) heap.length ne x y)
def x_neg (x : Opd) (env : ET) (heap : List Blk) : Option (D × List Blk × List Nat × List Nat) := postX false heap (s_neg (lk env) (hv heap) heap.length x)
def x_not (x : Opd) (env : ET) (heap : List Blk) : Option (D × List Blk × List Nat × List Nat) := postX false heap (s_not (lk env) (hv heap) heap.length x)
def x_conv (k : IntKind) (x : Opd) (env : ET) (heap : List Blk) : Option (D × List Blk × List Nat × List Nat) := postX false heap (s_conv (lk env) (hv heap) heap.length k x)
def x_slcS (x : Opd) (lo : Option Opd) (hi : Option Opd) (env : ET) (heap : List Blk) : Option (D × List Blk × List Nat × List Nat) := postX false heap (s_slcS (lk env) (hv heap) heap.length x lo hi)
def x_slcL (sz : Nat) (x : Opd) (lo : Option Opd) (hi : Option Opd) (env : ET) (heap : List Blk) : Option (D × List Blk × List Nat × List Nat) := postX false heap (s_slcL (lk env) (hv heap) heap.length sz x lo hi)
def x_make (t : Nat) (sz : Nat) (bytes : Nat) (z : List D) (n : Opd) (env : ET) (heap : List Blk) : Option (D × List Blk × List Nat × List Nat) := postX false heap (s_make (lk env) (hv heap) heap.length t sz bytes z n)
def x_app (t : Nat) (sz : Nat) (bytes : Nat) (s : Opd) (x : Opd) (env : ET) (heap : List Blk) : Option (D × List Blk × List Nat × List Nat) := postX false heap (s_app (lk env) (hv heap) heap.length t sz bytes s x)
def x_appZ (t : Nat) (sz : Nat) (bytes : Nat) (s : Opd) (x : Opd) (env : ET) (heap : List Blk) : Option (D × List Blk × List Nat × List Nat) := postX false heap (s_appZ (lk env) (hv heap) heap.length t sz bytes s x)
def x_lenL (x : Opd) (env : ET) (heap : List Blk) : Option (D × List Blk × List Nat × List Nat) := postX false heap (s_lenL (lk env) (hv heap) heap.length x)
def x_capL (x : Opd) (env : ET) (heap : List Blk) : Option (D × List Blk × List Nat × List Nat) := postX false heap (s_capL (lk env) (hv heap) heap.length x)
def x_mx (x : Opd) (y : Opd) (env : ET) (heap : List Blk) : Option (D × List Blk × List Nat × List Nat) := postX false heap (s_mx (lk env) (hv heap) heap.length x y)
def x_mn (x : Opd) (y : Opd) (env : ET) (heap : List Blk) : Option (D × List Blk × List Nat × List Nat) := postX false heap (s_mn (lk env) (hv heap) heap.length x y)
def x_nilck (x : Opd) (env : ET) (heap : List Blk) : Option (D × List Blk × List Nat × List Nat) := postX true heap (s_nilck (lk env) (hv heap) heap.length x)
def x_bstr (x : Opd) (env : ET) (heap : List Blk) : Option (D × List Blk × List Nat × List Nat) := postX false heap (s_bstr (lk env) (hv heap) heap.length x)
def x_idxA (len : Nat) (sz : Nat) (ag : Bool) (x : Opd) (i : Opd) (env : ET) (heap : List Blk) : Option (D × List Blk × List Nat × List Nat) := postX false heap (s_idxA (lk env) (hv heap) heap.length len sz ag x i)
def x_slcA (n : Nat) (sz : Nat) (x : Opd) (env : ET) (heap : List Blk) : Option (D × List Blk × List Nat × List Nat) := postX false heap (s_slcA (lk env) (hv heap) heap.length n sz x)
def x_aeq (n : Nat) (ne : Bool) (x : Opd) (y : Opd) (env : ET) (heap : List Blk) : Option (D × List Blk × List Nat × List Nat) := postX false heap (s_aeq (lk env) (hv heap) heap.length n ne x y)
def x_isnil (ne : Bool) (k : Nat) (x : Opd) (env : ET) (heap : List Blk) : Option (D × List Blk × List Nat × List Nat) := postX true heap (s_isnil (lk env) (hv heap) heap.length ne k x)
def x_seq (os : List (Nat × Nat)) (ne : Bool) (x : Opd) (y : Opd) (env : ET) (heap : List Blk) : Option (D × List Blk × List Nat × List Nat) := postX false heap (s_seq (lk env) (hv heap) heap.length os ne x y)
def x_mkmap (t : TypeId) (env : ET) (heap : List Blk) : Option (D × List Blk × List Nat × List Nat) := postX false heap (s_mkmap (lk env) (hv heap) heap.length t)
def x_look (kn : Option Nat) (ok : Bool) (z : D) (x : Opd) (k : Opd) (env : ET) (heap : List Blk) : Option (D × List Blk × List Nat × List Nat) := postX true heap (s_look (lk env) (hv heap) heap.length kn ok z x k)
def x_mput (kn : Option Nat) (x : Opd) (k : Opd) (y : Opd) (env : ET) (heap : List Blk) : Option (D × List Blk × List Nat × List Nat) := postX true heap (s_mput (lk env) (hv heap) heap.length kn x k y)
def x_mkfn (f : FuncId) (cs : List Opd) (env : ET) (heap : List Blk) : Option (D × List Blk × List Nat × List Nat) := postX false heap (s_mkfn (lk env) (hv heap) heap.length f cs)
def x_mv (x : Opd) (env : ET) (heap : List Blk) : Option (D × List Blk × List Nat × List Nat) := kX env x fun d => some (d, heap, [], [])
def x_pick (c : Opd) (a : Opd) (b : Opd) (env : ET) (heap : List Blk) : Option (D × List Blk × List Nat × List Nat) := kX env c fun d => pickF d env a b heap
def x_idxs (x : Opd) (i : Opd) (env : ET) (heap : List Blk) : Option (D × List Blk × List Nat × List Nat) := kX env x fun d => kX env i fun e => idxF d e heap
def x_bin (op : BinOp) (x : Opd) (y : Opd) (env : ET) (heap : List Blk) : Option (D × List Blk × List Nat × List Nat) := kX env x fun d => kX env y fun e => binF op d e heap
def x_lenS (x : Opd) (env : ET) (heap : List Blk) : Option (D × List Blk × List Nat × List Nat) := kX env x fun d => lenF d heap
def x_ext (x : Opd) (i : Nat) (env : ET) (heap : List Blk) : Option (D × List Blk × List Nat × List Nat) := kX env x fun d => extF d i heap
def x_call (hnd : Hnd) (md : FuncId → Nat) (f : FuncId) (args : List Opd) (env : ET) (heap : List Blk) : Option (D × List Blk × List Nat × List Nat) := callX hnd (md f) f args (lk env) heap
def x_dcall (hnd : Hnd) (md : FuncId → Nat) (okf : FuncId → Bool) (x : Opd) (args : List Opd) (env : ET) (heap : List Blk) : Option (D × List Blk × List Nat × List Nat) := dcallX hnd md okf x args (lk env) heap
def aX (hnd : Hnd) (md : FuncId → Nat) (okf : FuncId → Bool) (op : IOp) : ET → List Blk → Option (D × List Blk × List Nat × List Nat) := IOp.casesOn (motive := fun _ => ET → List Blk → Option (D × List Blk × List Nat × List Nat)) op x_mv x_pick x_new x_box x_build x_lit x_load x_store x_faddr x_fld x_iaddrS x_iaddrA x_idxs x_bin x_beq x_neg x_not x_conv x_slcS x_slcL x_make x_app x_appZ x_lenS x_lenL x_capL x_mx x_mn x_ext x_nilck x_bstr x_idxA x_slcA x_aeq x_isnil x_seq x_mkmap x_look x_mput x_mkfn (x_call hnd md) (x_dcall hnd md okf)
def putX (dst : Option Nat) (tr : Tr) (s : ES) (k : Tr → ES → Option (Tr × ES)) (r : Option (D × List Blk × List Nat × List Nat)) : Option (Tr × ES) := match r with
 | some (d, h, ws, rs) => match setO s.env dst d with
  | some env => k ((ws, rs) :: tr) ⟨env, h⟩
  | none => none
 | none => none
def skipX (dst : Option Nat) (tr : Tr) (s : ES) (k : Tr → ES → Option (Tr × ES)) : Option (Tr × ES) := match setO s.env dst (.tup []) with
 | some env => k (([], []) :: tr) ⟨env, s.heap⟩
 | none => none
def opX (hnd : Hnd) (md : FuncId → Nat) (okf : FuncId → Bool) (o : IOper) (tr : Tr) (s : ES) (k : Tr → ES → Option (Tr × ES)) : Option (Tr × ES) := match wantedI (lk s.env) o.guard with
 | some w => match w with
  | true => putX o.dst tr s k (aX hnd md okf o.op s.env s.heap)
  | false => skipX o.dst tr s k
 | none => none
def evOps (hnd : Hnd) (md : FuncId → Nat) (okf : FuncId → Bool) : List IOper → Tr → ES → Option (Tr × ES)
 | [], tr, s => some (tr, s)
 | o :: l, tr, s => opX hnd md okf o tr s (evOps hnd md okf l)
def iter (f : ES → Option (AEx × ES)) : Nat → ES → Option (AEx × ES)
 | 0, _ => none
 | k + 1, s => match f s with
  | some (.normal, s') => iter f k s'
  | o => o
def ev (hnd : Hnd) (md : FuncId → Nat) (okf : FuncId → Bool) (N : Nat) : IR → ES → Option (AEx × ES)
 | .skip, s => some (.normal, s)
 | .reg false ops _, s => match evOps hnd md okf ops [] s with
  | some (_, s) => some (.normal, s)
  | none => none
 | .reg true ops anc, s => match evOps hnd md okf ops [] s with
  | some (tr, s) => match clear anc tr with
   | true => some (.normal, s)
   | false => none
  | none => none
 | .seq a b, s => match ev hnd md okf N a s with
  | some (.normal, s') => ev hnd md okf N b s'
  | o => o
 | .cond c a b, s => match getO (lk s.env) c with
  | .bool t => match t with
   | true => ev hnd md okf N a s
   | false => ev hnd md okf N b s
  | _ => none
 | .block id a, s => match ev hnd md okf N a s with
  | some (.exit i, s') => match Nat.beq i id with
   | true => some (.normal, s')
   | false => some (.exit i, s')
  | o => o
 | .loop a, s => iter (ev hnd md okf N a) N s
 | .exit id, s => some (.exit id, s)
 | .ret, s => some (.ret, s)
 | .dead, _ => none

section
variable {P : Program} {G : World → Prop} {hnd : Hnd} {md : FuncId → Nat} {okf : FuncId → Bool} {N : Nat}
theorem pure_ok {heap : List Blk} {x d : D} {h' : List Blk} {ws rs : List Nat} {k : Eff → Prop} (h : (some (x, heap, [], []) : Option (D × List Blk × List Nat × List Nat)) = some (d, h', ws, rs)) (hk : ∀ e : Eff, e.1 = d → setH heap e.2.1 = h' → e.2.1.map (·.1) = ws → e.2.2 = rs → k e) : k (x, [], []) := by
 cases h
 exact hk _ rfl rfl rfl rfl
theorem aX_ok (hc : HndOk P G hnd) (ho : ∀ f, okf f = true → okF P f = true) {env : ET} {heap : List Blk} {op : IOp} {d : D} {h' : List Blk} {ws rs : List Nat} (h : aX hnd md okf op env heap = some (d, h', ws, rs)) {k : Eff → Prop}
  (hk : ∀ e : Eff, e.1 = d → setH heap e.2.1 = h' → e.2.1.map (·.1) = ws → e.2.2 = rs → k e) : aOp P G (lk env) (hv heap) heap.length op k := by
 have gen : ∀ (b : Bool) (op : IOp), postX b heap (stepE (lk env) (hv heap) heap.length op) = some (d, h', ws, rs) → kO (stepF (lk env) (hv heap) heap.length op) k := by
  intro b o h
  rw [stepE_eq] at h
  obtain ⟨e, h0, h1, h2, h3, h4⟩ := postX_ok h
  rw [h0]
  exact hk e h1 h2 h3 h4
 cases op with
 | call f args => exact callX_ok hc h hk
 | dcall x args =>
  simp only [aX, x_dcall, dcallX] at h
  split at h
  ·rename_i f cs hx
   split at h
   ·rename_i hf
    exact ⟨f, cs, hx, ho f hf, callX_ok hc h hk⟩
   ·cases h
  ·cases h
 | mv x =>
  simp only [aX, x_mv, kX_eq] at h
  exact pure_ok h hk
 | ext x i =>
  simp only [aX, x_ext, kX_eq, extF] at h
  show kO (stepF _ _ _ _) k
  simp only [stepF]
  split at h
  ·rename_i vs hx
   rw [hx]
   rw [nthF_eq] at h
   simp only
   cases hv1 : vs[i]? with
   | none => rw [hv1] at h; cases h
   | some y => rw [hv1] at h; exact pure_ok h hk
  ·cases h
 | pick c a b =>
  simp only [aX, x_pick, kX_eq, pickF] at h
  show kO (stepF _ _ _ _) k
  simp only [stepF]
  split at h
  ·rename_i t hx
   rw [hx]
   split at h
   ·exact pure_ok h hk
   ·exact pure_ok h hk
  ·cases h
 | idxs x i =>
  simp only [aX, x_idxs, kX_eq, idxF] at h
  show kO (stepF _ _ _ _) k
  simp only [stepF]
  split at h
  ·rename_i s hx
   split at h
   ·rename_i kk z hi
    split at h
    ·rename_i n
     rw [hx, hi]
     rw [byteF_eq] at h
     split at h
     ·rename_i hlt
      have hlt' : n < s.size := hlt
      simp only
      rw [if_pos ⟨Int.natCast_nonneg n, Int.ofNat_lt.2 hlt'⟩]
      have e : bt s (Int.ofNat n).toNat = Int.ofNat (s.data.toList.getD n 0).toNat := by
       show (((s.data.getD n 0).toNat : Nat) : Int) = _
       congr 2
       obtain ⟨⟨l⟩⟩ := s
       simp [Array.getD, List.getD]
       split <;> rename_i hh
       ·rw [List.getElem?_eq_getElem hh]; rfl
       ·exact absurd hlt hh
      rw [e]
      exact pure_ok h hk
     ·cases h
    ·cases h
   ·cases h
  ·cases h
 | lenS x =>
  simp only [aX, x_lenS, kX_eq, lenF, frcN_eq] at h
  show kO (stepF _ _ _ _) k
  simp only [stepF]
  split at h
  ·rename_i s hx
   rw [hx]
   exact pure_ok h hk
  ·cases h
 | bin op x y =>
  simp only [aX, x_bin, kX_eq, binF, frc1_eq, binE_eq] at h
  show kO (stepF _ _ _ _) k
  simp only [stepF]
  split at h
  ·rename_i r hx
   rw [hx]
   exact pure_ok h hk
  ·cases h
 | new t sz z => exact gen false (.new t sz z) h
 | box t sz x => exact gen true (.box t sz x) h
 | build z parts => exact gen false (.build z parts) h
 | lit t sz n z parts => exact gen false (.lit t sz n z parts) h
 | load ag sz x => exact gen true (.load ag sz x) h
 | store sz x y => exact gen true (.store sz x y) h
 | faddr off x => exact gen false (.faddr off x) h
 | fld ag off sz x => exact gen true (.fld ag off sz x) h
 | iaddrS sz x i => exact gen false (.iaddrS sz x i) h
 | iaddrA len sz x i => exact gen false (.iaddrA len sz x i) h
 | beq ne x y => exact gen false (.beq ne x y) h
 | neg x => exact gen false (.neg x) h
 | not x => exact gen false (.not x) h
 | conv k x => exact gen false (.conv k x) h
 | slcS x lo hi => exact gen false (.slcS x lo hi) h
 | slcL sz x lo hi => exact gen false (.slcL sz x lo hi) h
 | make t sz bytes z n => exact gen false (.make t sz bytes z n) h
 | app t sz bytes s x => exact gen false (.app t sz bytes s x) h
 | appZ t sz bytes s x => exact gen false (.appZ t sz bytes s x) h
 | lenL x => exact gen false (.lenL x) h
 | capL x => exact gen false (.capL x) h
 | mx x y => exact gen false (.mx x y) h
 | mn x y => exact gen false (.mn x y) h
 | nilck x => exact gen true (.nilck x) h
 | bstr x => exact gen false (.bstr x) h
 | idxA len sz ag x i => exact gen false (.idxA len sz ag x i) h
 | slcA n sz x => exact gen false (.slcA n sz x) h
 | aeq n ne x y => exact gen false (.aeq n ne x y) h
 | isnil ne k x => exact gen true (.isnil ne k x) h
 | seq os ne x y => exact gen false (.seq os ne x y) h
 | mkmap t => exact gen false (.mkmap t) h
 | look kn ok z x k => exact gen true (.look kn ok z x k) h
 | mput kn x k y => exact gen true (.mput kn x k y) h
 | mkfn f cs => exact gen false (.mkfn f cs) h
theorem aX_len (hc : HndOk P G hnd) {env : ET} {heap : List Blk} {op : IOp} {d : D} {h' : List Blk} {ws rs : List Nat} (h : aX hnd md okf op env heap = some (d, h', ws, rs)) : heap.length ≤ h'.length := by
 have gen : ∀ (b : Bool) (o : Option Eff), postX b heap o = some (d, h', ws, rs) → heap.length ≤ h'.length := by
  intro b o h
  obtain ⟨e, rfl, h1, h2, h3, h4⟩ := postX_ok h
  rw [← h2]
  exact setH_len _ _
 have pur : ∀ x : D, (some (x, heap, [], []) : Option (D × List Blk × List Nat × List Nat)) = some (d, h', ws, rs) → heap.length ≤ h'.length := fun x h => by
  cases h; exact Nat.le_refl _
 cases op with
 | call f args => exact callX_len h
 | dcall x args =>
  simp only [aX, x_dcall, dcallX] at h
  split at h
  ·split at h
   ·exact callX_len h
   ·cases h
  ·cases h
 | mv x =>
  simp only [aX, x_mv, kX_eq] at h
  exact pur _ h
 | ext x i =>
  simp only [aX, x_ext, kX_eq, extF] at h
  split at h
  ·rename_i vs hx
   rw [nthF_eq] at h
   cases hv1 : vs[i]? with
   | none => rw [hv1] at h; cases h
   | some y => rw [hv1] at h; exact pur _ h
  ·cases h
 | pick c a b =>
  simp only [aX, x_pick, kX_eq, pickF] at h
  split at h
  ·split at h
   ·exact pur _ h
   ·exact pur _ h
  ·cases h
 | idxs x i =>
  simp only [aX, x_idxs, kX_eq, idxF] at h
  split at h
  ·split at h
   ·split at h
    ·rw [byteF_eq] at h
     split at h
     ·exact pur _ h
     ·cases h
    ·cases h
   ·cases h
  ·cases h
 | lenS x =>
  simp only [aX, x_lenS, kX_eq, lenF, frcN_eq] at h
  split at h
  ·exact pur _ h
  ·cases h
 | bin op x y =>
  simp only [aX, x_bin, kX_eq, binF, frc1_eq] at h
  split at h
  ·exact pur _ h
  ·cases h
 | new t sz z => (simp only [aX, x_new] at h; exact gen _ _ h)
 | box t sz x => (simp only [aX, x_box] at h; exact gen _ _ h)
 | build z parts => (simp only [aX, x_build] at h; exact gen _ _ h)
 | lit t sz n z parts => (simp only [aX, x_lit] at h; exact gen _ _ h)
 | load ag sz x => (simp only [aX, x_load] at h; exact gen _ _ h)
 | store sz x y => (simp only [aX, x_store] at h; exact gen _ _ h)
 | faddr off x => (simp only [aX, x_faddr] at h; exact gen _ _ h)
 | fld ag off sz x => (simp only [aX, x_fld] at h; exact gen _ _ h)
 | iaddrS sz x i => (simp only [aX, x_iaddrS] at h; exact gen _ _ h)
 | iaddrA len sz x i => (simp only [aX, x_iaddrA] at h; exact gen _ _ h)
 | beq ne x y => (simp only [aX, x_beq] at h; exact gen _ _ h)
 | neg x => (simp only [aX, x_neg] at h; exact gen _ _ h)
 | not x => (simp only [aX, x_not] at h; exact gen _ _ h)
 | conv k x => (simp only [aX, x_conv] at h; exact gen _ _ h)
 | slcS x lo hi => (simp only [aX, x_slcS] at h; exact gen _ _ h)
 | slcL sz x lo hi => (simp only [aX, x_slcL] at h; exact gen _ _ h)
 | make t sz bytes z n => (simp only [aX, x_make] at h; exact gen _ _ h)
 | app t sz bytes s x => (simp only [aX, x_app] at h; exact gen _ _ h)
 | appZ t sz bytes s x => (simp only [aX, x_appZ] at h; exact gen _ _ h)
 | lenL x => (simp only [aX, x_lenL] at h; exact gen _ _ h)
 | capL x => (simp only [aX, x_capL] at h; exact gen _ _ h)
 | mx x y => (simp only [aX, x_mx] at h; exact gen _ _ h)
 | mn x y => (simp only [aX, x_mn] at h; exact gen _ _ h)
 | nilck x => (simp only [aX, x_nilck] at h; exact gen _ _ h)
 | bstr x => (simp only [aX, x_bstr] at h; exact gen _ _ h)
 | idxA len sz ag x i => (simp only [aX, x_idxA] at h; exact gen _ _ h)
 | slcA n sz x => (simp only [aX, x_slcA] at h; exact gen _ _ h)
 | aeq n ne x y => (simp only [aX, x_aeq] at h; exact gen _ _ h)
 | isnil ne k x => (simp only [aX, x_isnil] at h; exact gen _ _ h)
 | seq os ne x y => (simp only [aX, x_seq] at h; exact gen _ _ h)
 | mkmap t => (simp only [aX, x_mkmap] at h; exact gen _ _ h)
 | look kn ok z x k => (simp only [aX, x_look] at h; exact gen _ _ h)
 | mput kn x k y => (simp only [aX, x_mput] at h; exact gen _ _ h)
 | mkfn f cs => (simp only [aX, x_mkfn] at h; exact gen _ _ h)
theorem opX_eq (hnd : Hnd) (md : FuncId → Nat) (okf : FuncId → Bool) (o : IOper) (tr : Tr) (s : ES) (k : Tr → ES → Option (Tr × ES)) : opX hnd md okf o tr s k = match wantedI (lk s.env) o.guard with
  | some true => match aX hnd md okf o.op s.env s.heap with
   | some (d, h, ws, rs) => match setO s.env o.dst d with
    | some env => k ((ws, rs) :: tr) ⟨env, h⟩
    | none => none
   | none => none
  | some false => match setO s.env o.dst (.tup []) with
   | some env => k (([], []) :: tr) ⟨env, s.heap⟩
   | none => none
  | none => none := by
 unfold opX
 cases wantedI (lk s.env) o.guard with
 | none => rfl
 | some w => cases w <;> rfl
theorem evOps_ok (hc : HndOk P G hnd) (ho : ∀ f, okf f = true → okF P f = true) {K : Tr → St → Prop} : ∀ (l : List IOper) (tr tr' : Tr) (s s' : ES), evOps hnd md okf l tr s = some (tr', s') → K tr' s'.st → awpOps P G K l tr s.st
 | [], tr, tr', s, s', h, hk => by
  simp only [evOps, Option.some.injEq, Prod.mk.injEq] at h
  obtain ⟨rfl, rfl⟩ := h
  exact hk
 | o :: l, tr, tr', s, s', h, hk => by
  simp only [evOps, opX_eq] at h
  show awpOps P G K (o :: l) tr ⟨lk s.env, s.heap⟩
  simp only [awpOps]
  split at h
  ·rename_i hw
   split at h
   ·rename_i d h1 ws rs he
    split at h
    ·rename_i env hs
     rw [hw]
     refine aX_ok hc ho he fun e e1 e2 e3 e4 => ?_
     have := evOps_ok hc ho l _ _ _ _ h hk
     have hst : (⟨env, h1⟩ : ES).st = St.eff ⟨lk s.env, s.heap⟩ o.dst e := by
      show St.mk _ _ = St.mk _ _
      rw [setO_lk hs, e1, e2]
     rw [hst] at this
     rw [e3, e4]
     exact this
    ·cases h
   ·cases h
  ·rename_i hw
   split at h
   ·rename_i env hs
    rw [hw]
    have := evOps_ok hc ho l _ _ _ _ h hk
    have hst : (⟨env, s.heap⟩ : ES).st = St.eff ⟨lk s.env, s.heap⟩ o.dst (.tup [], [], []) := by
     show St.mk _ _ = St.mk _ _
     rw [setO_lk hs]; rfl
    rw [hst] at this
    exact this
   ·cases h
  ·cases h
theorem evOps_len (hc : HndOk P G hnd) : ∀ (l : List IOper) (tr tr' : Tr) (s s' : ES), evOps hnd md okf l tr s = some (tr', s') → s.heap.length ≤ s'.heap.length
 | [], tr, tr', s, s', h => by
  simp only [evOps, Option.some.injEq, Prod.mk.injEq] at h
  obtain ⟨rfl, rfl⟩ := h
  exact Nat.le_refl _
 | o :: l, tr, tr', s, s', h => by
  simp only [evOps, opX_eq] at h
  split at h
  ·split at h
   ·rename_i d h1 ws rs he
    split at h
    ·exact Nat.le_trans (aX_len hc he) (evOps_len hc l _ _ _ _ h)
    ·cases h
   ·cases h
  ·split at h
   ·rename_i env he
    exact evOps_len hc l _ _ ⟨env, s.heap⟩ _ h
   ·cases h
  ·cases h
theorem iter_len {f : ES → Option (AEx × ES)} (hf : ∀ s e s', f s = some (e, s') → s.heap.length ≤ s'.heap.length) : ∀ (k : Nat) (s : ES) (e : AEx) (s' : ES), iter f k s = some (e, s') → s.heap.length ≤ s'.heap.length
 | 0, s, e, s', h => by simp [iter] at h
 | k + 1, s, e, s', h => by
  simp only [iter] at h
  split at h
  ·rename_i s2 h2
   exact Nat.le_trans (hf _ _ _ h2) (iter_len hf k _ _ _ h)
  ·exact hf _ _ _ h
theorem ev_len (hc : HndOk P G hnd) : ∀ (ir : IR) (s : ES) (e : AEx) (s' : ES), ev hnd md okf N ir s = some (e, s') → s.heap.length ≤ s'.heap.length
 | .skip, s, e, s', h => by cases h; exact Nat.le_refl _
 | .reg false ops anc, s, e, s', h => by
  simp only [ev] at h
  split at h
  ·rename_i tr s1 h1
   cases h
   exact evOps_len hc _ _ _ _ _ h1
  ·cases h
 | .reg true ops anc, s, e, s', h => by
  simp only [ev] at h
  split at h
  ·rename_i tr s1 h1
   split at h
   ·cases h
    exact evOps_len hc _ _ _ _ _ h1
   ·cases h
  ·cases h
 | .seq a b, s, e, s', h => by
  simp only [ev] at h
  split at h
  ·rename_i s1 h1
   exact Nat.le_trans (ev_len hc a _ _ _ h1) (ev_len hc b _ _ _ h)
  ·exact ev_len hc a _ _ _ h
 | .cond c a b, s, e, s', h => by
  simp only [ev] at h
  split at h
  ·split at h
   ·exact ev_len hc a _ _ _ h
   ·exact ev_len hc b _ _ _ h
  ·cases h
 | .block id a, s, e, s', h => by
  simp only [ev] at h
  split at h
  ·rename_i i s1 h1
   split at h
   ·cases h; exact ev_len hc a _ _ _ h1
   ·cases h; exact ev_len hc a _ _ _ h1
  ·exact ev_len hc a _ _ _ h
 | .loop a, s, e, s', h => by
  simp only [ev] at h
  exact iter_len (fun s e s' h => ev_len hc a s e s' h) N s e s' h
 | .exit id, s, e, s', h => by cases h; exact Nat.le_refl _
 | .ret, s, e, s', h => by cases h; exact Nat.le_refl _
 | .dead, s, e, s', h => by cases h
theorem ev_ok (hc : HndOk P G hnd) (ho : ∀ f, okf f = true → okF P f = true) {m : Nat} : ∀ (ir : IR) (s s' : ES) (e : AEx) (Q : AEx → St → Prop), m ≤ s.heap.length → ev hnd md okf N ir s = some (e, s') → Q e s'.st → awp P G m ir Q s.st
 | .skip, s, s', e, Q, hm, h, hq => by
  simp only [ev, Option.some.injEq, Prod.mk.injEq] at h
  obtain ⟨rfl, rfl⟩ := h
  exact hq
 | .reg false ops anc, s, s', e, Q, hm, h, hq => by
  simp only [ev] at h
  split at h
  ·rename_i tr s1 h1
   simp only [Option.some.injEq, Prod.mk.injEq] at h
   obtain ⟨rfl, rfl⟩ := h
   exact awp_reg_i (evOps_ok hc ho ops [] tr s s1 h1 hq)
  ·cases h
 | .reg true ops anc, s, s', e, Q, hm, h, hq => by
  simp only [ev] at h
  split at h
  ·rename_i tr s1 h1
   split at h
   ·rename_i hcl
    simp only [Option.some.injEq, Prod.mk.injEq] at h
    obtain ⟨rfl, rfl⟩ := h
    exact awp_draw_i (evOps_ok hc ho ops [] tr s s1 h1 ⟨hcl, hq⟩)
   ·cases h
  ·cases h
 | .seq a b, s, s', e, Q, hm, h, hq => by
  refine awp_seq_i ?_
  simp only [ev] at h
  split at h
  ·rename_i s1 h1
   exact ev_ok hc ho a s s1 .normal _ hm h1 (then_normal_i (ev_ok hc ho b s1 s' e Q (Nat.le_trans hm (ev_len hc a _ _ _ h1)) h hq))
  ·rename_i h1
   refine ev_ok hc ho a s s' e _ hm h ?_
   cases e with
   | normal => exact absurd h (h1 s')
   | exit id => exact hq
   | ret => exact hq
 | .cond c a b, s, s', e, Q, hm, h, hq => by
  simp only [ev] at h
  show awp P G m (.cond c a b) Q ⟨lk s.env, s.heap⟩
  split at h
  ·rename_i t ht
   rw [awp_cond ht]
   split at h
   ·exact ev_ok hc ho a s s' e Q hm h hq
   ·exact ev_ok hc ho b s s' e Q hm h hq
  ·cases h
 | .block id a, s, s', e, Q, hm, h, hq => by
  refine awp_block_i ?_
  simp only [ev] at h
  split at h
  ·rename_i i s1 h1
   refine ev_ok hc ho a s s1 (.exit i) _ hm h1 ?_
   rw [inBlock_exit]
   split at h
   ·rename_i hb
    simp only [Option.some.injEq, Prod.mk.injEq] at h
    obtain ⟨rfl, rfl⟩ := h
    rw [if_pos (Nat.eq_of_beq_eq_true hb)]
    exact hq
   ·rename_i hb
    simp only [Option.some.injEq, Prod.mk.injEq] at h
    obtain ⟨rfl, rfl⟩ := h
    rw [if_neg (Nat.ne_of_beq_eq_false hb)]
    exact hq
  ·rename_i h1
   refine ev_ok hc ho a s s' e _ hm h ?_
   cases e with
   | normal => exact hq
   | exit i => exact absurd h (h1 i s')
   | ret => exact hq
 | .loop a, s, s', e, Q, hm, h, hq => by
  simp only [ev] at h
  refine awp_loopm (fun k σ => ∃ s1 : ES, σ = s1.st ∧ m ≤ s1.heap.length ∧ iter (ev hnd md okf N a) k s1 = some (e, s')) N (Ent.refl _) ⟨s, rfl, hm, h⟩ ?_ ?_
  ·rintro k σ1 ⟨s1, rfl, hm1, h1⟩
   exact hm1
  rintro k σ1 ⟨s1, rfl, hm1, h1⟩
  cases k with
  | zero => simp [iter] at h1
  | succ k =>
   simp only [iter] at h1
   split at h1
   ·rename_i s2 h2
    exact ev_ok hc ho a s1 s2 .normal _ hm1 h2 (then_normal_i ⟨k, s2.st, by omega, Ent.refl _, s2, rfl, Nat.le_trans hm1 (ev_len hc a _ _ _ h2), h1⟩)
   ·rename_i h2
    refine ev_ok hc ho a s1 s' e _ hm1 h1 ?_
    cases e with
    | normal => exact absurd h1 (h2 s')
    | exit i => exact hq
    | ret => exact hq
 | .exit id, s, s', e, Q, hm, h, hq => by
  simp only [ev, Option.some.injEq, Prod.mk.injEq] at h
  obtain ⟨rfl, rfl⟩ := h
  exact hq
 | .ret, s, s', e, Q, hm, h, hq => by
  simp only [ev, Option.some.injEq, Prod.mk.injEq] at h
  obtain ⟨rfl, rfl⟩ := h
  exact hq
 | .dead, s, s', e, Q, hm, h, hq => by cases h
end

/-! functions -/
inductive FnE where
 | ir (c : IR) (n : Nat) (rv : List RV)
 | inl (c : IR) (n : Nat) (rv : List RV)
 | lib (g : List D → Option D)
 | own (g : List D → Option (D × List Blk))
 | no
def FnE.code : FnE → Option (IR × Nat × List RV)
 | .ir c n rv | .inl c n rv => some (c, n, rv)
 | _ => none
def FnE.md : FnE → Nat
 | .inl .. | .own .. => 1
 | _ => 0
def FnE.fv : FnE → Bool
 | .ir .. | .inl .. => true
 | _ => false
def fullT : Nat → ET
 | 0 => .e
 | k + 1 => .n (fullT k) (.tup []) (fullT k)
theorem lk_full : ∀ (k t : Nat), lk (fullT k) t = .tup []
 | 0, _ => rfl
 | k + 1, 0 => rfl
 | k + 1, t + 1 => by
  simp only [fullT, lk, lk_full k]
  cases Nat.beq (Nat.mod t 2) 0 <;> rfl
def setL : Nat → List D → ET → Option ET
 | _, [], t => some t
 | i, x :: xs, t => match setE t i x with
  | some t => setL (i + 1) xs t
  | none => none
theorem setL_at : ∀ {i : Nat} {xs : List D} {t t' : ET}, setL i xs t = some t' → ∀ u, lk t' u = if u < i then lk t u else match xs[u - i]? with | some d => d | none => lk t u
 | i, [], t, t', h, u => by
  cases h
  simp
 | i, x :: xs, t, t', h, u => by
  simp only [setL] at h
  split at h
  ·rename_i t1 h1
   rw [setL_at h u]
   have h2 := setE_at h1 u
   by_cases h3 : u < i
   ·rw [if_pos h3, if_pos (by omega), h2, if_neg (by omega)]
   ·rw [if_neg h3]
    by_cases h4 : i = u
    ·subst h4
     rw [if_pos (by omega), h2, if_pos rfl, Nat.sub_self]; rfl
    ·rw [if_neg (by omega), h2, if_neg h4, show u - i = (u - (i + 1)) + 1 by omega]
     rfl
  ·cases h
def ini0 (n : Nat) (xs : List D) : Option ET := setL 0 xs (fullT (Nat.log2 n + 2))
theorem lk_ini0 {n : Nat} {xs : List D} {t : ET} (h : ini0 n xs = some t) : lk t = ini xs := by
 funext u
 rw [setL_at h u, if_neg (by omega), lk_full]
 show _ = xs.getD u (.tup [])
 rw [List.getD_eq_getElem?_getD, Nat.sub_zero]
 cases xs[u]? <;> rfl
def rvE (H : Nat → Blk) (env : Nat → D) : List RV → Option (List D)
 | [] => some []
 | x :: l => match rvD H env x with
  | some d => match rvE H env l with
   | some l => some (d :: l)
   | none => none
  | none => none
theorem rvE_eq {H : Nat → Blk} {env : Nat → D} : ∀ l, rvE H env l = rvDs H env l
 | [] => rfl
 | x :: l => by
  rw [rvE, rvDs, rvE_eq l]
  cases rvD H env x with
  | none => rfl
  | some d => cases rvDs H env l <;> rfl
def AEx.ends : AEx → Bool
 | .exit _ => false
 | _ => true
def evC (hnd : Hnd) (md : FuncId → Nat) (okf : FuncId → Bool) (N : Nat) (c : IR × Nat × List RV) (xs : List D) (h : List Blk) : Option (List D × List Blk) := match Nat.ble xs.length c.2.1 with
 | true => match ini0 c.2.1 xs with
  | some t => match ev hnd md okf N c.1 ⟨t, h⟩ with
   | some (e, s) => match e.ends with
    | true => match rvE (hv s.heap) (lk s.env) c.2.2 with
     | some ds => some (ds, s.heap)
     | none => none
    | false => none
   | none => none
  | none => none
 | false => none
def evG (p : Option (List D × List Blk)) (h : List Blk) : Option (D × List Blk) := match p with
 | some (ds, h') => match Nat.ble h.length h'.length with
  | true => match kbB h'.length (one? ds), kbHB h'.length h' with
   | true, true => frcD (one? ds) fun r => some (r, h')
   | _, _ => none
  | false => none
 | none => none
def evR (tbl : FuncId → FnE) (N : Nat) : Nat → Hnd
 | 0, _, _, _, _ => none
 | k + 1, g, f, xs, h => match tbl f with
  | .lib p => match g with
   | false => match p xs with
    | some r => some (r, [])
    | none => none
   | true => none
  | .own p => match g with
   | false => none
   | true => match h with
    | [] => p xs
    | _ => none
  | e => match e.code with
   | some c => match g with
    | false => match evC (evR tbl N k) (fun f => (tbl f).md) (fun f => (tbl f).fv) N c xs [] with
     | some (ds, h') => match resE (hv h') 6 (one? ds) with
      | some (r, _) => frcD r fun r => some (r, [])
      | none => none
     | none => none
    | true => evG (evC (evR tbl N k) (fun f => (tbl f).md) (fun f => (tbl f).fv) N c xs h) h
   | none => none
def evF (tbl : FuncId → FnE) (N : Nat) (k : Nat) (f : FuncId) (xs : List D) : Option D := match evR tbl N k false f xs [] with
 | some (r, _) => some r
 | none => none
def IrOk (P : Program) (f : FuncId) (c : IR) (n : Nat) (rv : List RV) : Prop := ∃ fn, P.funcs[f]? = some fn ∧ fn.body.bind (comp P) = some c ∧ compRes P fn.results.toList = some rv ∧ fn.results.toList.length ≤ 4 ∧ fn.ntmps = n ∧ dstOk n c = true ∧ okF P f = true
def FnE.ok (P : Program) (G : World → Prop) (f : FuncId) : FnE → Prop
 | .ir c n rv => IrOk P f c n rv
 | .inl c n rv => IrOk P f c n rv
 | .lib g => ∀ xs r, g xs = some r → PCr P G f xs r
 | .own g => ∀ xs r h', g xs = some (r, h') → Gen P G f xs [] r h'
 | .no => True
theorem FnE.ok_code {P : Program} {G : World → Prop} {f : FuncId} {e : FnE} (h : e.ok P G f) {c : IR × Nat × List RV} (hc : e.code = some c) : IrOk P f c.1 c.2.1 c.2.2 := by
 cases e <;> simp [FnE.code] at hc <;> subst hc <;> exact h
theorem FnE.ok_fv {P : Program} {G : World → Prop} {f : FuncId} {e : FnE} (h : e.ok P G f) (hc : e.fv = true) : okF P f = true := by
 cases e <;> simp [FnE.fv] at hc
 all_goals
  obtain ⟨fn, _, _, _, _, _, _, h⟩ := h
  exact h
inductive BT where
 | e
 | n (l : BT) (k : FuncId) (v : FnE) (r : BT)
def BT.get : BT → FuncId → FnE
 | .e, _ => .no
 | .n l k v r, f => match Nat.beq f k with
  | true => v
  | false => match Nat.ble f k with
   | true => l.get f
   | false => r.get f
def BT.ok (P : Program) (G : World → Prop) : BT → Prop
 | .e => True
 | .n l k v r => l.ok P G ∧ v.ok P G k ∧ r.ok P G
theorem FnE.ok_lib {P : Program} {G : World → Prop} {g : List D → Option D} {f : FuncId} (h : ∀ xs r, g xs = some r → PCr P G f xs r) : (FnE.lib g).ok P G f := h
theorem irk {P : Program} {G : World → Prop} {f : FuncId} {c : IR} {n : Nat} {rv : List RV} {fn : Func} (h1 : fn.body.bind (comp P) = some c) (h0 : P.funcs[f]? = some fn := by kernel_rfl) (h2 : compRes P fn.results.toList = some rv := by kernel_rfl) (h3 : fn.results.toList.length ≤ 4 := by decide) (h4 : fn.ntmps = n := by kernel_rfl) (h5 : dstOk n c = true := by kernel_rfl) (h6 : okF P f = true := by kernel_rfl) : (FnE.ir c n rv).ok P G f := ⟨fn, h0, h1, h2, h3, h4, h5, h6⟩
theorem irl {P : Program} {G : World → Prop} {f : FuncId} {c : IR} {n : Nat} {rv : List RV} {fn : Func} (h1 : fn.body.bind (comp P) = some c) (h0 : P.funcs[f]? = some fn := by kernel_rfl) (h2 : compRes P fn.results.toList = some rv := by kernel_rfl) (h3 : fn.results.toList.length ≤ 4 := by decide) (h4 : fn.ntmps = n := by kernel_rfl) (h5 : dstOk n c = true := by kernel_rfl) (h6 : okF P f = true := by kernel_rfl) : (FnE.inl c n rv).ok P G f := ⟨fn, h0, h1, h2, h3, h4, h5, h6⟩
theorem BT.ok_e {P : Program} {G : World → Prop} : BT.e.ok P G := trivial
theorem BT.ok_n {P : Program} {G : World → Prop} {l r : BT} {k : FuncId} {v : FnE} (h1 : l.ok P G) (h2 : v.ok P G k) (h3 : r.ok P G) : (BT.n l k v r).ok P G := ⟨h1, h2, h3⟩
theorem BT.get_ok {P : Program} {G : World → Prop} : ∀ {t : BT}, t.ok P G → ∀ f, (t.get f).ok P G f
 | .e, _, _ => trivial
 | .n l k v r, h, f => by
  simp only [BT.get]
  cases hk : Nat.beq f k with
  | true =>
   have := Nat.eq_of_beq_eq_true hk
   subst this
   exact h.2.1
  | false =>
   cases Nat.ble f k with
   | true => exact BT.get_ok h.1 f
   | false => exact BT.get_ok h.2.2 f
section
variable {P : Program} {G : World → Prop} {tbl : FuncId → FnE} {N : Nat}
theorem evR_ok (hG : Stable G) (ht : ∀ f, (tbl f).ok P G f) : ∀ k : Nat, HndOk P G (evR tbl N k)
 | 0 => ⟨fun _ _ _ _ h => by simp [evR] at h, fun _ _ _ _ _ h => by simp [evR] at h⟩
 | k + 1 => by
  have ih := evR_ok hG ht k
  have ho : ∀ f, (tbl f).fv = true → okF P f = true := fun f hf => FnE.ok_fv (ht f) hf
  refine ⟨fun f xs r h' h => ?_, fun f xs h r h' hh => ?_⟩
  ·have h0 := ht f
   simp only [evR] at h
   split at h
   ·rename_i g hf
    rw [hf] at h0
    split at h
    ·rename_i r' hr
     cases h
     exact h0 _ _ hr
    ·cases h
   ·simp at h
   ·split at h
    ·rename_i c hc
     obtain ⟨fn, h1, h2, h3, h4, h5, h6, _⟩ := FnE.ok_code h0 hc
     split at h
     ·rename_i ds hp hev
      unfold evC at hev
      split at hev
      ·rename_i hle
       split at hev
       rotate_left
       ·cases hev
       rename_i t0 ht0
       split at hev
       ·rename_i e s hes
        split at hev
        ·rename_i hend
         split at hev
         ·rename_i ds' hds
          cases hev
          split at h
          ·rename_i r' ks hr
           rw [frcD_eq] at h
           cases h
           rw [rvE_eq] at hds
           rw [resE_eq] at hr
           have hle' := Nat.le_of_ble_eq_true hle
           refine pcr_of_awp hG h1 h2 h3 h4 h5 hle' h6 ?_
           have hst : (⟨t0, []⟩ : ES).st = st0 xs := by
            show St.mk _ _ = St.mk _ _
            rw [lk_ini0 ht0]
           rw [← hst]
           refine ev_ok ih ho c.1 _ s e _ (Nat.zero_le _) hes ⟨?_, ks, ?_⟩
           ·cases e with
            | exit id => cases hend
            | normal => trivial
            | ret => trivial
           ·show ((rvDs (hv s.heap) (lk s.env) c.2.2).bind _) = _
            rw [hds]; exact hr
          ·cases h
         ·cases hev
        ·cases hev
       ·cases hev
      ·cases hev
     ·cases h
    ·cases h
  ·have h0 := ht f
   simp only [evR] at hh
   split at hh
   ·cases hh
   ·rename_i g hf
    rw [hf] at h0
    split at hh
    ·exact h0 _ _ _ hh
    ·cases hh
   ·split at hh
    ·rename_i c hc
     obtain ⟨fn, h1, h2, h3, h4, h5, h6, _⟩ := FnE.ok_code h0 hc
     unfold evG at hh
     split at hh
     ·rename_i ds hp hev
      unfold evC at hev
      split at hev
      ·rename_i hle
       split at hev
       rotate_left
       ·cases hev
       rename_i t0 ht0
       split at hev
       ·rename_i e s hes
        split at hev
        ·rename_i hend
         split at hev
         ·rename_i ds' hds
          cases hev
          split at hh
          ·rename_i hlen
           split at hh
           ·rename_i hk1 hk3
            rw [frcD_eq] at hh
            cases hh
            rw [rvE_eq] at hds
            have hle' := Nat.le_of_ble_eq_true hle
            have hlen' := Nat.le_of_ble_eq_true hlen
            have k1 := kbB_ok _ hk1
            refine ⟨?_, k1, kbHB_ok _ hk3, hlen'⟩
            refine pcg_by h1 h2 h3 h4 h5 hle' h6 hlen' fun r0 hh0 er eh => ?_
            subst er eh
            have hst : (⟨t0, h⟩ : ES).st = ⟨ini xs, h⟩ := by
             show St.mk _ _ = St.mk _ _
             rw [lk_ini0 ht0]
            rw [← hst]
            refine ev_ok ih ho c.1 _ s e _ (Nat.le_refl _) hes ⟨?_, [], ds, ?_, hds, rfl, k1, kbHB_ok _ hk3⟩
            ·cases e with
             | exit id => cases hend
             | normal => trivial
             | ret => trivial
            ·show s.heap = s.heap ++ []
             rw [List.append_nil]
           ·cases hh
          ·cases hh
         ·cases hev
        ·cases hev
       ·cases hev
      ·cases hev
     ·cases hh
    ·cases hh
theorem evF_ok (hG : Stable G) (ht : ∀ f, (tbl f).ok P G f) (k : Nat) (f : FuncId) (xs : List D) (r : D) (h : evF tbl N k f xs = some r) : PCr P G f xs r := by
 unfold evF at h
 split at h
 ·rename_i r' h' hr
  cases h
  exact (evR_ok hG ht k).pcr _ _ _ _ hr
 ·cases h
end
end Go.Proofs.YtoiepmpggabglaaGreatDoorK.AI
/-
 The abstract interpreter, part 22: the evaluator once more, by recursors, so that the kernel runs it fast.
-/
namespace Go.Proofs.YtoiepmpggabglaaGreatDoorK.AI
open Go.RowKit
section
variable {α : Type}
noncomputable def lkR (l : ET) : Nat → (D → Option α) → Option α :=
 @ET.rec (fun _ => Nat → (D → Option α) → Option α) (fun _ k => k (.tup []))
  (fun _ d _ ihl ihr t k => @Nat.rec (fun _ => Option α) (k d) (fun t _ => @Bool.rec (fun _ => Option α) (ihr (Nat.div t 2) k) (ihl (Nat.div t 2) k) (Nat.beq (Nat.mod t 2) 0)) t) l
theorem lkR_eq : ∀ (l : ET) (t : Nat) (k : D → Option α), lkR l t k = k (lk l t)
 | .e, _, _ => rfl
 | .n l d r, 0, _ => rfl
 | .n l d r, t + 1, k => by
  show @Bool.rec (fun _ => Option α) (lkR r (Nat.div t 2) k) (lkR l (Nat.div t 2) k) (Nat.beq (Nat.mod t 2) 0) = _
  simp only [lk]
  cases Nat.beq (Nat.mod t 2) 0 <;> exact lkR_eq _ _ _
noncomputable def kR (env : ET) (x : Opd) (k : D → Option α) : Option α := @Opd.rec (fun _ => (D → Option α) → Option α) (lkR env) (fun d k => k d) x k
theorem kR_eq (env : ET) (x : Opd) (k : D → Option α) : kR env x k = kX env x k := by
 rw [kX_eq]
 cases x with
 | t n => exact lkR_eq _ _ _
 | c d => rfl
noncomputable def setR (l : ET) : Nat → D → (ET → Option α) → Option α :=
 @ET.rec (fun _ => Nat → D → (ET → Option α) → Option α) (fun _ _ _ => none)
  (fun l x r ihl ihr t d k => @Nat.rec (fun _ => Option α) (k (.n l d r)) (fun t _ => @Bool.rec (fun _ => Option α) (ihr (Nat.div t 2) d fun r => k (.n l x r)) (ihl (Nat.div t 2) d fun l => k (.n l x r)) (Nat.beq (Nat.mod t 2) 0)) t) l
theorem setR_eq : ∀ (l : ET) (t : Nat) (d : D) (k : ET → Option α), setR l t d k = match setE l t d with | some l => k l | none => none
 | .e, _, _, _ => rfl
 | .n l x r, 0, _, _ => rfl
 | .n l x r, t + 1, d, k => by
  show @Bool.rec (fun _ => Option α) (setR r (Nat.div t 2) d fun r => k (.n l x r)) (setR l (Nat.div t 2) d fun l => k (.n l x r)) (Nat.beq (Nat.mod t 2) 0) = _
  simp only [setE]
  cases Nat.beq (Nat.mod t 2) 0 with
  | true =>
   simp only
   rw [setR_eq l]
   cases setE l (Nat.div t 2) d <;> rfl
  | false =>
   simp only
   rw [setR_eq r]
   cases setE r (Nat.div t 2) d <;> rfl
noncomputable def setOR (l : ET) (dst : Option Nat) (d : D) (k : ET → Option α) : Option α := @Option.rec Nat (fun _ => Option α) (k l) (fun t => setR l t d k) dst
theorem setOR_eq (l : ET) (dst : Option Nat) (d : D) (k : ET → Option α) : setOR l dst d k = match setO l dst d with | some l => k l | none => none := by
 cases dst with
 | none => rfl
 | some t => exact setR_eq _ _ _ _
end
abbrev RX := Option (D × List Blk × List Nat × List Nat)
noncomputable def y_mv (x : Opd) (env : ET) (heap : List Blk) : RX := kR env x fun d => some (d, heap, [], [])
noncomputable def y_ext (x : Opd) (i : Nat) (env : ET) (heap : List Blk) : RX := kR env x fun d => extF d i heap
noncomputable def y_idxs (x i : Opd) (env : ET) (heap : List Blk) : RX := kR env x fun d => kR env i fun e => idxF d e heap
noncomputable def y_lenS (x : Opd) (env : ET) (heap : List Blk) : RX := kR env x fun d => lenF d heap
noncomputable def y_bin (op : BinOp) (x y : Opd) (env : ET) (heap : List Blk) : RX := kR env x fun d => kR env y fun e => binF op d e heap
noncomputable def aXR (hnd : Hnd) (md : FuncId → Nat) (okf : FuncId → Bool) (op : IOp) : ET → List Blk → RX := @IOp.rec (fun _ => ET → List Blk → RX) y_mv x_pick x_new x_box x_build x_lit x_load x_store x_faddr x_fld x_iaddrS x_iaddrA y_idxs y_bin x_beq x_neg x_not x_conv x_slcS x_slcL x_make x_app x_appZ y_lenS x_lenL x_capL x_mx x_mn y_ext x_nilck x_bstr x_idxA x_slcA x_aeq x_isnil x_seq x_mkmap x_look x_mput x_mkfn (x_call hnd md) (x_dcall hnd md okf) op
theorem aXR_eq (hnd : Hnd) (md : FuncId → Nat) (okf : FuncId → Bool) (op : IOp) (env : ET) (heap : List Blk) : aXR hnd md okf op env heap = aX hnd md okf op env heap := by
 cases op
 case mv x => exact kR_eq _ _ _
 case ext x i => exact kR_eq _ _ _
 case lenS x => exact kR_eq _ _ _
 case idxs x i =>
  show kR _ _ _ = kX _ _ _
  rw [kR_eq]
  congr 1
  funext d
  exact kR_eq _ _ _
 case bin op x y =>
  show kR _ _ _ = kX _ _ _
  rw [kR_eq]
  congr 1
  funext d
  exact kR_eq _ _ _
 all_goals rfl
noncomputable def putR (dst : Option Nat) (tr : Tr) (s : ES) (k : Tr → ES → Option (Tr × ES)) (r : RX) : Option (Tr × ES) :=
 @Option.rec (D × List Blk × List Nat × List Nat) (fun _ => Option (Tr × ES)) none (fun p => @Prod.rec D _ (fun _ => Option (Tr × ES)) (fun d q => @Prod.rec (List Blk) _ (fun _ => Option (Tr × ES)) (fun h q => @Prod.rec (List Nat) (List Nat) (fun _ => Option (Tr × ES)) (fun ws rs => setOR s.env dst d fun env => k ((ws, rs) :: tr) ⟨env, h⟩) q) q) p) r
noncomputable def opR (hnd : Hnd) (md : FuncId → Nat) (okf : FuncId → Bool) (o : IOper) (tr : Tr) (s : ES) (k : Tr → ES → Option (Tr × ES)) : Option (Tr × ES) :=
 @IOper.rec (fun _ => Option (Tr × ES)) (fun dst op g => @Option.rec _ (fun _ => Option (Tr × ES)) (putR dst tr s k (aXR hnd md okf op s.env s.heap)) (fun g => @Option.rec Bool (fun _ => Option (Tr × ES)) none (fun w => @Bool.rec (fun _ => Option (Tr × ES)) (setOR s.env dst (.tup []) fun env => k (([], []) :: tr) ⟨env, s.heap⟩) (putR dst tr s k (aXR hnd md okf op s.env s.heap)) w) (wantedI (lk s.env) (some g))) g) o
theorem putR_eq (dst : Option Nat) (tr : Tr) (s : ES) (k : Tr → ES → Option (Tr × ES)) (r : RX) : putR dst tr s k r = putX dst tr s k r := by
 cases r with
 | none => rfl
 | some p =>
  obtain ⟨d, h, ws, rs⟩ := p
  show setOR s.env dst d (fun env => k ((ws, rs) :: tr) ⟨env, h⟩) = _
  rw [setOR_eq]
  rfl
theorem opR_eq (hnd : Hnd) (md : FuncId → Nat) (okf : FuncId → Bool) (o : IOper) (tr : Tr) (s : ES) (k : Tr → ES → Option (Tr × ES)) : opR hnd md okf o tr s k = opX hnd md okf o tr s k := by
 obtain ⟨dst, op, g⟩ := o
 cases g with
 | none =>
  show putR _ _ _ _ _ = putX _ _ _ _ _
  rw [putR_eq, aXR_eq]
 | some g =>
  show @Option.rec Bool (fun _ => Option (Tr × ES)) none (fun w => @Bool.rec (fun _ => Option (Tr × ES)) (setOR s.env dst (.tup []) fun env => k (([], []) :: tr) ⟨env, s.heap⟩) (putR dst tr s k (aXR hnd md okf op s.env s.heap)) w) (wantedI (lk s.env) (some g)) = _
  simp only [opX]
  cases wantedI (lk s.env) (some g) with
  | none => rfl
  | some w =>
   cases w with
   | true =>
    show putR _ _ _ _ _ = putX _ _ _ _ _
    rw [putR_eq, aXR_eq]
   | false =>
    show setOR s.env dst (.tup []) (fun env => k (([], []) :: tr) ⟨env, s.heap⟩) = _
    rw [setOR_eq]
    rfl
noncomputable def evOpsR (hnd : Hnd) (md : FuncId → Nat) (okf : FuncId → Bool) (l : List IOper) : Tr → ES → Option (Tr × ES) :=
 @List.rec IOper (fun _ => Tr → ES → Option (Tr × ES)) (fun tr s => some (tr, s)) (fun o _ ih tr s => opR hnd md okf o tr s ih) l
theorem evOpsR_eq (hnd : Hnd) (md : FuncId → Nat) (okf : FuncId → Bool) : ∀ (l : List IOper) (tr : Tr) (s : ES), evOpsR hnd md okf l tr s = evOps hnd md okf l tr s
 | [], _, _ => rfl
 | o :: l, tr, s => by
  show opR hnd md okf o tr s (evOpsR hnd md okf l) = opX hnd md okf o tr s (evOps hnd md okf l)
  rw [opR_eq, show evOpsR hnd md okf l = evOps hnd md okf l from funext fun tr => funext fun s => evOpsR_eq hnd md okf l tr s]
abbrev OX := Option (AEx × ES)
noncomputable def thenR (f : ES → OX) (o : OX) : OX := @Option.rec (AEx × ES) (fun _ => OX) none (fun p => @Prod.rec AEx ES (fun _ => OX) (fun e s => @AEx.rec (fun _ => OX) (f s) (fun i => some (.exit i, s)) (some (.ret, s)) e) p) o
theorem thenR_eq (f : ES → OX) (o : OX) : thenR f o = match o with | some (.normal, s') => f s' | o => o := by
 cases o with
 | none => rfl
 | some p =>
  obtain ⟨e, s⟩ := p
  cases e <;> rfl
noncomputable def iterR (f : ES → OX) (n : Nat) : ES → OX := @Nat.rec (fun _ => ES → OX) (fun _ => none) (fun _ ih s => thenR ih (f s)) n
theorem iterR_eq (f : ES → OX) : ∀ (n : Nat) (s : ES), iterR f n s = iter f n s
 | 0, _ => rfl
 | n + 1, s => by
  show thenR (iterR f n) (f s) = iter f (n + 1) s
  rw [thenR_eq, iter]
  cases f s with
  | none => rfl
  | some p =>
   obtain ⟨e, s'⟩ := p
   cases e with
   | normal => exact iterR_eq f n s'
   | exit i => rfl
   | ret => rfl
noncomputable def blockR (id : Nat) (o : OX) : OX := @Option.rec (AEx × ES) (fun _ => OX) none (fun p => @Prod.rec AEx ES (fun _ => OX) (fun e s => @AEx.rec (fun _ => OX) (some (.normal, s)) (fun i => @Bool.rec (fun _ => OX) (some (.exit i, s)) (some (.normal, s)) (Nat.beq i id)) (some (.ret, s)) e) p) o
noncomputable def regR (d : Bool) (anc : List Nat) (o : Option (Tr × ES)) : OX := @Option.rec (Tr × ES) (fun _ => OX) none (fun p => @Prod.rec Tr ES (fun _ => OX) (fun tr s => @Bool.rec (fun _ => OX) (some (.normal, s)) (@Bool.rec (fun _ => OX) none (some (.normal, s)) (clear anc tr)) d) p) o
def isB : D → Option Bool
 | .bool t => some t
 | _ => none
noncomputable def condR (c : Opd) (fa fb : ES → OX) (s : ES) : OX := @Option.rec Bool (fun _ => OX) none (fun t => @Bool.rec (fun _ => OX) (fb s) (fa s) t) (kR s.env c isB)
noncomputable def evI (hnd : Hnd) (md : FuncId → Nat) (okf : FuncId → Bool) (N : Nat) (c : IR) : ES → OX := @IR.rec (fun _ => ES → OX)
 (fun s => some (.normal, s))
 (fun d ops anc s => regR d anc (evOpsR hnd md okf ops [] s))
 (fun _ _ iha ihb s => thenR ihb (iha s))
 (fun c _ _ iha ihb s => condR c iha ihb s)
 (fun id _ ih s => blockR id (ih s))
 (fun _ ih s => iterR ih N s)
 (fun id s => some (.exit id, s))
 (fun s => some (.ret, s))
 (fun _ => none) c
theorem evI_eq (hnd : Hnd) (md : FuncId → Nat) (okf : FuncId → Bool) (N : Nat) : ∀ (c : IR) (s : ES), evI hnd md okf N c s = ev hnd md okf N c s
 | .skip, _ => rfl
 | .reg d ops anc, s => by
  show regR d anc (evOpsR hnd md okf ops [] s) = _
  rw [evOpsR_eq]
  cases d with
  | false =>
   rw [ev]
   cases evOps hnd md okf ops [] s with
   | none => rfl
   | some p => rfl
  | true =>
   rw [ev]
   cases evOps hnd md okf ops [] s with
   | none => rfl
   | some p =>
    obtain ⟨tr, s'⟩ := p
    show @Bool.rec (fun _ => OX) none (some (.normal, s')) (clear anc tr) = _
    simp only
    cases clear anc tr <;> rfl
 | .seq a b, s => by
  show thenR (evI hnd md okf N b) (evI hnd md okf N a s) = _
  rw [thenR_eq, evI_eq hnd md okf N a s, ev, show evI hnd md okf N b = ev hnd md okf N b from funext (evI_eq hnd md okf N b)]
  cases ev hnd md okf N a s with
  | none => rfl
  | some p =>
   obtain ⟨e, s'⟩ := p
   cases e <;> rfl
 | .cond c a b, s => by
  show condR c (evI hnd md okf N a) (evI hnd md okf N b) s = _
  rw [condR, kR_eq, kX_eq, ev, show evI hnd md okf N a = ev hnd md okf N a from funext (evI_eq hnd md okf N a), show evI hnd md okf N b = ev hnd md okf N b from funext (evI_eq hnd md okf N b)]
  cases getO (lk s.env) c with
  | bool t => cases t <;> rfl
  | _ => rfl
 | .block id a, s => by
  show blockR id (evI hnd md okf N a s) = _
  rw [evI_eq hnd md okf N a s, ev]
  cases ev hnd md okf N a s with
  | none => rfl
  | some p =>
   obtain ⟨e, s'⟩ := p
   cases e with
   | normal => rfl
   | ret => rfl
   | exit i =>
    show @Bool.rec (fun _ => OX) (some (.exit i, s')) (some (.normal, s')) (Nat.beq i id) = _
    simp only
    cases Nat.beq i id <;> rfl
 | .loop a, s => by
  show iterR (evI hnd md okf N a) N s = iter (ev hnd md okf N a) N s
  rw [iterR_eq, show evI hnd md okf N a = ev hnd md okf N a from funext (evI_eq hnd md okf N a)]
 | .exit id, s => rfl
 | .ret, s => rfl
 | .dead, _ => rfl
noncomputable def evCR (hnd : Hnd) (md : FuncId → Nat) (okf : FuncId → Bool) (N : Nat) (c : IR × Nat × List RV) (xs : List D) (h : List Blk) : Option (List D × List Blk) := match Nat.ble xs.length c.2.1 with
 | true => match ini0 c.2.1 xs with
  | some t => match evI hnd md okf N c.1 ⟨t, h⟩ with
   | some (e, s) => match e.ends with
    | true => match rvE (hv s.heap) (lk s.env) c.2.2 with
     | some ds => some (ds, s.heap)
     | none => none
    | false => none
   | none => none
  | none => none
 | false => none
theorem evCR_eq (hnd : Hnd) (md : FuncId → Nat) (okf : FuncId → Bool) (N : Nat) (c : IR × Nat × List RV) (xs : List D) (h : List Blk) : evCR hnd md okf N c xs h = evC hnd md okf N c xs h := by
 unfold evCR evC
 simp only [evI_eq]
 try rfl
noncomputable def entR (tbl : FuncId → FnE) (N : Nat) (hnd : Hnd) : Hnd := fun g f xs h => match tbl f with
  | .lib p => match g with
   | false => match p xs with
    | some r => some (r, [])
    | none => none
   | true => none
  | .own p => match g with
   | false => none
   | true => match h with
    | [] => p xs
    | _ => none
  | e => match e.code with
   | some c => match g with
    | false => match evCR hnd (fun f => (tbl f).md) (fun f => (tbl f).fv) N c xs [] with
     | some (ds, h') => match resE (hv h') 6 (one? ds) with
      | some (r, _) => frcD r fun r => some (r, [])
      | none => none
     | none => none
    | true => evG (evCR hnd (fun f => (tbl f).md) (fun f => (tbl f).fv) N c xs h) h
   | none => none
noncomputable def evRR (tbl : FuncId → FnE) (N k : Nat) : Hnd := @Nat.rec (fun _ => Hnd) (fun _ _ _ _ => none) (fun _ ih => entR tbl N ih) k
theorem evRR_eq (tbl : FuncId → FnE) (N : Nat) : ∀ k : Nat, evRR tbl N k = evR tbl N k
 | 0 => rfl
 | k + 1 => by
  show entR tbl N (evRR tbl N k) = _
  rw [evRR_eq tbl N k]
  funext g f xs h
  simp only [entR, evR, evCR_eq]
  try rfl
noncomputable def evFR (tbl : FuncId → FnE) (N : Nat) (k : Nat) (f : FuncId) (xs : List D) : Option D := match evRR tbl N k false f xs [] with
 | some (r, _) => some r
 | none => none
theorem evFR_ok {P : Program} {G : World → Prop} {tbl : FuncId → FnE} {N : Nat} (hG : Stable G) (ht : ∀ f, (tbl f).ok P G f) (k : Nat) (f : FuncId) (xs : List D) (r : D) (h : evFR tbl N k f xs = some r) : PCr P G f xs r := by
 refine evF_ok (N := N) hG ht k f xs r ?_
 rw [← h, evFR, evRR_eq]
 try rfl
end Go.Proofs.YtoiepmpggabglaaGreatDoorK.AI
