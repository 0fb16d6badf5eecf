/-
  The abstract interpreter, part 21: closed calls are run (evF): what comes out is the call's contract.
-/
import Derived.Test.YticocfhgopppjaaDoorKAc
import Derived.ChangeKeysEq
set_option linter.all false
set_option linter.unusedVariables false
set_option linter.unusedSimpArgs false
set_option maxHeartbeats 4000000
namespace Go.Proofs.YticocfhgopppjaaDoorK.AI
open Go.RowKit

/-! values are told out, so that no work piles up -/
section
variable {α : Type}
def frcN (n : Nat) (k : Nat → α) : α := match n with | 0 => k 0 | m + 1 => k (m + 1)
def frcI (n : Int) (k : Int → α) : α := match n with | .ofNat m => frcN m fun m => k (.ofNat m) | .negSucc m => frcN m fun m => k (.negSucc m)
def frcB (b : Bool) (k : Bool → α) : α := match b with | true => k true | false => k false
def frcL {β : Type} (l : List β) (k : List β → α) : α := match l with | [] => k [] | x :: l => frcL l fun l => k (x :: l)
def frcS (s : ByteArray) (k : ByteArray → α) : α := match s with | ⟨⟨l⟩⟩ => frcL l fun l => k ⟨⟨l⟩⟩
def frc1 (d : D) (k : D → α) : α := match d with
  | .bool b => frcB b fun b => k (.bool b)
  | .int q n => frcI n fun n => k (.int q n)
  | .str s => frcS s fun s => k (.str s)
  | .ptr b v o => frcN b fun b => frcN v fun v => frcN o fun o => k (.ptr b v o)
  | .own b v o n => frcN b fun b => frcN v fun v => frcN o fun o => frcN n fun n => k (.own b v o n)
  | .sl n cs => frcN n fun n => frcL cs fun cs => k (.sl n cs)
  | .rp cs => frcL cs fun cs => k (.rp cs)
  | .agg cs => frcL cs fun cs => k (.agg cs)
  | .tup cs => frcL cs fun cs => k (.tup cs)
  | .un => k .un
  | .null => k .null
  | .nils => k .nils
  | .nilm => k .nilm
  | .fn f cs => frcN f fun f => frcL cs fun cs => k (.fn f cs)
  | .mp kvs => frcL kvs fun kvs => k (.mp kvs)
  | .mo b v => frcN b fun b => frcN v fun v => k (.mo b v)
  | .mf kvs => frcL kvs fun kvs => k (.mf kvs)
def frcLD (l : List D) (k : List D → α) : α := match l with | [] => k [] | x :: l => frc1 x fun x => frcLD l fun l => k (x :: l)
def frcD (d : D) (k : D → α) : α := match d with
  | .agg cs => frcLD cs fun cs => k (.agg cs)
  | .tup cs => frcLD cs fun cs => k (.tup cs)
  | d => frc1 d k
def frcBlk (b : Blk) (k : Blk → α) : α := match b with
  | none => k none
  | some (v, t, s, cs) => frcN v fun v => frcN t fun t => frcN s fun s => frcLD cs fun cs => k (some (v, t, s, cs))
def frcW (l : List (Nat × Blk)) (k : List (Nat × Blk) → α) : α := match l with
  | [] => k []
  | (b, x) :: l => frcN b fun b => frcBlk x fun x => frcW l fun l => k ((b, x) :: l)
/-! what was told out before is not told out again -/
def frc0 (d : D) (k : D → α) : α := match d with
  | .un => k .un
  | .null => k .null
  | .nils => k .nils
  | .bool b => k (.bool b)
  | .int q n => k (.int q n)
  | .str s => k (.str s)
  | .agg cs => k (.agg cs)
  | .tup cs => k (.tup cs)
  | .sl n cs => k (.sl n cs)
  | .rp cs => k (.rp cs)
  | .own b v o n => k (.own b v o n)
  | .ptr b v o => k (.ptr b v o)
  | .nilm => k .nilm
  | .fn f cs => k (.fn f cs)
  | .mp kvs => k (.mp kvs)
  | .mo b v => k (.mo b v)
  | .mf kvs => k (.mf kvs)
def frcL0 (l : List D) (k : List D → α) : α := match l with | [] => k [] | x :: l => frc0 x fun x => frcL0 l fun l => k (x :: l)
def frcH (d : D) (k : D → α) : α := match d with
  | .agg cs => frcL0 cs fun cs => k (.agg cs)
  | .tup cs => frcL0 cs fun cs => k (.tup cs)
  | d => frc0 d k
def frcW0 (l : List (Nat × Blk)) (k : List (Nat × Blk) → α) : α := match l with
  | [] => k []
  | (b, x) :: l => frcN b fun b => match x with
    | none => frcW0 l fun l => k ((b, none) :: l)
    | some (v, t, s, cs) => frcN v fun v => frcL0 cs fun cs => frcW0 l fun l => k ((b, some (v, t, s, cs)) :: l)
def frcQ (b : Bool) (d : D) (k : D → α) : α := match b with | true => frcH d k | false => frcD d k
def frcV (b : Bool) (l : List (Nat × Blk)) (k : List (Nat × Blk) → α) : α := match b with | true => frcW0 l k | false => frcW l k
theorem frcN_eq (n : Nat) (k : Nat → α) : frcN n k = k n := by cases n <;> rfl
theorem frcI_eq (n : Int) (k : Int → α) : frcI n k = k n := by cases n <;> simp only [frcI, frcN_eq]
theorem frcB_eq (n : Bool) (k : Bool → α) : frcB n k = k n := by cases n <;> rfl
theorem frcL_eq {β : Type} : ∀ (l : List β) (k : List β → α), frcL l k = k l
  | [], _ => rfl
  | x :: l, k => by rw [frcL, frcL_eq l]
theorem frcS_eq (s : ByteArray) (k : ByteArray → α) : frcS s k = k s := by
  obtain ⟨⟨l⟩⟩ := s
  simp only [frcS, frcL_eq]
theorem frc1_eq (d : D) (k : D → α) : frc1 d k = k d := by cases d <;> simp only [frc1, frcB_eq, frcI_eq, frcS_eq, frcN_eq, frcL_eq]
theorem frcLD_eq : ∀ (l : List D) (k : List D → α), frcLD l k = k l
  | [], _ => rfl
  | x :: l, k => by rw [frcLD, frc1_eq, frcLD_eq l]
theorem frcD_eq (d : D) (k : D → α) : frcD d k = k d := by cases d <;> simp only [frcD, frcLD_eq, frc1_eq]
theorem frcBlk_eq (b : Blk) (k : Blk → α) : frcBlk b k = k b := by
  cases b with
  | none => rfl
  | some x => obtain ⟨v, t, s, cs⟩ := x; simp only [frcBlk, frcN_eq, frcLD_eq]
theorem frcW_eq : ∀ (l : List (Nat × Blk)) (k : List (Nat × Blk) → α), frcW l k = k l
  | [], _ => rfl
  | (b, x) :: l, k => by rw [frcW, frcN_eq, frcBlk_eq, frcW_eq l]
theorem frc0_eq (d : D) (k : D → α) : frc0 d k = k d := by cases d <;> rfl
theorem frcL0_eq : ∀ (l : List D) (k : List D → α), frcL0 l k = k l
  | [], _ => rfl
  | x :: l, k => by rw [frcL0, frc0_eq, frcL0_eq l]
theorem frcH_eq (d : D) (k : D → α) : frcH d k = k d := by cases d <;> simp only [frcH, frcL0_eq, frc0_eq]
theorem frcW0_eq : ∀ (l : List (Nat × Blk)) (k : List (Nat × Blk) → α), frcW0 l k = k l
  | [], _ => rfl
  | (b, none) :: l, k => by simp only [frcW0, frcN_eq, frcW0_eq l]
  | (b, some (v, t, s, cs)) :: l, k => by simp only [frcW0, frcN_eq, frcL0_eq, frcW0_eq l]
theorem frcQ_eq (b : Bool) (d : D) (k : D → α) : frcQ b d k = k d := by cases b <;> simp only [frcQ, frcH_eq, frcD_eq]
theorem frcV_eq (b : Bool) (l : List (Nat × Blk)) (k : List (Nat × Blk) → α) : frcV b l k = k l := by cases b <;> simp only [frcV, frcW0_eq, frcW_eq]
end

/-! own rows told for the last time -/
def goE (f : D → Option (D × List Nat)) : List D → Option (List D × List Nat)
  | [] => some ([], [])
  | d :: l => match f d with
    | some p => match goE f l with
      | some q => some (p.1 :: q.1, p.2 ++ q.2)
      | none => none
    | none => none
def resLE (f : D → Option (D × List Nat)) (cs : List D) : Option (List D × List Nat) := if cs.all D.imm then some (cs, []) else goE f cs
def resE (H : Nat → Blk) : Nat → D → Option (D × List Nat)
  | 0, _ => none
  | k + 1, d => match d with
    | .own b ver off n => match H b with
      | some (v, _, sz, cs) => if v = ver ∧ off * sz + n * sz ≤ cs.length then (resLE (resE H k) ((cs.drop (off * sz)).take (n * sz))).map fun p => (.sl n p.1, b :: p.2) else none
      | none => none
    | .ptr b ver off => match H b with
      | some (v, _, _, cs) => if v = ver then (resLE (resE H k) (cs.drop off)).map fun p => (.rp p.1, b :: p.2) else none
      | none => none
    | .nils => some (.sl 0 [], [])
    | .agg cs => (resLE (resE H k) cs).map fun p => (.agg p.1, p.2)
    | .tup cs => (resLE (resE H k) cs).map fun p => (.tup p.1, p.2)
    | .fn f cs => (resLE (resE H k) cs).map fun p => (.fn f p.1, p.2)
    | .mo b ver => match H b with
      | some (v, _, _, [.mp kvs]) => if v = ver then (resLE (resE H k) kvs).map fun p => (.mf p.1, b :: p.2) else none
      | _ => none
    | d => some (d, [])
theorem goE_eq {H : Nat → Blk} {k : Nat} (h : ∀ d, resE H k d = resD H k d) : ∀ cs, goE (resE H k) cs = resD.go H k cs
  | [] => by rw [goE, go_nil]
  | d :: l => by
    rw [goE, go_cons, h, goE_eq h l]
    cases resD H k d with
    | none => rfl
    | some p => cases resD.go H k l <;> rfl
theorem resLE_eq {H : Nat → Blk} {k : Nat} (h : ∀ d, resE H k d = resD H k d) (cs : List D) : resLE (resE H k) cs = resD.resL H k cs := by
  rw [resLE, resL_eq, goE_eq h]
theorem resE_eq {H : Nat → Blk} : ∀ (k : Nat) (d : D), resE H k d = resD H k d
  | 0, d => by simp [resE, resD]
  | k + 1, d => by
    have h := resLE_eq (resE_eq (H := H) k)
    cases d with
    | own b v o n =>
      simp only [resE, resD, h]
      cases H b <;> rfl
    | ptr b v o =>
      simp only [resE, resD, h]
      cases H b <;> rfl
    | agg cs => simp only [resE, resD, h]
    | tup cs => simp only [resE, resD, h]
    | fn f cs => simp only [resE, resD, h]
    | mo b v =>
      simp only [resE, resD, h]
      rfl
    | _ => simp only [resE, resD]
def resArgsE (H : Nat → Blk) (env : Nat → D) : List Opd → Option (List D × List Nat)
  | [] => some ([], [])
  | x :: l => match resE H 6 (getO env x) with
    | some p => match resArgsE H env l with
      | some q => some (p.1 :: q.1, p.2 ++ q.2)
      | none => none
    | none => none
theorem resArgsE_eq {H : Nat → Blk} {env : Nat → D} : ∀ l, resArgsE H env l = resArgs H env l
  | [] => rfl
  | x :: l => by
    rw [resArgsE, resArgs, resE_eq, resArgsE_eq l]
    cases resD H 6 (getO env x) with
    | none => rfl
    | some p => cases resArgs H env l <;> rfl

/-! operations -/
def beqB : List UInt8 → List UInt8 → Bool
  | [], [] => true
  | x :: l, y :: m => Nat.beq x.toNat y.toNat && beqB l m
  | _, _ => false
theorem beqB_eq : ∀ l m, beqB l m = (l == m)
  | [], [] => rfl
  | [], y :: m => rfl
  | x :: l, [] => rfl
  | x :: l, y :: m => by
    rw [beqB, beqB_eq l m, List.cons_beq_cons]
    congr 1
    rw [Bool.eq_iff_iff, Nat.beq_eq, beq_iff_eq]
    exact ⟨fun h => UInt8.toNat_inj.1 h, fun h => by rw [h]⟩
def strBinE (op : BinOp) (x y : ByteArray) : Option D :=
  match op with
  | .add => if ((x.size + y.size : Nat) : Int) > IntKind.i64.max then none else some (.str ⟨⟨x.data.toList ++ y.data.toList⟩⟩)
  | .eql => some (.bool (beqB x.data.toList y.data.toList))
  | .neq => some (.bool !(beqB x.data.toList y.data.toList))
  | .lss => some (.bool (Op.bytesLess x.data.toList y.data.toList))
  | .leq => some (.bool (Op.bytesLess x.data.toList y.data.toList || beqB x.data.toList y.data.toList))
  | .gtr => some (.bool !(Op.bytesLess x.data.toList y.data.toList || beqB x.data.toList y.data.toList))
  | .geq => some (.bool !(Op.bytesLess x.data.toList y.data.toList))
  | _ => none
theorem ba_mk (l : List UInt8) (x : ByteArray) (h : x.data.toList = l) : (⟨⟨l⟩⟩ : ByteArray) = x := by
  subst h; rfl
theorem strBinE_eq (op : BinOp) (x y : ByteArray) : strBinE op x y = strBin op x y := by
  cases op <;> simp only [strBinE, strBin, beqB_eq, ByteArray.toList_eq]
  rw [ba_mk _ (x ++ y) (by simp [ByteArray.data_append])]
/-! maps -/
def eqKE : D → D → Option Bool
  | .str a, .str b => some (beqB a.data.toList b.data.toList)
  | d, e => eqK d e
theorem beqB_ba (a b : ByteArray) : beqB a.data.toList b.data.toList = (a == b) := by
  obtain ⟨⟨l⟩⟩ := a
  obtain ⟨⟨m⟩⟩ := b
  rw [beqB_eq]
  show (l == m) = (l.toArray == m.toArray)
  simp
theorem eqKE_eq (d e : D) : eqKE d e = eqK d e := by
  unfold eqKE
  split
  · rw [beqB_ba]; rfl
  · rfl
def findE (k : D) : List D → Option (Option Nat)
  | [] => some none
  | k' :: l => match l with
    | _ :: l => match eqKE k k' with
      | some true => some (some 0)
      | some false => match findE k l with
        | some (some i) => some (some (i + 1))
        | some none => some none
        | none => none
      | none => none
    | [] => none
theorem findE_eq (k : D) : ∀ l, findE k l = findD k l
  | [] => rfl
  | [_] => rfl
  | k' :: x :: l => by
    simp only [findE, findD, eqKE_eq, findE_eq k l]
    cases eqK k k' with
    | none => rfl
    | some b =>
      cases b with
      | true => rfl
      | false =>
        cases findD k l with
        | none => rfl
        | some r => cases r <;> rfl
def lookE (k : D) (kvs : List D) : Option (Option D) := match findE k kvs with
  | some none => some none
  | some (some i) => match kvs[2 * i + 1]? with
    | some d => some (some d)
    | none => none
  | none => none
theorem lookE_eq (k : D) (kvs : List D) : lookE k kvs = lookD k kvs := by
  unfold lookE lookD
  rw [findE_eq]
  cases findD k kvs with
  | none => rfl
  | some r =>
    cases r with
    | none => rfl
    | some i => simp only [Option.bind_some]; cases kvs[2 * i + 1]? <;> rfl
def putME (k x : D) (kvs : List D) : Option (List D) := match findE k kvs with
  | some none => some (kvs ++ [k, x])
  | some (some i) => some ((kvs.set (2 * i) k).set (2 * i + 1) x)
  | none => none
theorem putME_eq (k x : D) (kvs : List D) : putME k x kvs = putM k x kvs := by
  unfold putME putM
  rw [findE_eq]
  cases findD k kvs with
  | none => rfl
  | some r => cases r <;> rfl
def eq1E (k : Nat) (d e : D) : Option Bool := match d, e with
  | .str a, .str b => match Nat.beq k 2 with
    | true => some (beqB a.data.toList b.data.toList)
    | false => none
  | d, e => eq1 k d e
theorem eq1E_eq (k : Nat) (d e : D) : eq1E k d e = eq1 k d e := by
  unfold eq1E
  split
  · rename_i a b
    cases hk : Nat.beq k 2 with
    | true =>
      have := Nat.eq_of_beq_eq_true hk
      subst this
      rw [beqB_ba]; rfl
    | false =>
      have := Nat.ne_of_beq_eq_false hk
      match k, this with
      | 0, _ => rfl
      | 1, _ => rfl
      | k + 3, _ => rfl
  · rfl
def eqAtE : List (Nat × Nat) → List D → List D → Option Bool
  | [], _, _ => some true
  | (o, k) :: os, l, m => match l[o]?, m[o]? with
    | some a, some b => match eq1E k a b with
      | some r => match eqAtE os l m with
        | some s => some (r && s)
        | none => none
      | none => none
    | _, _ => none
theorem eqAtE_eq : ∀ (os : List (Nat × Nat)) (l m : List D), eqAtE os l m = eqAt os l m
  | [], _, _ => rfl
  | (o, k) :: os, l, m => by
    rw [eqAtE, eqAt, eqAtE_eq os l m]
    simp only [eq1E_eq]
    cases l[o]? with
    | none => rfl
    | some a =>
      cases m[o]? with
      | none => rfl
      | some b =>
        simp only
        cases eq1 k a b with
        | none => rfl
        | some r => simp only; cases eqAt os l m <;> rfl
def stepE (env : Nat → D) (H : Nat → Blk) (nk : Nat) : IOp → Option Eff
  | .bin op x y => match getO env x, getO env y with
    | .str a, .str b => match strBinE op a b with
      | some d => some (d, [], [])
      | none => none
    | d, d' => match binD op d d' with
      | some d => some (d, [], [])
      | none => none
  | .slcS x lo hi => match getO env x with
    | .str s => match boundO env s.size hi with
      | some h => match boundO env 0 lo with
        | some l => if 0 ≤ l ∧ l ≤ h ∧ h ≤ s.size then some (.str ⟨⟨(s.data.toList.drop l.toNat).take (h.toNat - l.toNat)⟩⟩, [], []) else none
        | none => none
      | none => none
    | _ => none
  | .look kn ok z x k => match (getO env k).key kn with
    | true => match getO env x with
      | .mo b ver => match H b with
        | some (v, _, _, [.mp kvs]) => if v = ver then (match lookE (getO env k) kvs with | some r => some (foundD ok z r, [], [b]) | none => none) else none
        | _ => none
      | .mf kvs => match lookE (getO env k) kvs with
        | some r => some (foundD ok z r, [], [])
        | none => none
      | .nilm => some (foundD ok z none, [], [])
      | _ => none
    | false => none
  | .mput kn x k y => match getO env x with
    | .mo b ver => match H b with
      | some (v, t, s, [.mp kvs]) => if v = ver ∧ (getO env k).key kn = true ∧ (getO env y).boxable = true then (match putME (getO env k) (getO env y) kvs with | some kvs => some (.un, [(b, some (v, t, s, [.mp kvs]))], [b]) | none => none) else none
      | _ => none
    | _ => none
  | .seq os ne x y => match getO env x, getO env y with
    | .agg l, .agg m => match eqAtE os l m with
      | some r => some (.bool (if ne then !r else r), [], [])
      | none => none
    | _, _ => none
  | op => stepF env H nk op
theorem stepE_eq (env : Nat → D) (H : Nat → Blk) (nk : Nat) (op : IOp) : stepE env H nk op = stepF env H nk op := by
  cases op <;> try rfl
  case bin op x y =>
    simp only [stepE, stepF]
    split
    · rename_i a b h1 h2
      rw [h1, h2, strBinE_eq]
      simp only [binD]
      cases strBin op a b <;> rfl
    · cases binD op (getO env x) (getO env y) <;> rfl
  case slcS x lo hi =>
    simp only [stepE, stepF]
    cases getO env x <;> try rfl
    rename_i s
    simp only
    cases h2 : boundO env (↑s.size) hi with
    | none => rfl
    | some h =>
      cases h3 : boundO env 0 lo with
      | none => rfl
      | some l =>
        simp only [Option.bind_some]
        split
        · rename_i hc
          rw [ba_mk _ (s.extract l.toNat h.toNat) (by rw [ByteArray.data_extract, Array.toList_extract, List.extract_eq_take_drop])]
        · rfl
  case seq os ne x y =>
    have e : ∀ (l m : List D), (match eqAt os l m with | some r => some ((.bool (if ne then !r else r), [], []) : Eff) | none => none) = (eqAt os l m).map fun r => ((.bool (if ne then !r else r), [], []) : Eff) := fun l m => by
      cases eqAt os l m <;> rfl
    simp only [stepE, stepF, eqAtE_eq, e]
    rfl
  case look kn ok z x k =>
    have e : ∀ (kvs : List D) (g : Option D → Eff), (match lookE (getO env k) kvs with | some r => some (g r) | none => none) = (lookD (getO env k) kvs).map g := fun kvs g => by
      rw [lookE_eq]; cases lookD (getO env k) kvs <;> rfl
    simp only [stepE, stepF, e]
    cases (getO env k).key kn <;> rfl
  case mput kn x k y =>
    have e : ∀ (kvs : List D) (g : List D → Eff), (match putME (getO env k) (getO env y) kvs with | some r => some (g r) | none => none) = (putM (getO env k) (getO env y) kvs).map g := fun kvs g => by
      rw [putME_eq]; cases putM (getO env k) (getO env y) kvs <;> rfl
    simp only [stepE, stepF, e]
    rfl

/-! which own blocks are named -/
def kbB (k : Nat) : D → Bool
  | .own b _ _ _ => Nat.blt b k
  | .ptr b _ _ => Nat.blt b k
  | .agg cs => go k cs
  | .tup cs => go k cs
  | .fn _ cs => go k cs
  | .mo b _ => Nat.blt b k
  | .mp kvs => go k kvs
  | _ => true
  where go (k : Nat) : List D → Bool
  | [] => true
  | d :: l => match kbB k d with
    | true => go k l
    | false => false
theorem blt_ok {a b : Nat} (h : Nat.blt a b = true) : a < b := by
  unfold Nat.blt at h
  exact Nat.le_of_ble_eq_true h
mutual
theorem kbB_ok {k : Nat} : ∀ d, kbB k d = true → kb k d
  | .own b _ _ _, h => by simp only [kbB] at h; simp only [kb]; exact blt_ok h
  | .ptr b _ _, h => by simp only [kbB] at h; simp only [kb]; exact blt_ok h
  | .mo b _, h => by simp only [kbB] at h; simp only [kb]; exact blt_ok h
  | .agg cs, h => by simp only [kbB] at h; simp only [kb]; exact kbL_ok cs h
  | .tup cs, h => by simp only [kbB] at h; simp only [kb]; exact kbL_ok cs h
  | .fn _ cs, h => by simp only [kbB] at h; simp only [kb]; exact kbL_ok cs h
  | .mp cs, h => by simp only [kbB] at h; simp only [kb]; exact kbL_ok cs h
  | .un, _ | .null, _ | .nils, _ | .nilm, _ | .bool _, _ | .int _ _, _ | .str _, _ | .sl _ _, _ | .rp _, _ | .mf _, _ => by simp only [kb]
theorem kbL_ok {k : Nat} : ∀ l, kbB.go k l = true → kb.kbs k l
  | [], _ => by simp only [kb.kbs]
  | d :: l, h => by
    simp only [kbB.go] at h
    split at h
    · rename_i h1
      simp only [kb.kbs]
      exact ⟨kbB_ok d h1, kbL_ok l h⟩
    · cases h
end
mutual
theorem kb_mono {k m : Nat} (hkm : k ≤ m) : ∀ d, kb k d → kb m d
  | .own b _ _ _, h => by simp only [kb] at h ⊢; omega
  | .ptr b _ _, h => by simp only [kb] at h ⊢; omega
  | .mo b _, h => by simp only [kb] at h ⊢; omega
  | .agg cs, h => by simp only [kb] at h ⊢; exact kbs_mono hkm cs h
  | .tup cs, h => by simp only [kb] at h ⊢; exact kbs_mono hkm cs h
  | .fn _ cs, h => by simp only [kb] at h ⊢; exact kbs_mono hkm cs h
  | .mp cs, h => by simp only [kb] at h ⊢; exact kbs_mono hkm cs h
  | .un, _ | .null, _ | .nils, _ | .nilm, _ | .bool _, _ | .int _ _, _ | .str _, _ | .sl _ _, _ | .rp _, _ | .mf _, _ => by simp only [kb]
theorem kbs_mono {k m : Nat} (hkm : k ≤ m) : ∀ l, kb.kbs k l → kb.kbs m l
  | [], _ => by simp only [kb.kbs]
  | d :: l, h => by simp only [kb.kbs] at h ⊢; exact ⟨kb_mono hkm d h.1, kbs_mono hkm l h.2⟩
end
theorem kbH_mono {k m : Nat} (hkm : k ≤ m) : ∀ h : List Blk, kbH k h → kbH m h
  | [], _ => trivial
  | none :: l, hh => kbH_mono hkm l hh
  | some (v, t, s, cs) :: l, hh => ⟨kbs_mono hkm cs hh.1, kbH_mono hkm l hh.2⟩
def kbHB (k : Nat) : List Blk → Bool
  | [] => true
  | none :: l => kbHB k l
  | some (_, _, _, cs) :: l => match kbB.go k cs with
    | true => kbHB k l
    | false => false
theorem kbHB_ok {k : Nat} : ∀ h, kbHB k h = true → kbH k h
  | [], _ => trivial
  | none :: l, h => kbHB_ok l h
  | some (_, _, _, cs) :: l, h => by
    simp only [kbHB] at h
    split at h
    · rename_i h1; exact ⟨kbL_ok cs h1, kbHB_ok l h⟩
    · cases h
theorem kbs_all {k : Nat} : ∀ {l : List D}, kb.kbs k l → ∀ d ∈ l, kb k d
  | [], _, d, hd => by simp at hd
  | x :: l, h, d, hd => by
    simp only [kb.kbs] at h
    rcases List.mem_cons.1 hd with rfl | hd
    · exact h.1
    · exact kbs_all h.2 d hd

/-! calls -/
abbrev Hnd := Bool → FuncId → List D → List Blk → Option (D × List Blk)
structure Gen (P : Program) (G : World → Prop) (f : FuncId) (xs : List D) (h : List Blk) (r : D) (h' : List Blk) : Prop where
  pcg : PCg P G f xs h r h'
  kr : kb h'.length r
  kh' : kbH h'.length h'
  len : h.length ≤ h'.length
structure HndOk (P : Program) (G : World → Prop) (hnd : Hnd) : Prop where
  pcr : ∀ f xs r h', hnd false f xs [] = some (r, h') → PCr P G f xs r
  gen : ∀ f xs h r h', hnd true f xs h = some (r, h') → Gen P G f xs h r h'
def pos (b : Nat) : List Nat → Nat → Option Nat
  | [], _ => none
  | k :: l, i => match Nat.beq k b with
    | true => some i
    | false => pos b l (i + 1)
theorem pos_ok {b : Nat} : ∀ {l : List Nat} {i j : Nat}, pos b l i = some j → ∃ n, j = i + n ∧ l[n]? = some b
  | [], i, j, h => by simp [pos] at h
  | k :: l, i, j, h => by
    simp only [pos] at h
    split at h
    · rename_i hk
      cases h
      exact ⟨0, rfl, by rw [Nat.eq_of_beq_eq_true hk]; rfl⟩
    · obtain ⟨n, h1, h2⟩ := pos_ok h
      exact ⟨n + 1, by omega, h2⟩
def inD (κ : List Nat) : D → Option D
  | .own b v o n => match pos b κ 0 with
    | some i => some (.own i v o n)
    | none => none
  | .ptr b v o => match pos b κ 0 with
    | some i => some (.ptr i v o)
    | none => none
  | .mo b v => match pos b κ 0 with
    | some i => some (.mo i v)
    | none => none
  | .agg cs => match go κ cs with
    | some cs => some (.agg cs)
    | none => none
  | .tup cs => match go κ cs with
    | some cs => some (.tup cs)
    | none => none
  | .fn f cs => match go κ cs with
    | some cs => some (.fn f cs)
    | none => none
  | .mp cs => match go κ cs with
    | some cs => some (.mp cs)
    | none => none
  | .un => some .un
  | .null => some .null
  | .nils => some .nils
  | .nilm => some .nilm
  | .bool b => some (.bool b)
  | .int k n => some (.int k n)
  | .str s => some (.str s)
  | .sl n cs => some (.sl n cs)
  | .rp cs => some (.rp cs)
  | .mf kvs => some (.mf kvs)
  where go (κ : List Nat) : List D → Option (List D)
  | [] => some []
  | d :: l => match inD κ d with
    | some d => match go κ l with
      | some l => some (d :: l)
      | none => none
    | none => none
theorem pos_ren {κ m : List Nat} {b i : Nat} (h : pos b κ 0 = some i) : (κ ++ m).getD i 0 = b ∧ i < κ.length := by
  obtain ⟨n, h1, h2⟩ := pos_ok h
  have h3 : i < κ.length := by have := (List.getElem?_eq_some_iff.1 h2).1; omega
  refine ⟨?_, h3⟩
  rw [List.getD_eq_getElem?_getD, List.getElem?_append_left h3, show i = n by omega, h2]; rfl
mutual
theorem inD_ok {κ m : List Nat} : ∀ (d d' : D), inD κ d = some d' → d'.ren (κ ++ m) = d ∧ kb κ.length d'
  | .own b v o n, d', h => by
    simp only [inD] at h
    split at h
    · rename_i i hi
      cases h
      obtain ⟨h1, h2⟩ := pos_ren (m := m) hi
      simp only [D.ren, kb, h1, h2, and_self]
    · cases h
  | .ptr b v o, d', h => by
    simp only [inD] at h
    split at h
    · rename_i i hi
      cases h
      obtain ⟨h1, h2⟩ := pos_ren (m := m) hi
      simp only [D.ren, kb, h1, h2, and_self]
    · cases h
  | .mo b v, d', h => by
    simp only [inD] at h
    split at h
    · rename_i i hi
      cases h
      obtain ⟨h1, h2⟩ := pos_ren (m := m) hi
      simp only [D.ren, kb, h1, h2, and_self]
    · cases h
  | .agg cs, d', h => by
    simp only [inD] at h
    split at h
    · rename_i cs' hc
      cases h
      obtain ⟨h1, h2⟩ := inL_ok (m := m) cs cs' hc
      simp only [D.ren, kb, h1, h2, and_self]
    · cases h
  | .tup cs, d', h => by
    simp only [inD] at h
    split at h
    · rename_i cs' hc
      cases h
      obtain ⟨h1, h2⟩ := inL_ok (m := m) cs cs' hc
      simp only [D.ren, kb, h1, h2, and_self]
    · cases h
  | .fn f cs, d', h => by
    simp only [inD] at h
    split at h
    · rename_i cs' hc
      cases h
      obtain ⟨h1, h2⟩ := inL_ok (m := m) cs cs' hc
      simp only [D.ren, kb, h1, h2, and_self]
    · cases h
  | .mp cs, d', h => by
    simp only [inD] at h
    split at h
    · rename_i cs' hc
      cases h
      obtain ⟨h1, h2⟩ := inL_ok (m := m) cs cs' hc
      simp only [D.ren, kb, h1, h2, and_self]
    · cases h
  | .un, d', h | .null, d', h | .nils, d', h | .nilm, d', h | .bool _, d', h | .int _ _, d', h | .str _, d', h | .sl _ _, d', h | .rp _, d', h | .mf _, d', h => by
    simp only [inD, Option.some.injEq] at h
    subst h
    simp only [D.ren, kb, and_self]
theorem inL_ok {κ m : List Nat} : ∀ (l l' : List D), inD.go κ l = some l' → D.ren.rens (κ ++ m) l' = l ∧ kb.kbs κ.length l'
  | [], l', h => by
    simp only [inD.go, Option.some.injEq] at h
    subst h
    simp only [D.ren.rens, kb.kbs, and_self]
  | d :: l, l', h => by
    simp only [inD.go] at h
    split at h
    · rename_i d1 h1
      split at h
      · rename_i l1 h2
        cases h
        obtain ⟨p1, p2⟩ := inD_ok (m := m) d d1 h1
        obtain ⟨q1, q2⟩ := inL_ok (m := m) l l1 h2
        simp only [D.ren.rens, kb.kbs, p1, p2, q1, q2, and_self]
      · cases h
    · cases h
end
def inH (κ : List Nat) : List Blk → Option (List Blk)
  | [] => some []
  | none :: l => match inH κ l with
    | some l => some (none :: l)
    | none => none
  | some (v, t, s, cs) :: l => match inD.go κ cs with
    | some cs => match inH κ l with
      | some l => some (some (v, t, s, cs) :: l)
      | none => none
    | none => none
theorem inH_ok {κ m : List Nat} : ∀ (h h' : List Blk), inH κ h = some h' → h'.map (renB (κ ++ m)) = h ∧ kbH κ.length h' ∧ h'.length = h.length
  | [], h', e => by cases e; exact ⟨rfl, trivial, rfl⟩
  | none :: l, h', e => by
    simp only [inH] at e
    split at e
    · rename_i l' hl
      cases e
      obtain ⟨h1, h2, h3⟩ := inH_ok (m := m) l l' hl
      exact ⟨by rw [List.map_cons, h1]; rfl, h2, by simp [h3]⟩
    · cases e
  | some (v, t, s, cs) :: l, h', e => by
    simp only [inH] at e
    split at e
    · rename_i cs' hc
      split at e
      · rename_i l' hl
        cases e
        obtain ⟨h1, h2, h3⟩ := inH_ok (m := m) l l' hl
        obtain ⟨p1, p2⟩ := inL_ok (m := m) cs cs' hc
        refine ⟨?_, ⟨p2, h2⟩, by simp [h3]⟩
        rw [List.map_cons, h1]
        simp only [renB]
        rw [← rens_map, p1]
      · cases e
    · cases e
def keysD : D → List Nat → List Nat
  | .own b _ _ _, acc => b :: acc
  | .ptr b _ _, acc => b :: acc
  | .mo b _, acc => b :: acc
  | .agg cs, acc => go cs acc
  | .tup cs, acc => go cs acc
  | .fn _ cs, acc => go cs acc
  | .mp cs, acc => go cs acc
  | _, acc => acc
  where go : List D → List Nat → List Nat
  | [], acc => acc
  | d :: l, acc => keysD d (go l acc)
def elemN (b : Nat) : List Nat → Bool
  | [] => false
  | k :: l => match Nat.beq k b with
    | true => true
    | false => elemN b l
theorem elemN_ok {b : Nat} : ∀ {l : List Nat}, elemN b l = false → b ∉ l
  | [], _ => by simp
  | k :: l, h => by
    simp only [elemN] at h
    split at h
    · cases h
    · rename_i hk
      have := elemN_ok h
      have hne := Nat.ne_of_beq_eq_false hk
      simp only [List.mem_cons, not_or]
      exact ⟨fun e => hne e.symm, this⟩
def closeK (heap : List Blk) : Nat → List Nat → List Nat → List Nat
  | 0, _, acc => acc
  | _ + 1, [], acc => acc
  | n + 1, k :: l, acc => frcN k fun k => match elemN k acc with
    | true => closeK heap n l acc
    | false => match hv heap k with
      | some (_, _, _, cs) => closeK heap n (keysD.go cs l) (k :: acc)
      | none => closeK heap n l (k :: acc)
def nodupN : List Nat → Bool
  | [] => true
  | k :: l => match elemN k l with
    | true => false
    | false => nodupN l
theorem nodupN_ok : ∀ {l : List Nat}, nodupN l = true → l.Nodup
  | [], _ => List.nodup_nil
  | k :: l, h => by
    simp only [nodupN] at h
    split at h
    · cases h
    · rename_i hk
      exact List.nodup_cons.2 ⟨elemN_ok hk, nodupN_ok h⟩
def allLt (n : Nat) : List Nat → Bool
  | [] => true
  | k :: l => match Nat.blt k n with
    | true => allLt n l
    | false => false
theorem allLt_ok {n : Nat} : ∀ {l : List Nat}, allLt n l = true → ∀ b ∈ l, b < n
  | [], _, b, hb => by simp at hb
  | k :: l, h, b, hb => by
    simp only [allLt] at h
    split at h
    · rename_i hk
      rcases List.mem_cons.1 hb with rfl | hb
      · exact blt_ok hk
      · exact allLt_ok h b hb
    · cases h
def frcHp {α : Type} (h : List Blk) (k : List Blk → α) : α := match h with
  | [] => k []
  | x :: l => frcBlk x fun x => frcHp l fun l => k (x :: l)
theorem frcHp_eq {α : Type} : ∀ (h : List Blk) (k : List Blk → α), frcHp h k = k h
  | [], _ => rfl
  | x :: l, k => by rw [frcHp, frcBlk_eq, frcHp_eq l]
def callI (hnd : Hnd) (f : FuncId) (xs : List D) (heap : List Blk) : Option (D × List Blk × List Nat × List Nat) :=
  frcL (closeK heap 100000 (keysD.go xs []) []) fun κ0 => match nodupN κ0, allLt heap.length κ0 with
    | true, true => match inD.go κ0 xs, inH κ0 (κ0.map (hv heap)) with
      | some xs', some h => frcLD xs' fun xs' => frcHp h fun h => match hnd true f xs' h with
        | some (r, h') => frcL (κ0 ++ List.range' heap.length (h'.length - κ0.length)) fun κ => frcW (κ.zip (h'.map (renB κ))) fun ws => some (r.ren κ, setH heap ws, ws.map (·.1), κ0)
        | none => none
      | _, _ => none
    | _, _ => none
def callX (hnd : Hnd) (md : Nat) (f : FuncId) (args : List Opd) (env : Nat → D) (heap : List Blk) : Option (D × List Blk × List Nat × List Nat) := match md with
  | 0 => match resArgsE (hv heap) env args with
    | some p => match hnd false f p.1 [] with
      | some (r, _) => match r.flat with
        | true => some (r, heap, [], p.2)
        | false => frcL (setH heap (p.2.map fun b => (b, none))) fun h => some (r, h, (p.2.map fun b => ((b, none) : Nat × Blk)).map (·.1), p.2)
      | none => none
    | none => none
  | _ => frcLD (args.map (getO env)) fun xs => callI hnd f xs heap
section
variable {P : Program} {G : World → Prop} {hnd : Hnd}
theorem callX_ok (hh : HndOk P G hnd) {md : Nat} {f : FuncId} {args : List Opd} {env : Nat → D} {heap : List Blk} {d : D} {h' : List Blk} {ws rs : List Nat} (h : callX hnd md f args env heap = some (d, h', ws, rs)) {k : Eff → Prop}
    (hk : ∀ e : Eff, e.1 = d → setH heap e.2.1 = h' → e.2.1.map (·.1) = ws → e.2.2 = rs → k e) : aCall P G env (hv heap) heap.length f args k := by
  unfold callX at h
  split at h
  · rw [resArgsE_eq] at h
    split at h
    · rename_i p hp
      split at h
      · rename_i r h1 hr
        have hp' := hh.pcr _ _ _ _ hr
        left
        rw [hp]
        split at h
        · rename_i hf
          cases h
          exact ⟨_, false, hp', .inr hf, hk _ rfl rfl rfl rfl⟩
        · rw [frcL_eq] at h
          cases h
          exact ⟨_, true, hp', .inl rfl, hk _ rfl rfl rfl rfl⟩
      · cases h
    · cases h
  · rw [frcLD_eq] at h
    unfold callI at h
    rw [frcL_eq] at h
    obtain ⟨κ0, hκ⟩ : ∃ κ0, closeK heap 100000 (keysD.go (args.map (getO env)) []) [] = κ0 := ⟨_, rfl⟩
    rw [hκ] at h
    split at h
    · rename_i hn hlt
      have hn := nodupN_ok hn
      have hlt := allLt_ok hlt
      split at h
      · rename_i xs' h0 hx hh0
        simp only [frcLD_eq, frcHp_eq] at h
        split at h
        · rename_i r h1 hr
          simp only [frcL_eq, frcW_eq, Option.some.injEq, Prod.mk.injEq] at h
          obtain ⟨ha, hb, hc, hrs⟩ := h
          subst ha hb hc
          have g := hh.gen _ _ _ _ _ hr
          obtain ⟨κ, hκ'⟩ : ∃ κ, κ0 ++ List.range' heap.length (h1.length - κ0.length) = κ := ⟨_, rfl⟩
          have hx1 := inL_ok (m := List.range' heap.length (h1.length - κ0.length)) _ _ hx
          have hh1 := inH_ok (m := List.range' heap.length (h1.length - κ0.length)) _ _ hh0
          rw [hκ'] at hx1 hh1
          have e0 : h0.length = κ0.length := by rw [hh1.2.2, List.length_map]
          have e1 : κ.length = h1.length := by rw [← hκ', List.length_append, List.length_range']; have := g.len; omega
          have e2 : κ.take h0.length = κ0 := by rw [← hκ', e0, List.take_left]
          have e3 : κ.drop h0.length = List.range' heap.length (h1.length - κ0.length) := by rw [← hκ', e0, List.drop_left]
          rw [hκ'] at hk
          refine .inr ⟨κ, xs', h0, r, h1, ⟨?_, ?_, ⟨?_, by rw [e1]; exact g.len, e1.symm, ?_, fun i hi => ?_, fun b hb => ?_⟩, g.pcg⟩, hk _ rfl rfl rfl (by simp only [e2]; exact hrs)⟩
          · rw [← rens_map]; exact hx1.1.symm
          · intro x hxm
            exact kb_mono (by rw [e1, ← e0]; exact g.len) x (kbs_all hx1.2 x hxm)
          · rw [← hκ', List.nodup_append]
            refine ⟨hn, List.nodup_range', fun a ha b hb => ?_⟩
            have h1 := hlt a ha
            rw [List.mem_range'_1] at hb
            omega
          · exact kbH_mono (by rw [e1, ← e0]; exact g.len) _ hh1.2.1
          · have hi0 : i < κ0.length := by omega
            have h2 := congrArg (fun l => l[i]?) hh1.1
            simp only [List.getElem?_map, List.getElem?_eq_getElem hi, List.getElem?_eq_getElem hi0, Option.map_some, Option.some.injEq] at h2
            have h3 : κ.getD i 0 = κ0[i] := by rw [← hκ', List.getD_eq_getElem?_getD, List.getElem?_append_left hi0, List.getElem?_eq_getElem hi0]; rfl
            rw [h3, ← h2]
            unfold hv
            rw [List.getD_eq_getElem?_getD, List.getElem?_eq_getElem hi]; rfl
          · rw [e3] at hb ⊢
            rw [List.mem_range'_1] at hb ⊢
            omega
        · cases h
      · cases h
    · cases h
theorem callX_len {md : Nat} {f : FuncId} {args : List Opd} {env : Nat → D} {heap : List Blk} {d : D} {h' : List Blk} {ws rs : List Nat} (h : callX hnd md f args env heap = some (d, h', ws, rs)) : heap.length ≤ h'.length := by
  unfold callX at h
  split at h
  · split at h
    · split at h
      · split at h
        · cases h; exact Nat.le_refl _
        · rw [frcL_eq] at h; cases h; exact setH_len _ _
      · cases h
    · cases h
  · rw [frcLD_eq] at h
    unfold callI at h
    rw [frcL_eq] at h
    split at h
    · split at h
      · simp only [frcLD_eq, frcHp_eq] at h
        split at h
        · simp only [frcL_eq, frcW_eq] at h
          cases h; exact setH_len _ _
        · cases h
      · cases h
    · cases h
end

/-! code -/
structure ES where
  env : List D
  heap : List Blk
def lk (l : List D) (t : Nat) : D := l.getD t (.tup [])
def ES.st (s : ES) : St := ⟨lk s.env, s.heap⟩
def setE (l : List D) (t : Nat) (d : D) : Option (List D) := match l, t with
  | [], _ => none
  | _ :: l, 0 => some (d :: l)
  | x :: l, t + 1 => match setE l t d with
    | some l => some (x :: l)
    | none => none
theorem setE_lk : ∀ {l : List D} {t : Nat} {d : D} {l' : List D}, setE l t d = some l' → lk l' = putE (lk l) (some t) d
  | [], t, d, l', h => by simp [setE] at h
  | x :: l, 0, d, l', h => by
    simp only [setE, Option.some.injEq] at h
    subst h
    funext t
    cases t <;> simp [lk, putE]
  | x :: l, t + 1, d, l', h => by
    simp only [setE] at h
    split at h
    · rename_i l1 h1
      cases h
      have := setE_lk h1
      funext t'
      cases t' with
      | zero => simp [lk, putE]
      | succ t' => have := congrFun this t'; simpa [lk, putE] using this
    · cases h
def setO (l : List D) (dst : Option Nat) (d : D) : Option (List D) := match dst with
  | none => some l
  | some t => setE l t d
theorem setO_lk {l : List D} {dst : Option Nat} {d : D} {l' : List D} (h : setO l dst d = some l') : lk l' = putE (lk l) dst d := by
  cases dst with
  | none => cases h; exact putE_none.symm
  | some t => exact setE_lk h
def shal : IOp → Bool
  | .mv _ | .ext .. | .load .. | .fld .. | .nilck _ | .pick .. | .box .. | .store .. | .mput .. | .look .. | .isnil .. => true
  | _ => false
def postX (b : Bool) (heap : List Blk) : Option Eff → Option (D × List Blk × List Nat × List Nat)
  | some (d, ws, rs) => frcV b ws fun ws => match ws with
    | [] => some (d, heap, [], rs)
    | ws => frcL (setH heap ws) fun h => some (d, h, ws.map (·.1), rs)
  | none => none
theorem postX_ok {b : Bool} {heap : List Blk} {o : Option Eff} {d : D} {h' : List Blk} {ws rs : List Nat} (h : postX b heap o = some (d, h', ws, rs)) : ∃ e : Eff, o = some e ∧ e.1 = d ∧ setH heap e.2.1 = h' ∧ e.2.1.map (·.1) = ws ∧ e.2.2 = rs := by
  cases o with
  | none => cases h
  | some e =>
    obtain ⟨d1, ws1, rs1⟩ := e
    simp only [postX, frcV_eq, frcL_eq] at h
    split at h
    · cases h; exact ⟨_, rfl, rfl, rfl, rfl, rfl⟩
    · cases h; exact ⟨_, rfl, rfl, rfl, rfl, rfl⟩
def aX (hnd : Hnd) (md : FuncId → Nat) (okf : FuncId → Bool) (env : Nat → D) (heap : List Blk) (op : IOp) : Option (D × List Blk × List Nat × List Nat) := match op with
  | .call f args => callX hnd (md f) f args env heap
  | .dcall x args => match getO env x with
    | .fn f cs => match okf f with
      | true => callX hnd (md f) f (args ++ cs.map .c) env heap
      | false => none
    | _ => none
  | op => postX (shal op) heap (stepE env (hv heap) heap.length op)
def evOps (hnd : Hnd) (md : FuncId → Nat) (okf : FuncId → Bool) : List IOper → Tr → ES → Option (Tr × ES)
  | [], tr, s => frcL s.env fun l => some (tr, ⟨l, s.heap⟩)
  | o :: l, tr, s => match wantedI (lk s.env) o.guard with
    | some true => match aX hnd md okf (lk s.env) s.heap o.op with
      | some (d, h, ws, rs) => frcQ (shal o.op) d fun d => match setO s.env o.dst d with
        | some env => evOps hnd md okf l ((ws, rs) :: tr) ⟨env, h⟩
        | none => none
      | none => none
    | some false => match setO s.env o.dst (.tup []) with
      | some env => evOps hnd md okf l (([], []) :: tr) ⟨env, s.heap⟩
      | none => none
    | none => none
def iter (f : ES → Option (AEx × ES)) : Nat → ES → Option (AEx × ES)
  | 0, _ => none
  | k + 1, s => match f s with
    | some (.normal, s') => iter f k s'
    | o => o
def ev (hnd : Hnd) (md : FuncId → Nat) (okf : FuncId → Bool) (N : Nat) : IR → ES → Option (AEx × ES)
  | .skip, s => some (.normal, s)
  | .reg false ops _, s => match evOps hnd md okf ops [] s with
    | some (_, s) => some (.normal, s)
    | none => none
  | .reg true ops anc, s => match evOps hnd md okf ops [] s with
    | some (tr, s) => match clear anc tr with
      | true => some (.normal, s)
      | false => none
    | none => none
  | .seq a b, s => match ev hnd md okf N a s with
    | some (.normal, s') => ev hnd md okf N b s'
    | o => o
  | .cond c a b, s => match getO (lk s.env) c with
    | .bool t => match t with
      | true => ev hnd md okf N a s
      | false => ev hnd md okf N b s
    | _ => none
  | .block id a, s => match ev hnd md okf N a s with
    | some (.exit i, s') => match Nat.beq i id with
      | true => some (.normal, s')
      | false => some (.exit i, s')
    | o => o
  | .loop a, s => iter (ev hnd md okf N a) N s
  | .exit id, s => some (.exit id, s)
  | .ret, s => some (.ret, s)

section
variable {P : Program} {G : World → Prop} {hnd : Hnd} {md : FuncId → Nat} {okf : FuncId → Bool} {N : Nat}
theorem aX_ok (hc : HndOk P G hnd) (ho : ∀ f, okf f = true → okF P f = true) {env : Nat → D} {heap : List Blk} {op : IOp} {d : D} {h' : List Blk} {ws rs : List Nat} (h : aX hnd md okf env heap op = some (d, h', ws, rs)) {k : Eff → Prop}
    (hk : ∀ e : Eff, e.1 = d → setH heap e.2.1 = h' → e.2.1.map (·.1) = ws → e.2.2 = rs → k e) : aOp P G env (hv heap) heap.length op k := by
  have gen : ∀ (b : Bool) (o : Option Eff), postX b heap o = some (d, h', ws, rs) → kO o k := by
    intro b o h
    obtain ⟨e, rfl, h1, h2, h3, h4⟩ := postX_ok h
    exact hk e h1 h2 h3 h4
  cases op
  case call f args => exact callX_ok hc h hk
  case dcall x args =>
    simp only [aX] at h
    split at h
    · rename_i f cs hx
      split at h
      · rename_i hf
        exact ⟨f, cs, hx, ho f hf, callX_ok hc h hk⟩
      · cases h
    · cases h
  all_goals
    simp only [aX, stepE_eq] at h
    exact gen _ _ h
theorem aX_len (hc : HndOk P G hnd) {env : Nat → D} {heap : List Blk} {op : IOp} {d : D} {h' : List Blk} {ws rs : List Nat} (h : aX hnd md okf env heap op = some (d, h', ws, rs)) : heap.length ≤ h'.length := by
  have gen : ∀ (b : Bool) (o : Option Eff), postX b heap o = some (d, h', ws, rs) → heap.length ≤ h'.length := by
    intro b o h
    obtain ⟨e, rfl, h1, h2, h3, h4⟩ := postX_ok h
    rw [← h2]
    exact setH_len _ _
  cases op
  case call f args => exact callX_len h
  case dcall x args =>
    simp only [aX] at h
    split at h
    · split at h
      · exact callX_len h
      · cases h
    · cases h
  all_goals
    simp only [aX, stepE_eq] at h
    exact gen _ _ h
theorem evOps_ok (hc : HndOk P G hnd) (ho : ∀ f, okf f = true → okF P f = true) {K : Tr → St → Prop} : ∀ (l : List IOper) (tr tr' : Tr) (s s' : ES), evOps hnd md okf l tr s = some (tr', s') → K tr' s'.st → awpOps P G K l tr s.st
  | [], tr, tr', s, s', h, hk => by
    simp only [evOps, frcL_eq, Option.some.injEq, Prod.mk.injEq] at h
    obtain ⟨rfl, rfl⟩ := h
    exact hk
  | o :: l, tr, tr', s, s', h, hk => by
    simp only [evOps, frcQ_eq] at h
    show awpOps P G K (o :: l) tr ⟨lk s.env, s.heap⟩
    simp only [awpOps]
    split at h
    · rename_i hw
      split at h
      · rename_i d h1 ws rs he
        split at h
        · rename_i env hs
          rw [hw]
          refine aX_ok hc ho he fun e e1 e2 e3 e4 => ?_
          have := evOps_ok hc ho l _ _ _ _ h hk
          have hst : (⟨env, h1⟩ : ES).st = St.eff ⟨lk s.env, s.heap⟩ o.dst e := by
            show St.mk _ _ = St.mk _ _
            rw [setO_lk hs, e1, e2]
          rw [hst] at this
          rw [e3, e4]
          exact this
        · cases h
      · cases h
    · rename_i hw
      split at h
      · rename_i env hs
        rw [hw]
        have := evOps_ok hc ho l _ _ _ _ h hk
        have hst : (⟨env, s.heap⟩ : ES).st = St.eff ⟨lk s.env, s.heap⟩ o.dst (.tup [], [], []) := by
          show St.mk _ _ = St.mk _ _
          rw [setO_lk hs]; rfl
        rw [hst] at this
        exact this
      · cases h
    · cases h
theorem evOps_len (hc : HndOk P G hnd) : ∀ (l : List IOper) (tr tr' : Tr) (s s' : ES), evOps hnd md okf l tr s = some (tr', s') → s.heap.length ≤ s'.heap.length
  | [], tr, tr', s, s', h => by
    simp only [evOps, frcL_eq, Option.some.injEq, Prod.mk.injEq] at h
    obtain ⟨rfl, rfl⟩ := h
    exact Nat.le_refl _
  | o :: l, tr, tr', s, s', h => by
    simp only [evOps, frcQ_eq] at h
    split at h
    · split at h
      · rename_i d h1 ws rs he
        split at h
        · exact Nat.le_trans (aX_len hc he) (evOps_len hc l _ _ _ _ h)
        · cases h
      · cases h
    · split at h
      · rename_i env he
        exact evOps_len hc l _ _ ⟨env, s.heap⟩ _ h
      · cases h
    · cases h
theorem iter_len {f : ES → Option (AEx × ES)} (hf : ∀ s e s', f s = some (e, s') → s.heap.length ≤ s'.heap.length) : ∀ (k : Nat) (s : ES) (e : AEx) (s' : ES), iter f k s = some (e, s') → s.heap.length ≤ s'.heap.length
  | 0, s, e, s', h => by simp [iter] at h
  | k + 1, s, e, s', h => by
    simp only [iter] at h
    split at h
    · rename_i s2 h2
      exact Nat.le_trans (hf _ _ _ h2) (iter_len hf k _ _ _ h)
    · exact hf _ _ _ h
theorem ev_len (hc : HndOk P G hnd) : ∀ (ir : IR) (s : ES) (e : AEx) (s' : ES), ev hnd md okf N ir s = some (e, s') → s.heap.length ≤ s'.heap.length
  | .skip, s, e, s', h => by cases h; exact Nat.le_refl _
  | .reg false ops anc, s, e, s', h => by
    simp only [ev] at h
    split at h
    · rename_i tr s1 h1
      cases h
      exact evOps_len hc _ _ _ _ _ h1
    · cases h
  | .reg true ops anc, s, e, s', h => by
    simp only [ev] at h
    split at h
    · rename_i tr s1 h1
      split at h
      · cases h
        exact evOps_len hc _ _ _ _ _ h1
      · cases h
    · cases h
  | .seq a b, s, e, s', h => by
    simp only [ev] at h
    split at h
    · rename_i s1 h1
      exact Nat.le_trans (ev_len hc a _ _ _ h1) (ev_len hc b _ _ _ h)
    · exact ev_len hc a _ _ _ h
  | .cond c a b, s, e, s', h => by
    simp only [ev] at h
    split at h
    · split at h
      · exact ev_len hc a _ _ _ h
      · exact ev_len hc b _ _ _ h
    · cases h
  | .block id a, s, e, s', h => by
    simp only [ev] at h
    split at h
    · rename_i i s1 h1
      split at h
      · cases h; exact ev_len hc a _ _ _ h1
      · cases h; exact ev_len hc a _ _ _ h1
    · exact ev_len hc a _ _ _ h
  | .loop a, s, e, s', h => by
    simp only [ev] at h
    exact iter_len (fun s e s' h => ev_len hc a s e s' h) N s e s' h
  | .exit id, s, e, s', h => by cases h; exact Nat.le_refl _
  | .ret, s, e, s', h => by cases h; exact Nat.le_refl _
theorem ev_ok (hc : HndOk P G hnd) (ho : ∀ f, okf f = true → okF P f = true) {m : Nat} : ∀ (ir : IR) (s s' : ES) (e : AEx) (Q : AEx → St → Prop), m ≤ s.heap.length → ev hnd md okf N ir s = some (e, s') → Q e s'.st → awp P G m ir Q s.st
  | .skip, s, s', e, Q, hm, h, hq => by
    simp only [ev, Option.some.injEq, Prod.mk.injEq] at h
    obtain ⟨rfl, rfl⟩ := h
    exact hq
  | .reg false ops anc, s, s', e, Q, hm, h, hq => by
    simp only [ev] at h
    split at h
    · rename_i tr s1 h1
      simp only [Option.some.injEq, Prod.mk.injEq] at h
      obtain ⟨rfl, rfl⟩ := h
      exact awp_reg_i (evOps_ok hc ho ops [] tr s s1 h1 hq)
    · cases h
  | .reg true ops anc, s, s', e, Q, hm, h, hq => by
    simp only [ev] at h
    split at h
    · rename_i tr s1 h1
      split at h
      · rename_i hcl
        simp only [Option.some.injEq, Prod.mk.injEq] at h
        obtain ⟨rfl, rfl⟩ := h
        exact awp_draw_i (evOps_ok hc ho ops [] tr s s1 h1 ⟨hcl, hq⟩)
      · cases h
    · cases h
  | .seq a b, s, s', e, Q, hm, h, hq => by
    refine awp_seq_i ?_
    simp only [ev] at h
    split at h
    · rename_i s1 h1
      exact ev_ok hc ho a s s1 .normal _ hm h1 (then_normal_i (ev_ok hc ho b s1 s' e Q (Nat.le_trans hm (ev_len hc a _ _ _ h1)) h hq))
    · rename_i h1
      refine ev_ok hc ho a s s' e _ hm h ?_
      cases e with
      | normal => exact absurd h (h1 s')
      | exit id => exact hq
      | ret => exact hq
  | .cond c a b, s, s', e, Q, hm, h, hq => by
    simp only [ev] at h
    show awp P G m (.cond c a b) Q ⟨lk s.env, s.heap⟩
    split at h
    · rename_i t ht
      rw [awp_cond ht]
      split at h
      · exact ev_ok hc ho a s s' e Q hm h hq
      · exact ev_ok hc ho b s s' e Q hm h hq
    · cases h
  | .block id a, s, s', e, Q, hm, h, hq => by
    refine awp_block_i ?_
    simp only [ev] at h
    split at h
    · rename_i i s1 h1
      refine ev_ok hc ho a s s1 (.exit i) _ hm h1 ?_
      rw [inBlock_exit]
      split at h
      · rename_i hb
        simp only [Option.some.injEq, Prod.mk.injEq] at h
        obtain ⟨rfl, rfl⟩ := h
        rw [if_pos (Nat.eq_of_beq_eq_true hb)]
        exact hq
      · rename_i hb
        simp only [Option.some.injEq, Prod.mk.injEq] at h
        obtain ⟨rfl, rfl⟩ := h
        rw [if_neg (Nat.ne_of_beq_eq_false hb)]
        exact hq
    · rename_i h1
      refine ev_ok hc ho a s s' e _ hm h ?_
      cases e with
      | normal => exact hq
      | exit i => exact absurd h (h1 i s')
      | ret => exact hq
  | .loop a, s, s', e, Q, hm, h, hq => by
    simp only [ev] at h
    refine awp_loopm (fun k σ => ∃ s1 : ES, σ = s1.st ∧ m ≤ s1.heap.length ∧ iter (ev hnd md okf N a) k s1 = some (e, s')) N (Ent.refl _) ⟨s, rfl, hm, h⟩ ?_ ?_
    · rintro k σ1 ⟨s1, rfl, hm1, h1⟩
      exact hm1
    rintro k σ1 ⟨s1, rfl, hm1, h1⟩
    cases k with
    | zero => simp [iter] at h1
    | succ k =>
      simp only [iter] at h1
      split at h1
      · rename_i s2 h2
        exact ev_ok hc ho a s1 s2 .normal _ hm1 h2 (then_normal_i ⟨k, s2.st, by omega, Ent.refl _, s2, rfl, Nat.le_trans hm1 (ev_len hc a _ _ _ h2), h1⟩)
      · rename_i h2
        refine ev_ok hc ho a s1 s' e _ hm1 h1 ?_
        cases e with
        | normal => exact absurd h1 (h2 s')
        | exit i => exact hq
        | ret => exact hq
  | .exit id, s, s', e, Q, hm, h, hq => by
    simp only [ev, Option.some.injEq, Prod.mk.injEq] at h
    obtain ⟨rfl, rfl⟩ := h
    exact hq
  | .ret, s, s', e, Q, hm, h, hq => by
    simp only [ev, Option.some.injEq, Prod.mk.injEq] at h
    obtain ⟨rfl, rfl⟩ := h
    exact hq
end

/-! functions -/
inductive FnE where
  | ir (c : IR) (n : Nat) (rv : List RV)
  | inl (c : IR) (n : Nat) (rv : List RV)
  | lib (g : List D → Option D)
  | no
def FnE.code : FnE → Option (IR × Nat × List RV)
  | .ir c n rv | .inl c n rv => some (c, n, rv)
  | _ => none
def FnE.md : FnE → Nat
  | .inl .. => 1
  | _ => 0
def FnE.fv : FnE → Bool
  | .ir .. | .inl .. => true
  | _ => false
def ini0 : Nat → List D → List D
  | 0, _ => []
  | n + 1, [] => .tup [] :: ini0 n []
  | n + 1, x :: xs => x :: ini0 n xs
theorem lk_ini0 : ∀ (n : Nat) (xs : List D), xs.length ≤ n → lk (ini0 n xs) = ini xs
  | 0, [], _ => by funext t; simp [lk, ini0, ini]
  | 0, x :: xs, h => by simp at h
  | n + 1, [], _ => by
    have := lk_ini0 n [] (by simp)
    funext t
    cases t with
    | zero => simp [lk, ini0, ini]
    | succ t => have := congrFun this t; simpa [lk, ini0, ini] using this
  | n + 1, x :: xs, h => by
    have := lk_ini0 n xs (by simpa using h)
    funext t
    cases t with
    | zero => simp [lk, ini0, ini]
    | succ t => have := congrFun this t; simpa [lk, ini0, ini] using this
def rvE (H : Nat → Blk) (env : Nat → D) : List RV → Option (List D)
  | [] => some []
  | x :: l => match rvD H env x with
    | some d => match rvE H env l with
      | some l => some (d :: l)
      | none => none
    | none => none
theorem rvE_eq {H : Nat → Blk} {env : Nat → D} : ∀ l, rvE H env l = rvDs H env l
  | [] => rfl
  | x :: l => by
    rw [rvE, rvDs, rvE_eq l]
    cases rvD H env x with
    | none => rfl
    | some d => cases rvDs H env l <;> rfl
def AEx.ends : AEx → Bool
  | .exit _ => false
  | _ => true
def evC (hnd : Hnd) (md : FuncId → Nat) (okf : FuncId → Bool) (N : Nat) (c : IR × Nat × List RV) (xs : List D) (h : List Blk) : Option (List D × List Blk) := match Nat.ble xs.length c.2.1 with
  | true => match ev hnd md okf N c.1 ⟨ini0 c.2.1 xs, h⟩ with
    | some (e, s) => match e.ends with
      | true => match rvE (hv s.heap) (lk s.env) c.2.2 with
        | some ds => some (ds, s.heap)
        | none => none
      | false => none
    | none => none
  | false => none
def evG (p : Option (List D × List Blk)) (h : List Blk) : Option (D × List Blk) := match p with
  | some (ds, h') => match Nat.ble h.length h'.length with
    | true => match kbB h'.length (one? ds), kbHB h'.length h' with
      | true, true => frcD (one? ds) fun r => some (r, h')
      | _, _ => none
    | false => none
  | none => none
def evR (tbl : FuncId → FnE) (N : Nat) : Nat → Hnd
  | 0, _, _, _, _ => none
  | k + 1, g, f, xs, h => match tbl f with
    | .lib p => match g with
      | false => match p xs with
        | some r => some (r, [])
        | none => none
      | true => none
    | e => match e.code with
      | some c => match g with
        | false => match evC (evR tbl N k) (fun f => (tbl f).md) (fun f => (tbl f).fv) N c xs [] with
          | some (ds, h') => match resE (hv h') 6 (one? ds) with
            | some (r, _) => frcD r fun r => some (r, [])
            | none => none
          | none => none
        | true => evG (evC (evR tbl N k) (fun f => (tbl f).md) (fun f => (tbl f).fv) N c xs h) h
      | none => none
def evF (tbl : FuncId → FnE) (N : Nat) (k : Nat) (f : FuncId) (xs : List D) : Option D := match evR tbl N k false f xs [] with
  | some (r, _) => some r
  | none => none
def IrOk (P : Program) (f : FuncId) (c : IR) (n : Nat) (rv : List RV) : Prop := ∃ fn, P.funcs[f]? = some fn ∧ fn.body.bind (comp P) = some c ∧ compRes P fn.results.toList = some rv ∧ fn.results.toList.length ≤ 4 ∧ fn.ntmps = n ∧ dstOk n c = true ∧ okF P f = true
def FnE.ok (P : Program) (G : World → Prop) (f : FuncId) : FnE → Prop
  | .ir c n rv => IrOk P f c n rv
  | .inl c n rv => IrOk P f c n rv
  | .lib g => ∀ xs r, g xs = some r → PCr P G f xs r
  | .no => True
theorem FnE.ok_code {P : Program} {G : World → Prop} {f : FuncId} {e : FnE} (h : e.ok P G f) {c : IR × Nat × List RV} (hc : e.code = some c) : IrOk P f c.1 c.2.1 c.2.2 := by
  cases e <;> simp [FnE.code] at hc <;> subst hc <;> exact h
theorem FnE.ok_fv {P : Program} {G : World → Prop} {f : FuncId} {e : FnE} (h : e.ok P G f) (hc : e.fv = true) : okF P f = true := by
  cases e <;> simp [FnE.fv] at hc
  all_goals
    obtain ⟨fn, _, _, _, _, _, _, h⟩ := h
    exact h
section
variable {P : Program} {G : World → Prop} {tbl : FuncId → FnE} {N : Nat}
theorem evR_ok (hG : Stable G) (ht : ∀ f, (tbl f).ok P G f) : ∀ k : Nat, HndOk P G (evR tbl N k)
  | 0 => ⟨fun _ _ _ _ h => by simp [evR] at h, fun _ _ _ _ _ h => by simp [evR] at h⟩
  | k + 1 => by
    have ih := evR_ok hG ht k
    have ho : ∀ f, (tbl f).fv = true → okF P f = true := fun f hf => FnE.ok_fv (ht f) hf
    refine ⟨fun f xs r h' h => ?_, fun f xs h r h' hh => ?_⟩
    · have h0 := ht f
      simp only [evR] at h
      split at h
      · rename_i g hf
        rw [hf] at h0
        split at h
        · rename_i r' hr
          cases h
          exact h0 _ _ hr
        · cases h
      · split at h
        · rename_i c hc
          obtain ⟨fn, h1, h2, h3, h4, h5, h6, _⟩ := FnE.ok_code h0 hc
          split at h
          · rename_i ds hp hev
            unfold evC at hev
            split at hev
            · rename_i hle
              split at hev
              · rename_i e s hes
                split at hev
                · rename_i hend
                  split at hev
                  · rename_i ds' hds
                    cases hev
                    split at h
                    · rename_i r' ks hr
                      rw [frcD_eq] at h
                      cases h
                      rw [rvE_eq] at hds
                      rw [resE_eq] at hr
                      have hle' := Nat.le_of_ble_eq_true hle
                      refine pcr_of_awp hG h1 h2 h3 h4 h5 hle' h6 ?_
                      have hst : (⟨ini0 c.2.1 xs, []⟩ : ES).st = st0 xs := by
                        show St.mk _ _ = St.mk _ _
                        rw [lk_ini0 _ xs hle']
                      rw [← hst]
                      refine ev_ok ih ho c.1 _ s e _ (Nat.zero_le _) hes ⟨?_, ks, ?_⟩
                      · cases e with
                        | exit id => cases hend
                        | normal => trivial
                        | ret => trivial
                      · show ((rvDs (hv s.heap) (lk s.env) c.2.2).bind _) = _
                        rw [hds]; exact hr
                    · cases h
                  · cases hev
                · cases hev
              · cases hev
            · cases hev
          · cases h
        · cases h
    · have h0 := ht f
      simp only [evR] at hh
      split at hh
      · cases hh
      · split at hh
        · rename_i c hc
          obtain ⟨fn, h1, h2, h3, h4, h5, h6, _⟩ := FnE.ok_code h0 hc
          unfold evG at hh
          split at hh
          · rename_i ds hp hev
            unfold evC at hev
            split at hev
            · rename_i hle
              split at hev
              · rename_i e s hes
                split at hev
                · rename_i hend
                  split at hev
                  · rename_i ds' hds
                    cases hev
                    split at hh
                    · rename_i hlen
                      split at hh
                      · rename_i hk1 hk3
                        rw [frcD_eq] at hh
                        cases hh
                        rw [rvE_eq] at hds
                        have hle' := Nat.le_of_ble_eq_true hle
                        have hlen' := Nat.le_of_ble_eq_true hlen
                        have k1 := kbB_ok _ hk1
                        refine ⟨?_, k1, kbHB_ok _ hk3, hlen'⟩
                        refine pcg_by h1 h2 h3 h4 h5 hle' h6 hlen' fun r0 hh0 er eh => ?_
                        subst er eh
                        have hst : (⟨ini0 c.2.1 xs, h⟩ : ES).st = ⟨ini xs, h⟩ := by
                          show St.mk _ _ = St.mk _ _
                          rw [lk_ini0 _ xs hle']
                        rw [← hst]
                        refine ev_ok ih ho c.1 _ s e _ (Nat.le_refl _) hes ⟨?_, [], ds, ?_, hds, rfl, k1, kbHB_ok _ hk3⟩
                        · cases e with
                          | exit id => cases hend
                          | normal => trivial
                          | ret => trivial
                        · show s.heap = s.heap ++ []
                          rw [List.append_nil]
                      · cases hh
                    · cases hh
                  · cases hev
                · cases hev
              · cases hev
            · cases hev
          · cases hh
        · cases hh
theorem evF_ok (hG : Stable G) (ht : ∀ f, (tbl f).ok P G f) (k : Nat) (f : FuncId) (xs : List D) (r : D) (h : evF tbl N k f xs = some r) : PCr P G f xs r := by
  unfold evF at h
  split at h
  · rename_i r' h' hr
    cases h
    exact (evR_ok hG ht k).pcr _ _ _ _ hr
  · cases h
end
end Go.Proofs.YticocfhgopppjaaDoorK.AI
