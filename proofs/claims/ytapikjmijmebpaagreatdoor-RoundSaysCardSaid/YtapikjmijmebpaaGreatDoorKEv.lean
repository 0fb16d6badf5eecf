/-
  The abstract interpreter, part 21: closed calls are run (evF): what comes out is the call's contract.
-/
import Derived.Test.YtapikjmijmebpaaGreatDoorKAc
import Derived.ChangeKeysEq
set_option linter.all false
set_option linter.unusedVariables false
set_option linter.unusedSimpArgs false
set_option maxHeartbeats 4000000
namespace Go.Proofs.YtapikjmijmebpaaGreatDoorK.AI
open Go.RowKit

/-! values are told out, so that no work piles up -/
section
variable {α : Type}
def frcN (n : Nat) (k : Nat → α) : α := match n with | 0 => k 0 | m + 1 => k (m + 1)
def frcI (n : Int) (k : Int → α) : α := match n with | .ofNat m => frcN m fun m => k (.ofNat m) | .negSucc m => frcN m fun m => k (.negSucc m)
def frcB (b : Bool) (k : Bool → α) : α := match b with | true => k true | false => k false
def frcL {β : Type} (l : List β) (k : List β → α) : α := match l with | [] => k [] | x :: l => frcL l fun l => k (x :: l)
def frcS (s : ByteArray) (k : ByteArray → α) : α := match s with | ⟨⟨l⟩⟩ => frcL l fun l => k ⟨⟨l⟩⟩
def frc1 (d : D) (k : D → α) : α := match d with
  | .bool b => frcB b fun b => k (.bool b)
  | .int q n => frcI n fun n => k (.int q n)
  | .str s => frcS s fun s => k (.str s)
  | .ptr b v o => frcN b fun b => frcN v fun v => frcN o fun o => k (.ptr b v o)
  | .own b v o n => frcN b fun b => frcN v fun v => frcN o fun o => frcN n fun n => k (.own b v o n)
  | .sl n cs => frcN n fun n => frcL cs fun cs => k (.sl n cs)
  | .rp cs => frcL cs fun cs => k (.rp cs)
  | .agg cs => frcL cs fun cs => k (.agg cs)
  | .tup cs => frcL cs fun cs => k (.tup cs)
  | .un => k .un
  | .null => k .null
  | .nils => k .nils
def frcLD (l : List D) (k : List D → α) : α := match l with | [] => k [] | x :: l => frc1 x fun x => frcLD l fun l => k (x :: l)
def frcD (d : D) (k : D → α) : α := match d with
  | .agg cs => frcLD cs fun cs => k (.agg cs)
  | .tup cs => frcLD cs fun cs => k (.tup cs)
  | d => frc1 d k
def frcBlk (b : Blk) (k : Blk → α) : α := match b with
  | none => k none
  | some (v, t, s, cs) => frcN v fun v => frcN t fun t => frcN s fun s => frcLD cs fun cs => k (some (v, t, s, cs))
def frcW (l : List (Nat × Blk)) (k : List (Nat × Blk) → α) : α := match l with
  | [] => k []
  | (b, x) :: l => frcN b fun b => frcBlk x fun x => frcW l fun l => k ((b, x) :: l)
/-! what was told out before is not told out again -/
def frc0 (d : D) (k : D → α) : α := match d with
  | .un => k .un
  | .null => k .null
  | .nils => k .nils
  | .bool b => k (.bool b)
  | .int q n => k (.int q n)
  | .str s => k (.str s)
  | .agg cs => k (.agg cs)
  | .tup cs => k (.tup cs)
  | .sl n cs => k (.sl n cs)
  | .rp cs => k (.rp cs)
  | .own b v o n => k (.own b v o n)
  | .ptr b v o => k (.ptr b v o)
def frcL0 (l : List D) (k : List D → α) : α := match l with | [] => k [] | x :: l => frc0 x fun x => frcL0 l fun l => k (x :: l)
def frcH (d : D) (k : D → α) : α := match d with
  | .agg cs => frcL0 cs fun cs => k (.agg cs)
  | .tup cs => frcL0 cs fun cs => k (.tup cs)
  | d => frc0 d k
def frcW0 (l : List (Nat × Blk)) (k : List (Nat × Blk) → α) : α := match l with
  | [] => k []
  | (b, x) :: l => frcN b fun b => match x with
    | none => frcW0 l fun l => k ((b, none) :: l)
    | some (v, t, s, cs) => frcN v fun v => frcL0 cs fun cs => frcW0 l fun l => k ((b, some (v, t, s, cs)) :: l)
def frcQ (b : Bool) (d : D) (k : D → α) : α := match b with | true => frcH d k | false => frcD d k
def frcV (b : Bool) (l : List (Nat × Blk)) (k : List (Nat × Blk) → α) : α := match b with | true => frcW0 l k | false => frcW l k
theorem frcN_eq (n : Nat) (k : Nat → α) : frcN n k = k n := by cases n <;> rfl
theorem frcI_eq (n : Int) (k : Int → α) : frcI n k = k n := by cases n <;> simp only [frcI, frcN_eq]
theorem frcB_eq (n : Bool) (k : Bool → α) : frcB n k = k n := by cases n <;> rfl
theorem frcL_eq {β : Type} : ∀ (l : List β) (k : List β → α), frcL l k = k l
  | [], _ => rfl
  | x :: l, k => by rw [frcL, frcL_eq l]
theorem frcS_eq (s : ByteArray) (k : ByteArray → α) : frcS s k = k s := by
  obtain ⟨⟨l⟩⟩ := s
  simp only [frcS, frcL_eq]
theorem frc1_eq (d : D) (k : D → α) : frc1 d k = k d := by cases d <;> simp only [frc1, frcB_eq, frcI_eq, frcS_eq, frcN_eq, frcL_eq]
theorem frcLD_eq : ∀ (l : List D) (k : List D → α), frcLD l k = k l
  | [], _ => rfl
  | x :: l, k => by rw [frcLD, frc1_eq, frcLD_eq l]
theorem frcD_eq (d : D) (k : D → α) : frcD d k = k d := by cases d <;> simp only [frcD, frcLD_eq, frc1_eq]
theorem frcBlk_eq (b : Blk) (k : Blk → α) : frcBlk b k = k b := by
  cases b with
  | none => rfl
  | some x => obtain ⟨v, t, s, cs⟩ := x; simp only [frcBlk, frcN_eq, frcLD_eq]
theorem frcW_eq : ∀ (l : List (Nat × Blk)) (k : List (Nat × Blk) → α), frcW l k = k l
  | [], _ => rfl
  | (b, x) :: l, k => by rw [frcW, frcN_eq, frcBlk_eq, frcW_eq l]
theorem frc0_eq (d : D) (k : D → α) : frc0 d k = k d := by cases d <;> rfl
theorem frcL0_eq : ∀ (l : List D) (k : List D → α), frcL0 l k = k l
  | [], _ => rfl
  | x :: l, k => by rw [frcL0, frc0_eq, frcL0_eq l]
theorem frcH_eq (d : D) (k : D → α) : frcH d k = k d := by cases d <;> simp only [frcH, frcL0_eq, frc0_eq]
theorem frcW0_eq : ∀ (l : List (Nat × Blk)) (k : List (Nat × Blk) → α), frcW0 l k = k l
  | [], _ => rfl
  | (b, none) :: l, k => by simp only [frcW0, frcN_eq, frcW0_eq l]
  | (b, some (v, t, s, cs)) :: l, k => by simp only [frcW0, frcN_eq, frcL0_eq, frcW0_eq l]
theorem frcQ_eq (b : Bool) (d : D) (k : D → α) : frcQ b d k = k d := by cases b <;> simp only [frcQ, frcH_eq, frcD_eq]
theorem frcV_eq (b : Bool) (l : List (Nat × Blk)) (k : List (Nat × Blk) → α) : frcV b l k = k l := by cases b <;> simp only [frcV, frcW0_eq, frcW_eq]
end

/-! own rows told for the last time -/
def goE (f : D → Option (D × List Nat)) : List D → Option (List D × List Nat)
  | [] => some ([], [])
  | d :: l => match f d with
    | some p => match goE f l with
      | some q => some (p.1 :: q.1, p.2 ++ q.2)
      | none => none
    | none => none
def resLE (f : D → Option (D × List Nat)) (cs : List D) : Option (List D × List Nat) := if cs.all D.imm then some (cs, []) else goE f cs
def resE (H : Nat → Blk) : Nat → D → Option (D × List Nat)
  | 0, _ => none
  | k + 1, d => match d with
    | .own b ver off n => match H b with
      | some (v, _, sz, cs) => if v = ver ∧ off * sz + n * sz ≤ cs.length then (resLE (resE H k) ((cs.drop (off * sz)).take (n * sz))).map fun p => (.sl n p.1, b :: p.2) else none
      | none => none
    | .ptr b ver off => match H b with
      | some (v, _, _, cs) => if v = ver then (resLE (resE H k) (cs.drop off)).map fun p => (.rp p.1, b :: p.2) else none
      | none => none
    | .nils => some (.sl 0 [], [])
    | .agg cs => (resLE (resE H k) cs).map fun p => (.agg p.1, p.2)
    | .tup cs => (resLE (resE H k) cs).map fun p => (.tup p.1, p.2)
    | d => some (d, [])
theorem goE_eq {H : Nat → Blk} {k : Nat} (h : ∀ d, resE H k d = resD H k d) : ∀ cs, goE (resE H k) cs = resD.go H k cs
  | [] => by rw [goE, go_nil]
  | d :: l => by
    rw [goE, go_cons, h, goE_eq h l]
    cases resD H k d with
    | none => rfl
    | some p => cases resD.go H k l <;> rfl
theorem resLE_eq {H : Nat → Blk} {k : Nat} (h : ∀ d, resE H k d = resD H k d) (cs : List D) : resLE (resE H k) cs = resD.resL H k cs := by
  rw [resLE, resL_eq, goE_eq h]
theorem resE_eq {H : Nat → Blk} : ∀ (k : Nat) (d : D), resE H k d = resD H k d
  | 0, d => by simp [resE, resD]
  | k + 1, d => by
    have h := resLE_eq (resE_eq (H := H) k)
    cases d with
    | own b v o n =>
      simp only [resE, resD, h]
      cases H b <;> rfl
    | ptr b v o =>
      simp only [resE, resD, h]
      cases H b <;> rfl
    | agg cs => simp only [resE, resD, h]
    | tup cs => simp only [resE, resD, h]
    | _ => simp only [resE, resD]
def resArgsE (H : Nat → Blk) (env : Nat → D) : List Opd → Option (List D × List Nat)
  | [] => some ([], [])
  | x :: l => match resE H 6 (getO env x) with
    | some p => match resArgsE H env l with
      | some q => some (p.1 :: q.1, p.2 ++ q.2)
      | none => none
    | none => none
theorem resArgsE_eq {H : Nat → Blk} {env : Nat → D} : ∀ l, resArgsE H env l = resArgs H env l
  | [] => rfl
  | x :: l => by
    rw [resArgsE, resArgs, resE_eq, resArgsE_eq l]
    cases resD H 6 (getO env x) with
    | none => rfl
    | some p => cases resArgs H env l <;> rfl

/-! operations -/
def beqB : List UInt8 → List UInt8 → Bool
  | [], [] => true
  | x :: l, y :: m => Nat.beq x.toNat y.toNat && beqB l m
  | _, _ => false
theorem beqB_eq : ∀ l m, beqB l m = (l == m)
  | [], [] => rfl
  | [], y :: m => rfl
  | x :: l, [] => rfl
  | x :: l, y :: m => by
    rw [beqB, beqB_eq l m, List.cons_beq_cons]
    congr 1
    rw [Bool.eq_iff_iff, Nat.beq_eq, beq_iff_eq]
    exact ⟨fun h => UInt8.toNat_inj.1 h, fun h => by rw [h]⟩
def strBinE (op : BinOp) (x y : ByteArray) : Option D :=
  match op with
  | .add => if ((x.size + y.size : Nat) : Int) > IntKind.i64.max then none else some (.str ⟨⟨x.data.toList ++ y.data.toList⟩⟩)
  | .eql => some (.bool (beqB x.data.toList y.data.toList))
  | .neq => some (.bool !(beqB x.data.toList y.data.toList))
  | .lss => some (.bool (Op.bytesLess x.data.toList y.data.toList))
  | .leq => some (.bool (Op.bytesLess x.data.toList y.data.toList || beqB x.data.toList y.data.toList))
  | .gtr => some (.bool !(Op.bytesLess x.data.toList y.data.toList || beqB x.data.toList y.data.toList))
  | .geq => some (.bool !(Op.bytesLess x.data.toList y.data.toList))
  | _ => none
theorem ba_mk (l : List UInt8) (x : ByteArray) (h : x.data.toList = l) : (⟨⟨l⟩⟩ : ByteArray) = x := by
  subst h; rfl
theorem strBinE_eq (op : BinOp) (x y : ByteArray) : strBinE op x y = strBin op x y := by
  cases op <;> simp only [strBinE, strBin, beqB_eq, ByteArray.toList_eq]
  rw [ba_mk _ (x ++ y) (by simp [ByteArray.data_append])]
def stepE (env : Nat → D) (H : Nat → Blk) (nk : Nat) : IOp → Option Eff
  | .bin op x y => match getO env x, getO env y with
    | .str a, .str b => match strBinE op a b with
      | some d => some (d, [], [])
      | none => none
    | d, d' => match binD op d d' with
      | some d => some (d, [], [])
      | none => none
  | .slcS x lo hi => match getO env x with
    | .str s => match boundO env s.size hi with
      | some h => match boundO env 0 lo with
        | some l => if 0 ≤ l ∧ l ≤ h ∧ h ≤ s.size then some (.str ⟨⟨(s.data.toList.drop l.toNat).take (h.toNat - l.toNat)⟩⟩, [], []) else none
        | none => none
      | none => none
    | _ => none
  | op => stepF env H nk op
theorem stepE_eq (env : Nat → D) (H : Nat → Blk) (nk : Nat) (op : IOp) : stepE env H nk op = stepF env H nk op := by
  cases op <;> try rfl
  case bin op x y =>
    simp only [stepE, stepF]
    split
    · rename_i a b h1 h2
      rw [h1, h2, strBinE_eq]
      simp only [binD]
      cases strBin op a b <;> rfl
    · cases binD op (getO env x) (getO env y) <;> rfl
  case slcS x lo hi =>
    simp only [stepE, stepF]
    cases getO env x <;> try rfl
    rename_i s
    simp only
    cases h2 : boundO env (↑s.size) hi with
    | none => rfl
    | some h =>
      cases h3 : boundO env 0 lo with
      | none => rfl
      | some l =>
        simp only [Option.bind_some]
        split
        · rename_i hc
          rw [ba_mk _ (s.extract l.toNat h.toNat) (by rw [ByteArray.data_extract, Array.toList_extract, List.extract_eq_take_drop])]
        · rfl
def aE (call : FuncId → List D → Option D) (env : Nat → D) (H : Nat → Blk) (nk : Nat) (op : IOp) : Option Eff := match op with
  | .call f args => match resArgsE H env args with
    | some p => match call f p.1 with
      | some r => some (callE (!r.flat) r p.2)
      | none => none
    | none => none
  | op => stepE env H nk op

/-! code -/
structure ES where
  env : List D
  heap : List Blk
def lk (l : List D) (t : Nat) : D := l.getD t (.tup [])
def ES.st (s : ES) : St := ⟨lk s.env, s.heap⟩
def setE (l : List D) (t : Nat) (d : D) : Option (List D) := match l, t with
  | [], _ => none
  | _ :: l, 0 => some (d :: l)
  | x :: l, t + 1 => match setE l t d with
    | some l => some (x :: l)
    | none => none
def ES.eff (s : ES) (dst : Option Nat) (e : Eff) : Option ES := match dst with
  | none => some ⟨s.env, setH s.heap e.2.1⟩
  | some t => match setE s.env t e.1 with
    | some l => some ⟨l, setH s.heap e.2.1⟩
    | none => none
theorem setE_lk : ∀ {l : List D} {t : Nat} {d : D} {l' : List D}, setE l t d = some l' → lk l' = putE (lk l) (some t) d
  | [], t, d, l', h => by simp [setE] at h
  | x :: l, 0, d, l', h => by
    simp only [setE, Option.some.injEq] at h
    subst h
    funext t
    cases t <;> simp [lk, putE]
  | x :: l, t + 1, d, l', h => by
    simp only [setE] at h
    split at h
    · rename_i l1 h1
      cases h
      have := setE_lk h1
      funext t'
      cases t' with
      | zero => simp [lk, putE]
      | succ t' => have := congrFun this t'; simpa [lk, putE] using this
    · cases h
theorem ES.eff_st {s s' : ES} {dst : Option Nat} {e : Eff} (h : s.eff dst e = some s') : s'.st = s.st.eff dst e := by
  unfold ES.eff at h
  split at h
  · cases h
    show St.mk _ _ = St.mk _ _
    rw [putE_none]; rfl
  · split at h
    · rename_i l hl
      cases h
      show St.mk _ _ = St.mk _ _
      rw [setE_lk hl]; rfl
    · cases h
def shal : IOp → Bool
  | .mv _ | .ext .. | .load .. | .fld .. | .nilck _ | .pick .. | .box .. | .store .. => true
  | _ => false
def evOps (call : FuncId → List D → Option D) : List IOper → Tr → ES → Option (Tr × ES)
  | [], tr, s => frcL s.env fun l => frcL s.heap fun h => some (tr, ⟨l, h⟩)
  | o :: l, tr, s => match wantedI (lk s.env) o.guard with
    | some true => match aE call (lk s.env) (hv s.heap) s.heap.length o.op with
      | some (d, ws, rs) => frcQ (shal o.op) d fun d => frcV (shal o.op) ws fun ws => match s.eff o.dst (d, ws, rs) with
        | some s' => evOps call l ((ws.map (·.1), rs) :: tr) s'
        | none => none
      | none => none
    | some false => match s.eff o.dst (.tup [], [], []) with
      | some s' => evOps call l (([], []) :: tr) s'
      | none => none
    | none => none
def iter (f : ES → Option (AEx × ES)) : Nat → ES → Option (AEx × ES)
  | 0, _ => none
  | k + 1, s => match f s with
    | some (.normal, s') => iter f k s'
    | o => o
def ev (call : FuncId → List D → Option D) (N : Nat) : IR → ES → Option (AEx × ES)
  | .skip, s => some (.normal, s)
  | .reg false ops _, s => match evOps call ops [] s with
    | some (_, s) => some (.normal, s)
    | none => none
  | .reg true ops anc, s => match evOps call ops [] s with
    | some (tr, s) => match clear anc tr with
      | true => some (.normal, s)
      | false => none
    | none => none
  | .seq a b, s => match ev call N a s with
    | some (.normal, s') => ev call N b s'
    | o => o
  | .cond c a b, s => match getO (lk s.env) c with
    | .bool t => match t with
      | true => ev call N a s
      | false => ev call N b s
    | _ => none
  | .block id a, s => match ev call N a s with
    | some (.exit i, s') => match Nat.beq i id with
      | true => some (.normal, s')
      | false => some (.exit i, s')
    | o => o
  | .loop a, s => iter (ev call N a) N s
  | .exit id, s => some (.exit id, s)
  | .ret, s => some (.ret, s)

section
variable {P : Program} {G : World → Prop} {call : FuncId → List D → Option D} {N : Nat}
theorem aE_ok (hc : ∀ f xs r, call f xs = some r → PCr P G f xs r) {env : Nat → D} {H : Nat → Blk} {nk : Nat} {op : IOp} {e : Eff} {k : Eff → Prop} (h : aE call env H nk op = some e) (hk : k e) : aOp P G env H nk op k := by
  have gen : ∀ o : Option Eff, o = some e → kO o k := by
    rintro o rfl
    exact hk
  cases op
  case call f args =>
    simp only [aE, resArgsE_eq] at h
    simp only [aOp]
    split at h
    · rename_i p hp
      split at h
      · rename_i r hr
        cases h
        rw [hp]
        refine .inl ⟨r, !r.flat, hc _ _ _ hr, ?_, hk⟩
        cases r.flat <;> simp
      · cases h
    · cases h
  all_goals
    simp only [aE, stepE_eq] at h
    exact gen _ h
theorem evOps_ok (hc : ∀ f xs r, call f xs = some r → PCr P G f xs r) {K : Tr → St → Prop} : ∀ (l : List IOper) (tr tr' : Tr) (s s' : ES), evOps call l tr s = some (tr', s') → K tr' s'.st → awpOps P G K l tr s.st
  | [], tr, tr', s, s', h, hk => by
    simp only [evOps, frcL_eq, Option.some.injEq, Prod.mk.injEq] at h
    obtain ⟨rfl, rfl⟩ := h
    exact hk
  | o :: l, tr, tr', s, s', h, hk => by
    simp only [evOps, frcQ_eq, frcV_eq] at h
    show awpOps P G K (o :: l) tr ⟨lk s.env, s.heap⟩
    simp only [awpOps]
    split at h
    · rename_i hw
      split at h
      · rename_i d ws rs he
        split at h
        · rename_i s1 hs
          rw [hw]
          refine aE_ok hc he ?_
          have := evOps_ok hc l _ _ _ _ h hk
          rw [ES.eff_st hs] at this
          exact this
        · cases h
      · cases h
    · rename_i hw
      split at h
      · rename_i s1 hs
        rw [hw]
        have := evOps_ok hc l _ _ _ _ h hk
        rw [ES.eff_st hs] at this
        exact this
      · cases h
    · cases h
theorem ev_ok (hc : ∀ f xs r, call f xs = some r → PCr P G f xs r) : ∀ (ir : IR) (s s' : ES) (e : AEx) (Q : AEx → St → Prop), ev call N ir s = some (e, s') → Q e s'.st → awp P G 0 ir Q s.st
  | .skip, s, s', e, Q, h, hq => by
    simp only [ev, Option.some.injEq, Prod.mk.injEq] at h
    obtain ⟨rfl, rfl⟩ := h
    exact hq
  | .reg false ops anc, s, s', e, Q, h, hq => by
    simp only [ev] at h
    split at h
    · rename_i tr s1 h1
      simp only [Option.some.injEq, Prod.mk.injEq] at h
      obtain ⟨rfl, rfl⟩ := h
      exact awp_reg_i (evOps_ok hc ops [] tr s s1 h1 hq)
    · cases h
  | .reg true ops anc, s, s', e, Q, h, hq => by
    simp only [ev] at h
    split at h
    · rename_i tr s1 h1
      split at h
      · rename_i hcl
        simp only [Option.some.injEq, Prod.mk.injEq] at h
        obtain ⟨rfl, rfl⟩ := h
        exact awp_draw_i (evOps_ok hc ops [] tr s s1 h1 ⟨hcl, hq⟩)
      · cases h
    · cases h
  | .seq a b, s, s', e, Q, h, hq => by
    refine awp_seq_i ?_
    simp only [ev] at h
    split at h
    · rename_i s1 h1
      exact ev_ok hc a s s1 .normal _ h1 (then_normal_i (ev_ok hc b s1 s' e Q h hq))
    · rename_i h1
      refine ev_ok hc a s s' e _ h ?_
      cases e with
      | normal => exact absurd h (h1 s')
      | exit id => exact hq
      | ret => exact hq
  | .cond c a b, s, s', e, Q, h, hq => by
    simp only [ev] at h
    show awp P G 0 (.cond c a b) Q ⟨lk s.env, s.heap⟩
    split at h
    · rename_i t ht
      rw [awp_cond ht]
      split at h
      · exact ev_ok hc a s s' e Q h hq
      · exact ev_ok hc b s s' e Q h hq
    · cases h
  | .block id a, s, s', e, Q, h, hq => by
    refine awp_block_i ?_
    simp only [ev] at h
    split at h
    · rename_i i s1 h1
      refine ev_ok hc a s s1 (.exit i) _ h1 ?_
      rw [inBlock_exit]
      split at h
      · rename_i hb
        simp only [Option.some.injEq, Prod.mk.injEq] at h
        obtain ⟨rfl, rfl⟩ := h
        rw [if_pos (Nat.eq_of_beq_eq_true hb)]
        exact hq
      · rename_i hb
        simp only [Option.some.injEq, Prod.mk.injEq] at h
        obtain ⟨rfl, rfl⟩ := h
        rw [if_neg (Nat.ne_of_beq_eq_false hb)]
        exact hq
    · rename_i h1
      refine ev_ok hc a s s' e _ h ?_
      cases e with
      | normal => exact hq
      | exit i => exact absurd h (h1 i s')
      | ret => exact hq
  | .loop a, s, s', e, Q, h, hq => by
    simp only [ev] at h
    refine awp_loop (fun k σ => ∃ s1, σ = s1.st ∧ iter (ev call N a) k s1 = some (e, s')) N (Ent.refl _) ⟨s, rfl, h⟩ ?_
    rintro k σ1 ⟨s1, rfl, h1⟩
    cases k with
    | zero => simp [iter] at h1
    | succ k =>
      simp only [iter] at h1
      split at h1
      · rename_i s2 h2
        exact ev_ok hc a s1 s2 .normal _ h2 (then_normal_i ⟨k, s2.st, by omega, Ent.refl _, s2, rfl, h1⟩)
      · rename_i h2
        refine ev_ok hc a s1 s' e _ h1 ?_
        cases e with
        | normal => exact absurd h1 (h2 s')
        | exit i => exact hq
        | ret => exact hq
  | .exit id, s, s', e, Q, h, hq => by
    simp only [ev, Option.some.injEq, Prod.mk.injEq] at h
    obtain ⟨rfl, rfl⟩ := h
    exact hq
  | .ret, s, s', e, Q, h, hq => by
    simp only [ev, Option.some.injEq, Prod.mk.injEq] at h
    obtain ⟨rfl, rfl⟩ := h
    exact hq
end

/-! functions -/
inductive FnE where
  | ir (c : IR) (n : Nat) (rv : List RV)
  | lib (g : List D → Option D)
  | no
def ini0 : Nat → List D → List D
  | 0, _ => []
  | n + 1, [] => .tup [] :: ini0 n []
  | n + 1, x :: xs => x :: ini0 n xs
theorem lk_ini0 : ∀ (n : Nat) (xs : List D), xs.length ≤ n → lk (ini0 n xs) = ini xs
  | 0, [], _ => by funext t; simp [lk, ini0, ini]
  | 0, x :: xs, h => by simp at h
  | n + 1, [], _ => by
    have := lk_ini0 n [] (by simp)
    funext t
    cases t with
    | zero => simp [lk, ini0, ini]
    | succ t => have := congrFun this t; simpa [lk, ini0, ini] using this
  | n + 1, x :: xs, h => by
    have := lk_ini0 n xs (by simpa using h)
    funext t
    cases t with
    | zero => simp [lk, ini0, ini]
    | succ t => have := congrFun this t; simpa [lk, ini0, ini] using this
def rvE (H : Nat → Blk) (env : Nat → D) : List RV → Option (List D)
  | [] => some []
  | x :: l => match rvD H env x with
    | some d => match rvE H env l with
      | some l => some (d :: l)
      | none => none
    | none => none
theorem rvE_eq {H : Nat → Blk} {env : Nat → D} : ∀ l, rvE H env l = rvDs H env l
  | [] => rfl
  | x :: l => by
    rw [rvE, rvDs, rvE_eq l]
    cases rvD H env x with
    | none => rfl
    | some d => cases rvDs H env l <;> rfl
def AEx.ends : AEx → Bool
  | .exit _ => false
  | _ => true
def evF (tbl : FuncId → FnE) (N : Nat) : Nat → FuncId → List D → Option D
  | 0, _, _ => none
  | k + 1, f, xs => match tbl f with
    | .ir c n rv => match Nat.ble xs.length n with
      | true => match ev (evF tbl N k) N c ⟨ini0 n xs, []⟩ with
        | some (e, s) => match e.ends with
          | true => match rvE (hv s.heap) (lk s.env) rv with
            | some ds => match resE (hv s.heap) 6 (one? ds) with
              | some (r, _) => frcD r fun r => some r
              | none => none
            | none => none
          | false => none
        | none => none
      | false => none
    | .lib g => g xs
    | .no => none
def FnE.ok (P : Program) (G : World → Prop) (f : FuncId) : FnE → Prop
  | .ir c n rv => ∃ fn, P.funcs[f]? = some fn ∧ fn.body.bind (comp P) = some c ∧ compRes P fn.results.toList = some rv ∧ fn.results.toList.length ≤ 4 ∧ fn.ntmps = n ∧ dstOk n c = true
  | .lib g => ∀ xs r, g xs = some r → PCr P G f xs r
  | .no => True
section
variable {P : Program} {G : World → Prop} {tbl : FuncId → FnE} {N : Nat}
theorem evF_ok (hG : Stable G) (ht : ∀ f, (tbl f).ok P G f) : ∀ (k : Nat) (f : FuncId) (xs : List D) (r : D), evF tbl N k f xs = some r → PCr P G f xs r
  | 0, f, xs, r, h => by simp [evF] at h
  | k + 1, f, xs, r, h => by
    have h0 := ht f
    simp only [evF] at h
    split at h
    · rename_i c n rv hf
      rw [hf] at h0
      obtain ⟨fn, h1, h2, h3, h4, h5, h6⟩ := h0
      split at h
      · rename_i hle
        split at h
        · rename_i e s hev
          split at h
          · rename_i hend
            split at h
            · rename_i ds hds
              split at h
              · rename_i r' ks hr
                rw [frcD_eq] at h
                cases h
                rw [rvE_eq] at hds
                rw [resE_eq] at hr
                have hle' := Nat.le_of_ble_eq_true hle
                refine pcr_of_awp hG h1 h2 h3 h4 h5 hle' h6 ?_
                have hst : (⟨ini0 n xs, []⟩ : ES).st = st0 xs := by
                  show St.mk _ _ = St.mk _ _
                  rw [lk_ini0 n xs hle']
                rw [← hst]
                refine ev_ok (evF_ok hG ht k) c _ s e _ hev ⟨?_, ks, ?_⟩
                · cases e with
                  | exit id => cases hend
                  | normal => trivial
                  | ret => trivial
                · show ((rvDs (hv s.heap) (lk s.env) rv).bind _) = _
                  rw [hds]; exact hr
              · cases h
            · cases h
          · cases h
        · cases h
      · cases h
    · rename_i g hf
      rw [hf] at h0
      exact h0 xs r h
    · cases h
end
end Go.Proofs.YtapikjmijmebpaaGreatDoorK.AI
