/-
  Package dims: exponents: what the functions compute.
-/
import Derived.Test.YtapgmfahdpopnaaDoorKAc
import Derived.Test.YtapgmfahdpopnaaDoorKLb
set_option linter.all false
set_option linter.unusedVariables false
set_option linter.unusedSimpArgs false
set_option maxHeartbeats 4000000
namespace Go.Proofs.YtapgmfahdpopnaaDoorK.NatIr
end Go.Proofs.YtapgmfahdpopnaaDoorK.NatIr
namespace Go.Proofs.YtapgmfahdpopnaaDoorK.DimsT
open Go.Proofs.YtapgmfahdpopnaaDoorK.AI Go.Proofs.YtapgmfahdpopnaaDoorK.NatIr
set_option linter.unusedSimpArgs false
attribute [local irreducible] awp awpOps
attribute [local go_sem] getO putE_same putE_ne putE_none un0_at ini_zero ini_one ini_two ini_three ne_eq not_false_eq_true Nat.zero_ne_one Nat.one_ne_zero zero_ne_succ succ_ne_zero sym_nil sym_cons symG_call symG_op symG_skip IOp.isCall gd st_mv st_pick st_new st_box st_build st_lit st_load st_store st_faddr st_fld st_iaddrS st_iaddrA st_idxs st_bin st_beq st_neg st_not st_conv st_slcS st_slcL st_make st_app st_lenS st_lenL st_capL st_appZ st_seq eqAt eq1 st_mx st_mn st_ext st_nilck st_bstr st_idxA st_slcA st_aeq st_isnil nilD st_mkmap st_look st_mput st_mkfn foundD byD pureC loadC setH hv boundO D.cells D.one D.boxable fillD putD rowD binC intBinC decT decF dec_true dec_false bne_self_eq_false beq_self_eq_true beq_true_false beq_false_true bne_iff_ne List.length_nil List.length_cons List.getD_cons_zero List.getD_cons_succ List.set_cons_zero List.set_cons_succ List.all_cons List.all_nil Bool.and_true Bool.true_and Nat.lt_irrefl Nat.sub_self Nat.zero_add Nat.add_zero Nat.mul_one Nat.lt_add_one if_true if_false List.replicate_zero List.nil_append List.cons_append List.append_nil List.map_cons List.map_nil Bool.false_eq_true or_self or_true true_or or_false false_or true_and and_true and_self Int.ofNat_zero wrap_i64 wrap_u32 wrap_u64 wrap_u8 wrap_u32_mod wrap_u64_mod Nat.zero_lt_one Int.toNat_natCast Int.sub_zero toNat_pred List.take_succ_cons List.take_zero List.drop_succ_cons List.drop_zero List.take_nil List.drop_nil Nat.le_refl List.length_singleton rvDs rvD ldD one? Option.bind_some Option.map_some resD_int resD_bool resD_str resD_sl resD_rp resD_nils resD_null resD_agg resD_tup resD_own rdOwn resD_nilm resD_mf resD_fn resD_mo rdMo resD_ptr rdPtr rd_ite resL_eq go_nil go_cons D.imm resArgs shr32 shl32 Nat.zero_mul Bool.and_self Bool.and_false Bool.false_and strBin_eql strBin_neq Bool.not_true Bool.not_false i64max List.length_reverse List.length_set SS_length SS_getD SS_set SS_take SS_drop SS_imm SS_one SS_app1 W_get1 W_len1 W_getD W_set W_take W_drop W_app W_length W_imm W_one W_repl N mx_nat toNat_succ toNat_add toNat_pred2 tdiv_nn tmod_nn List.take_of_length_le cast_succ and_one or_shl32 min64 shr32b shl32b IntKind.bits
attribute [local go_sem] not_true_eq_false not_false_eq_true
variable {G : World → Prop} {l : List Int} {n : Int}
abbrev I (l : List Int) : List D := l.map (.int .i64)
def inD (n : Int) : Bool := decide (-100 ≤ n) && decide (n ≤ 100)
theorem inD_iff : inD n = true ↔ -100 ≤ n ∧ n ≤ 100 := by simp [inD]
theorem I_len : (I l).length = l.length := by simp
theorem I_getD {i : Nat} (h : i < l.length) : (I l).getD i .un = .int .i64 (l.getD i 0) := by
  simp [I, List.getD_eq_getElem?_getD, List.getElem?_map, List.getElem?_eq_getElem h]
def fidx (p : Int → Bool) (l : List Int) : Int := match l.findIdx? p with
  | some i => i
  | none => -1
theorem one_at {i : Nat} (h : i < l.length) : ((I l).drop i).take 1 = [.int .i64 (l.getD i 0)] := by
  rw [List.drop_eq_getElem_cons (by simpa using h)]
  simp [I, List.getD_eq_getElem?_getD, List.getElem?_eq_getElem h]
theorem fidx_here {p : Int → Bool} {i : Nat} (hi : i < l.length) (h0 : ∀ j, j < i → p (l.getD j 0) = false) (h : p (l.getD i 0) = true) : fidx p l = i := by
  have : l.findIdx? p = some i := by
    rw [List.findIdx?_eq_some_iff_getElem]
    refine ⟨hi, by simpa [List.getD_eq_getElem?_getD, List.getElem?_eq_getElem hi] using h, fun j hj => ?_⟩
    have := h0 j hj
    simpa [List.getD_eq_getElem?_getD, List.getElem?_eq_getElem (Nat.lt_trans hj hi)] using this
  rw [fidx, this]
theorem fidx_none {p : Int → Bool} (h0 : ∀ j, j < l.length → p (l.getD j 0) = false) : fidx p l = -1 := by
  have : l.findIdx? p = none := by
    rw [List.findIdx?_eq_none_iff]
    intro x hx
    obtain ⟨j, hj, rfl⟩ := List.mem_iff_getElem.1 hx
    have := h0 j hj
    simpa [List.getD_eq_getElem?_getD, List.getElem?_eq_getElem hj] using this
  rw [fidx, this]
theorem fidx_any (p : Int → Bool) (l : List Int) : (0 ≤ fidx p l) = (l.any p = true) := by
  unfold fidx
  cases h : l.findIdx? p with
  | some i =>
    have h2 := (List.findIdx?_eq_some_iff_getElem.1 h)
    obtain ⟨hi, hp, _⟩ := h2
    simp only [eq_iff_iff]
    constructor
    · intro _; exact List.any_eq_true.2 ⟨_, List.getElem_mem hi, hp⟩
    · intro _; exact Int.natCast_nonneg i
  | none =>
    rw [List.findIdx?_eq_none_iff] at h
    simp only [eq_iff_iff]
    constructor
    · intro h0; exact absurd h0 (by decide)
    · intro h1
      obtain ⟨x, hx, hp⟩ := List.any_eq_true.1 h1
      rw [h x hx] at hp
      cases hp
def goodD (l : List Int) : Bool := l.all inD
theorem goodD_any (l : List Int) : l.any (fun n => !inD n) = !goodD l := by
  unfold goodD
  induction l with
  | nil => rfl
  | cons x l ih => simp only [List.any_cons, List.all_cons, ih]; cases inD x <;> simp
theorem I_frozen : (I l).all D.frozen = true := by
  rw [List.all_eq_true]
  intro d hd
  obtain ⟨n, _, rfl⟩ := List.mem_map.1 hd
  rfl
theorem putD_I {z : List D} (h : z.length = l.length) : putD z 0 (I l) = I l := by
  refine List.ext_getElem? fun j => ?_
  rw [putD_get _ _ _ (by rw [I_len]; omega)]
  by_cases hj : j < l.length
  · rw [if_pos ⟨Nat.zero_le _, by rw [I_len]; omega⟩]; rfl
  · rw [if_neg (by rw [I_len]; omega), List.getElem?_eq_none (by omega), List.getElem?_eq_none (by rw [I_len]; omega)]
theorem I_one : (I l).all D.one = true := by
  rw [List.all_eq_true]
  intro d hd
  obtain ⟨n, _, rfl⟩ := List.mem_map.1 hd
  rfl
theorem I_imm : (I l).all D.imm = true := by
  rw [List.all_eq_true]
  intro d hd
  obtain ⟨n, _, rfl⟩ := List.mem_map.1 hd
  rfl
theorem eqInts_I : ∀ {a b : List Int}, a.length = b.length → eqInts (I a) (I b) = some (decide (a = b))
  | [], [], _ => rfl
  | x :: a, y :: b, h => by
    have ih := eqInts_I (a := a) (b := b) (by simpa using h)
    simp only [I, List.map_cons, eqInts, if_true] at ih ⊢
    rw [ih]
    simp only [Option.map_some, Option.some.injEq]
    rw [Bool.eq_iff_iff]
    simp
abbrev z8 : List Int := [0, 0, 0, 0, 0, 0, 0, 0]
def sumTo (a b : List Int) (i : Nat) : List Int := (List.range a.length).map fun j => if j < i then a.getD j 0 + b.getD j 0 else a.getD j 0
def addD (a b : List Int) : List Int := (List.range a.length).map fun j => a.getD j 0 + b.getD j 0
theorem sumTo_len {a b : List Int} {i : Nat} : (sumTo a b i).length = a.length := by simp [sumTo]
theorem sumTo_zero {a b : List Int} : sumTo a b 0 = a := by
  unfold sumTo
  refine List.ext_getElem? fun j => ?_
  by_cases hj : j < a.length
  · simp [hj, List.getD_eq_getElem?_getD]
  · rw [List.getElem?_eq_none (by simp; omega), List.getElem?_eq_none (by omega)]
theorem sumTo_all {a b : List Int} : sumTo a b a.length = addD a b := by
  unfold sumTo addD
  refine List.map_congr_left fun j hj => ?_
  rw [if_pos (List.mem_range.1 hj)]
theorem sumTo_get {a b : List Int} {i : Nat} (h : i < a.length) : (sumTo a b i).getD i 0 = a.getD i 0 := by
  simp [sumTo, List.getD_eq_getElem?_getD, h]
theorem sumTo_set {a b : List Int} {i : Nat} (h : i < a.length) : (sumTo a b i).set i (a.getD i 0 + b.getD i 0) = sumTo a b (i + 1) := by
  unfold sumTo
  refine List.ext_getElem? fun j => ?_
  rw [List.getElem?_set]
  by_cases hj : j < a.length
  · by_cases hij : i = j
    · subst hij
      simp [h]
    · rw [if_neg hij]
      simp only [List.getElem?_map, List.getElem?_range hj, Option.map_some]
      by_cases h1 : j < i
      · rw [if_pos h1, if_pos (by omega)]
      · rw [if_neg h1, if_neg (by omega)]
  · rw [List.getElem?_eq_none (l := (List.range a.length).map _) (by simp; omega), List.getElem?_eq_none (by simp; omega)]
    simp
    omega
theorem I_set {i : Nat} {n : Int} : (I l).set i (.int .i64 n) = I (l.set i n) := by simp [I, List.map_set]
theorem goodD_get {i : Nat} (h : goodD l = true) : -100 ≤ l.getD i 0 ∧ l.getD i 0 ≤ 100 := by
  by_cases hi : i < l.length
  · have : l.getD i 0 = l[i] := by simp [List.getD_eq_getElem?_getD, hi]
    rw [this]
    exact inD_iff.1 (List.all_eq_true.1 h _ (List.getElem_mem hi))
  · rw [List.getD_eq_getElem?_getD, List.getElem?_eq_none (by omega)]
    simp
def mV (ok : Bool) (l : List Int) : D := .tup [.agg (I (if ok then l else z8)), .bool ok]
end Go.Proofs.YtapgmfahdpopnaaDoorK.DimsT
