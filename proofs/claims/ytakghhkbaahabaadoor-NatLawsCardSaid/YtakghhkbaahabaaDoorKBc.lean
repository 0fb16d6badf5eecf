/-
  Joined: Lib, DivN, GcdN, TextN, TextO.
-/
import Derived.Test.YtakghhkbaahabaaDoorKAc
import Derived.Test.YtakghhkbaahabaaDoorShelf
import Derived.Lib.LaidTab
import Derived.WalkSmall
import Derived.Shelf.Strings.SlTrimAscii
import Derived.Shelf.Strings.OnBuilder
import Derived.Shelf.Strings.Repeat
import Derived.Shelf.Strconv.Itoa3
import Derived.Shelf.Pu.ParseUintPublic10
import Derived.Shelf.Small.Bits
import Derived.Shelf.SlicesE.Clone
import Derived.Lib.AppendIntMem
import Derived.Shelf.RegionOpenPlain
import Derived.WalkKit
import Derived.Deep.LoopGhost
import Derived.Lib.Walk
import Derived.Lib.SliceRun
import Derived.Test.YtakghhkbaahabaaDoorKBb
set_option linter.all false
set_option linter.unusedVariables false
set_option linter.unusedSimpArgs false
set_option maxHeartbeats 4000000
/-
  Library functions: their contracts, out of the shelf's.
-/
namespace Go.Proofs.YtakghhkbaahabaaDoorK.LibT
open Go.Proofs.YtakghhkbaahabaaDoorK.AI Go.RowKit Go.Shelf
variable {G : World → Prop} {A : Nat → Prop} {w : World} {v : Value}
theorem int_v {k : IntKind} {n : Int} (h : RepI A w v (.int k n)) : v = .int k n := by cases h; rfl
theorem str_v {s : ByteArray} (h : RepI A w v (.str s)) : v = .string s := by cases h; rfl
theorem vs1 {vs : Array Value} (h : vs.size = 1) : vs = #[vs.getD 0 undef] := by
  obtain ⟨l⟩ := vs
  match l, h with
  | [a], _ => rfl
theorem vs2 {vs : Array Value} (h : vs.size = 2) : vs = #[vs.getD 0 undef, vs.getD 1 undef] := by
  obtain ⟨l⟩ := vs
  match l, h with
  | [a, b], _ => rfl
theorem vs3 {vs : Array Value} (h : vs.size = 3) : vs = #[vs.getD 0 undef, vs.getD 1 undef, vs.getD 2 undef] := by
  obtain ⟨l⟩ := vs
  match l, h with
  | [a, b, c], _ => rfl
theorem lib_trim (s c : ByteArray) (hs : s.size ≤ 9223372036854775807) (hc : c.size < 4294967281) (ha : (c.data.toList.all fun b => decide (b.toNat < 128)) = true) :
    PCr Tryd.prog G 30 [.str s, .str c] (.str ⟨(Lib.trimS s.data.toList c.data.toList).toArray⟩) := by
  intro w S vs hg hS hsz hvs
  rw [vs2 hsz, str_v (hvs 0 _ rfl), str_v (hvs 1 _ rfl)]
  refine (Any.strings_Trim_laid Tryd.lays160 (by kernel_rfl) s c w hs hc (ascii_of_all ha)).mono ?_
  rintro e w' ⟨rfl, hb⟩
  exact ⟨_, rfl, .str _, hb⟩
theorem lib_itoa (hT : ∀ w, G w → Lib.TabIs Tryd.prog w "internal/strconv.uint64pow10" .u64 Lib.pow10Tab) (n : Int) (h0 : -9223372036854775808 ≤ n) (h1 : n ≤ 9223372036854775807) :
    PCr Tryd.prog G 36 [.int .i64 n] (.str ⟨(Lib.itoa n).toArray⟩) := by
  intro w S vs hg hS hsz hvs
  rw [vs1 hsz, int_v (hvs 0 _ rfl)]
  refine (Any.strconv_Itoa Tryd.laysM171 n h0 h1 w (hT w hg)).mono ?_
  rintro e w' ⟨rfl, k, os, rfl⟩
  exact ⟨_, rfl, .str _, Lib.below_grow _ _ (Nat.le_refl _) _ _⟩
theorem lib_repeat (s : ByteArray) (m : Nat) (hm : m ≤ 9223372036854775807) (hl : s.size * m ≤ 140737488355328) :
    PCr Tryd.prog G 37 [.str s, .int .i64 m] (.str ⟨(Lib.repeatL s.data.toList m).toArray⟩) := by
  intro w S vs hg hS hsz hvs
  rw [vs2 hsz, str_v (hvs 0 _ rfl), int_v (hvs 1 _ rfl)]
  refine (Any.strings_Repeat Tryd.lays105 Tryd.Builder_Extra_105 s m w hm hl).mono ?_
  rintro e w' ⟨rfl, hb⟩
  exact ⟨_, rfl, .str _, hb⟩
theorem lib_parse32 (s : ByteArray) (hmax : s.size ≤ 9223372036854775806) (u : Nat) (h : Lib.parseUintB 32 s.data.toList = .ok u) :
    PCr Tryd.prog G 31 [.str s, .int .i64 10, .int .i64 32] (.tup [.int .u64 u, .un]) := by
  intro w S vs hg hS hsz hvs
  rw [vs3 hsz, str_v (hvs 0 _ rfl), int_v (hvs 1 _ rfl), int_v (hvs 2 _ rfl)]
  refine (Any.strconv_ParseUint_10_at32_ok Tryd.laysPu14 s hmax u h w).mono ?_
  rintro e w' ⟨rfl, hw⟩
  refine ⟨_, rfl, .tup _ _ rfl (fun j d hj => ?_), ?_⟩
  · match j, hj with
    | 0, hj => cases hj; exact .int _ _
    | 1, hj => cases hj; exact .un _
  · rcases hw with rfl | rfl
    · exact Below.refl _ _
    · exact ⟨rfl, rfl, rfl, by rw [Lib.bytesWorld_size]; omega, fun i hi => Lib.bytesWorld_at_old w _ s i hi⟩
theorem lib_clz (x : Nat) (h1 : x ≤ 4294967295) : PCr Tryd.prog G 45 [.int .u32 x] (.int .i64 (32 - (Lib.bitLen x : Int))) := by
  intro w S vs hg hS hsz hvs
  rw [vs1 hsz, int_v (hvs 0 _ rfl)]
  refine (Any.bits_LeadingZeros32 Tryd.lays133 x w (by omega) (by omega)).mono ?_
  rintro e w' ⟨rfl, rfl⟩
  exact ⟨_, rfl, by simpa using RepI.int _ _, Below.refl _ _⟩
theorem lib_join (ss : List ByteArray) (sep : ByteArray) (n : Nat) (hn : n = ss.length) (hN : ss.length ≤ 140737488355328) (hl : (Lib.join (ss.map (·.data.toList)) sep.data.toList).length ≤ 140737488355328) :
    PCr Tryd.prog G 39 [.sl n (ss.map .str), .str sep] (.str ⟨(Lib.join (ss.map (·.data.toList)) sep.data.toList).toArray⟩) := by
  subst hn
  intro w S vs hg hS hsz hvs
  obtain ⟨a, c, g, o, us, hv, hnc, hc, ha, hA, hu, hr⟩ := (hvs 0 _ rfl).sl_form
  rw [vs2 hsz, hv, str_v (hvs 1 _ rfl)]
  rcases Nat.eq_zero_or_pos ss.length with h0 | h0
  · obtain rfl : ss = [] := List.eq_nil_of_length_eq_zero h0
    refine (Any.strings_Join_none Tryd.lays156 Tryd.Builder_Extra_156 a c sep w).mono ?_
    rintro e w' ⟨rfl, rfl⟩
    exact ⟨_, rfl, .str _, Below.refl _ _⟩
  · rw [ha (by intro h; simp at h; subst h; simp at h0)]
    have hcells : ∀ (j : Nat) x, ss[j]? = some x → w.cell? ⟨g, o + j, none⟩ = some (.string x) := fun j x hj => by
      have h1 := hu j (.str x) (by rw [List.getElem?_map, hj]; rfl)
      have h2 := hr j (.str x) (by rw [List.getElem?_map, hj]; rfl)
      rw [str_v h2] at h1
      exact h1
    refine (Any.strings_Join Tryd.lays156 Tryd.Builder_Extra_156 g o c ss sep w hcells (cellv_lt (hcells 0 _ (List.getElem?_eq_getElem h0))) hN hnc hl).mono ?_
    rintro e w' ⟨rfl, hb⟩
    exact ⟨_, rfl, .str _, hb⟩
set_option maxHeartbeats 2000000 in
set_option maxRecDepth 100000 in
theorem clone_zero {P : Program} {ρ : Go.Shelf.Ren} (L : SlLaysE0.n41 P ρ) (i0 : TypeInfo) (z : Value) (size bytes : Nat) (hi : P.info? (ρ.t 23) = some i0) (hz0 : i0.zero = some z) (hz1 : i0.size = size) (hz2 : i0.bytes = bytes) (hzs : z.cells.size = size) (hsz : 0 < size)
    (z23 : ∀ w, (Go.sizeOf (ρ.t 23)).run P w = .ok size w) (a : Addr) (c : Nat) (w : World) :
    Calls P (ρ.f 41) #[.slice (some a) 0 c] w fun e w' => ∃ v', e = .returned v' ∧ w'.ownsRow w.heap.size (ρ.t 23) size v' 0 [] ∧ Below w.heap.size w w' := by
  have mixed := L.mixed; have t4 := L.t4; have a4 := L.a4; have z4 := L.z4; have v4 := L.v4; have t22 := L.t22; have a22 := L.a22; have z22 := L.z22; have v22 := L.v22
  have q22 : ∀ (w : World) (a : Option Addr) (n c n' c' : Nat), (binOp .eql (ρ.t 22) (.slice a n c) (.slice none n' c')).run P w = .ok (.bool a.isNone) w := fun w a n c n' c' => Lib.run_eql_slice_nil w _ _ a n c n' c' L.t22
  have u22 : ∀ w, Sem.run P (underlying (ρ.t 22)) w = .ok (TypeDesc.slice (ρ.t 23)) w := run_underlying t22
  obtain ⟨_, _, FG⟩ := L.f41
  go_enter FG, SlBodyN.n41_ntmps ρ
  go_wp2_with (at_builtin; refine wpList_append_own _ rfl _ _ (ρ.t 22) rfl w.heap.size (ρ.t 23) i0 z size bytes t22 hi hz0 hz1 hz2 hzs hsz _ _ _ rfl (World.ownsRow_made w #[] 0 (Nat.le_refl _) (Nat.zero_le _) (by simp)) a 0 c [] rfl ?qc1 ?qc2 ?qc3 ?qc4 ?qc5 ?qc6 ?_)
  case qc1 => simp
  case qc2 => intro j u hj; simp at hj
  case qc3 => intro u hu; cases hu
  case qc4 => unfold maxLen; omega
  case qc5 => omega
  case qc6 => simp
  intro v' w1 hown hgrow hnil
  go_wp2
  go_ret
  exact ⟨v', rfl, by simpa using hown, ((Below.refl _ w).alloc (Nat.le_refl _) _).grown hgrow (by simp) (by intro k hk; simp [Value.ownBlock] at hk; omega)⟩
/-- What a row of the call's own tells. -/
theorem repi_owns {S : Nat → Prop} {w w' : World} {e : TypeId} {size n : Nat} {v : Value} {cs : List D} {us : Nat → Value} (hS : ∀ g, S g → g < w.heap.size) (hl : cs.length = n * size) {news : List Value} (h : w'.ownsRow w.heap.size e size v n news)
    (hr : ∀ j d, cs[j]? = some d → RepI S w' (news.getD j undef) d) : RepI S w' v (.sl n cs) := by
  obtain ⟨hnl, hown⟩ := h
  rcases hown with ⟨rfl, rfl⟩ | ⟨g, cap, cur, rfl, hg, hh, hnc, hcm, hcs, ht⟩
  · have : cs = [] := List.eq_nil_of_length_eq_zero (by simpa using hl)
    subst this
    exact .sl none 0 0 [] 0 0 (fun _ => undef) (Nat.le_refl _) (Nat.zero_le _) (fun h => absurd rfl h) (fun h => absurd rfl h) (fun j d hj => by simp at hj) (fun j d hj => by simp at hj)
  · refine .sl _ n cap cs g 0 (fun j => news.getD j undef) hnc hcm (fun _ => rfl) (fun _ hSg => by have := hS g hSg; omega) (fun j d hj => ?_) hr
    have hj1 : j < news.length := by have := (List.getElem?_eq_some_iff.1 hj).1; omega
    obtain ⟨x, hx⟩ : ∃ x, news[j]? = some x := ⟨_, List.getElem?_eq_getElem hj1⟩
    rw [Nat.zero_add, cellv_of_block hh, List.getD_eq_getElem?_getD, hx]
    rw [← ht, List.getElem?_take, if_pos (by omega)] at hx
    simpa using hx
/-- slices.Clone, of cells that are told by themselves. -/
theorem lib_clone {f : FuncId} {ρ : Go.Shelf.Ren} {e : TypeId} (L : SlLaysE0.n41 Tryd.prog ρ) (hf : ρ.f 41 = f) (he : ρ.t 23 = e) (i0 : TypeInfo) (z : Value) (size bytes : Nat) (hi : Tryd.prog.info? e = some i0) (hz0 : i0.zero = some z) (hz1 : i0.size = size) (hz2 : i0.bytes = bytes) (hzs : z.cells.size = size) (hsz : 0 < size) (hsT : sizeT Tryd.prog e = some size)
    (n : Nat) (cs : List D) (hl : cs.length = n * size) (hflat : ∀ d ∈ cs, d.flat = true) (h1 : cs.all D.one = true) (hbig : n * bytes ≤ 140737488355328) :
    PCr Tryd.prog G f [.sl n cs] (.sl n cs) := by
  subst hf he
  intro w S vs hg hS hsz' hvs
  have z23 : ∀ w, (Go.sizeOf (ρ.t 23)).run Tryd.prog w = .ok size w := fun w => run_size hsT
  obtain ⟨a, c, g, o, us, hv, hnc, hc, ha, hA, hu, hr⟩ := (hvs 0 _ rfl).sl_form
  rw [vs1 hsz', hv]
  by_cases h0 : cs = []
  · subst h0
    have hn0 : n = 0 := by
      rcases Nat.eq_zero_or_pos n with h | h
      · exact h
      · have := Nat.mul_pos h hsz
        simp at hl
        omega
    subst hn0
    cases a with
    | none =>
      refine (AnyE.slices_Clone_nil L 0 c w).mono ?_
      rintro e w' ⟨rfl, rfl⟩
      exact ⟨_, rfl, .sl none 0 0 [] 0 0 (fun _ => undef) (Nat.le_refl _) (Nat.zero_le _) (fun h => absurd rfl h) (fun h => absurd rfl h) (fun j d hj => by simp at hj) (fun j d hj => by simp at hj), Below.refl _ _⟩
    | some ad =>
      refine (clone_zero L i0 z size bytes hi hz0 hz1 hz2 hzs hsz z23 ad c w).mono ?_
      rintro e w' ⟨v', rfl, hown, hb⟩
      exact ⟨_, rfl, repi_owns (us := fun _ => undef) hS (by simp) hown (fun j d hj => by simp at hj), hb⟩
  · rw [ha h0]
    let news : List Value := (List.range cs.length).map us
    have hnews : ∀ j d, cs[j]? = some d → news[j]? = some (us j) := fun j d hj => by
      have := (List.getElem?_eq_some_iff.1 hj).1
      simp [news, List.getElem?_range this]
    refine (AnyE.slices_Clone L i0 z size bytes hi hz0 hz1 hz2 hzs hsz z23 g o n c news w (by simp [news, hl]) (Nat.le_trans hnc hc) hbig (fun j u hj => ?_) (fun u hu' => ?_)).mono ?_
    · have hj1 : j < cs.length := by have := (List.getElem?_eq_some_iff.1 hj).1; simpa [news] using this
      have h2 := hnews j _ (List.getElem?_eq_getElem hj1)
      rw [hj] at h2
      cases h2
      exact hu j _ (List.getElem?_eq_getElem hj1)
    · obtain ⟨j, hj⟩ := List.mem_iff_getElem?.1 hu'
      have hj1 : j < cs.length := by have := (List.getElem?_eq_some_iff.1 hj).1; simpa [news] using this
      have h2 := hnews j _ (List.getElem?_eq_getElem hj1)
      rw [hj] at h2
      cases h2
      exact rep_one (R := fun _ _ => .no) (.imm (hr j _ (List.getElem?_eq_getElem hj1))) (List.all_eq_true.1 h1 _ (List.getElem_mem hj1))
    · rintro e w' ⟨v', rfl, hown, _, hb⟩
      refine ⟨_, rfl, repi_owns (us := us) hS hl hown (fun j d hj => ?_), hb⟩
      rw [List.getD_eq_getElem?_getD, hnews j d hj]
      exact (hr j d hj).of_flat (hflat d (List.mem_of_getElem? hj))
end Go.Proofs.YtakghhkbaahabaaDoorK.LibT
/-
  nat.Div: what it computes.
-/
namespace Go.Proofs.YtakghhkbaahabaaDoorK.NatT
open Go.Proofs.YtakghhkbaahabaaDoorK.AI Go.Proofs.YtakghhkbaahabaaDoorK.NatIr Go.Proofs.YtakghhkbaahabaaDoorK.Dig Go.Proofs.YtakghhkbaahabaaDoorK.LibT
set_option linter.unusedSimpArgs false
attribute [local irreducible] awp awpOps
attribute [local go_sem] getO putE_same putE_ne putE_none un0_at ini_zero ini_one ini_two ini_three ne_eq not_false_eq_true Nat.zero_ne_one Nat.one_ne_zero zero_ne_succ succ_ne_zero sym_nil sym_cons symG_call symG_op symG_skip IOp.isCall gd st_mv st_pick st_new st_box st_build st_lit st_load st_store st_faddr st_fld st_iaddrS st_iaddrA st_idxs st_bin st_beq st_neg st_not st_conv st_slcS st_slcL st_make st_app st_lenS st_lenL st_mx st_mn st_ext st_nilck pureC loadC setH hv boundO D.cells D.one D.boxable fillD putD rowD binC intBinC decT decF dec_true dec_false bne_self_eq_false beq_self_eq_true beq_true_false beq_false_true bne_iff_ne List.length_nil List.length_cons List.getD_cons_zero List.getD_cons_succ List.set_cons_zero List.set_cons_succ List.all_cons List.all_nil Bool.and_true Bool.true_and Nat.lt_irrefl Nat.sub_self Nat.zero_add Nat.add_zero Nat.mul_one Nat.lt_add_one if_true if_false List.replicate_zero List.nil_append List.cons_append List.append_nil List.map_cons List.map_nil Bool.false_eq_true or_self or_true true_or or_false false_or true_and and_true and_self Int.ofNat_zero wrap_i64 wrap_u32 wrap_u64 wrap_u8 wrap_u32_mod wrap_u64_mod Nat.zero_lt_one Int.toNat_natCast Int.sub_zero toNat_pred List.take_succ_cons List.take_zero List.drop_succ_cons List.drop_zero List.take_nil List.drop_nil Nat.le_refl List.length_singleton rvDs rvD ldD one? Option.bind_some Option.map_some resD_int resD_bool resD_str resD_sl resD_rp resD_nils resD_null resD_agg resD_tup resD_own rdOwn resD_ptr rdPtr rd_ite resL_eq go_nil go_cons D.imm resArgs shr32 shl32 Nat.zero_mul Bool.and_self Bool.and_false Bool.false_and strBin_eql strBin_neq Bool.not_true Bool.not_false i64max List.length_reverse List.length_set SS_length SS_getD SS_set SS_take SS_drop SS_imm SS_one SS_app1 W_get1 W_len1 W_getD W_set W_take W_drop W_app W_length W_imm W_one W_repl N mx_nat toNat_succ toNat_add toNat_pred2 tdiv_nn tmod_nn List.take_of_length_le cast_succ and_one or_shl32 min64 shr32b shl32b IntKind.bits
variable {G : World → Prop}
theorem pcr_clone (n : Nat) (l : List Int) (hn : n = l.length) (hl : l.length < 1000000) : PCr Tryd.prog G 44 [.sl n (W l)] (.sl n (W l)) := by
  obtain ⟨i0, hi, hz0, hz1, hz2⟩ := info_parts (by kernel_rfl : (Tryd.prog.info? 49).map (fun i => (i.zero, i.size, i.bytes)) = some (some (.int .u32 0), 1, 4))
  exact lib_clone Tryd.laysCloneW rfl rfl i0 (.int .u32 0) 1 4 hi hz0 hz1 hz2 rfl (by omega) (by kernel_rfl) n (W l) (by rw [W_length]; omega) (fun d hd => by obtain ⟨x, _, rfl⟩ := List.mem_map.1 hd; rfl) (W_one l) (by omega)
theorem bitLen_lt (x : Nat) : x < 18446744073709551616 → x < 2 ^ Lib.bitLen x := by
  induction x using Nat.strongRecOn with
  | _ x ih =>
    intro h
    by_cases h0 : x = 0
    · subst h0; exact Nat.pow_pos (by omega)
    · have h1 := ih (x / 2) (by omega) (by omega)
      rw [Lib.bitLen_half x h0 h, Nat.add_comm, Nat.pow_succ]
      omega
theorem bitLen_pos {x : Nat} (h0 : x ≠ 0) (h : x < 18446744073709551616) : 1 ≤ Lib.bitLen x := by
  rw [Lib.bitLen_half x h0 h]; omega
set_option maxHeartbeats 2000000 in
theorem pcr_div (hG : Stable G) (a b : List Int) (n m : Nat) (hn : n = a.length) (hm : m = b.length) (ha : ok 4294967296 a) (hb : ok 4294967296 b) (hla : a.length < 400000) (hlb : b.length < 400000) :
    PCr Tryd.prog G 24 [.agg [.sl n (W a)], .agg [.sl m (W b)]]
      (.tup [if vl 4294967296 b = 0 then N 0 else N (vl 4294967296 a / vl 4294967296 b), if vl 4294967296 b = 0 then N 0 else N (vl 4294967296 a % vl 4294967296 b), .bool (decide (vl 4294967296 b ≠ 0))]) := by
  refine pcr_by hG (fn := Tryd.f24) (n := 105) (rv := [.cell 4 true 1, .cell 5 true 1, .tmp 6]) (by kernel_rfl) ok24 (by kernel_rfl) (by decide) (by kernel_rfl) (by simp) (by kernel_rfl) (fun r hr => ?_)
  unfold c24 st0
  repeat with_reducible first | refine awp_seq_i ?_ | refine awp_reg_i ?_ | refine ops_nil_i ?_ | refine then_normal_i ?_ | refine awp_draw_i ?_ | refine awp_block_i ?_ | refine in_normal_i ?_ | refine awp_exit_i ?_ | refine then_exit_i ?_ | refine in_exit_i ?_ | refine in_exit_ne (by decide) ?_ | refine awp_ret_i ?_ | refine then_ret_i ?_ | refine in_ret_i ?_ | refine awp_skip_i ?_
  refine ops_sym (by simp (disch := omega) only [go_sem, Nat.reduceEqDiff, Nat.reduceAdd, Nat.reduceLT, Nat.reduceMul, Nat.reduceLeDiff, reduceCtorEq, Int.reduceNeg, Int.reduceToNat]; rfl) (by first | with_reducible exact True.intro | omega) ?_
  repeat with_reducible first | refine awp_seq_i ?_ | refine awp_reg_i ?_ | refine ops_nil_i ?_ | refine then_normal_i ?_ | refine awp_draw_i ?_ | refine awp_block_i ?_ | refine in_normal_i ?_ | refine awp_exit_i ?_ | refine then_exit_i ?_ | refine in_exit_i ?_ | refine in_exit_ne (by decide) ?_ | refine awp_ret_i ?_ | refine then_ret_i ?_ | refine in_ret_i ?_ | refine awp_skip_i ?_
  refine ops_sym (by simp (disch := omega) only [go_sem, Nat.reduceEqDiff, Nat.reduceAdd, Nat.reduceLT, Nat.reduceMul, Nat.reduceLeDiff, reduceCtorEq, Int.reduceNeg, Int.reduceToNat]; rfl) (by first | with_reducible exact True.intro | omega) ?_
  refine ops_call (by simp (disch := omega) only [go_sem, Nat.reduceEqDiff, Nat.reduceAdd, Nat.reduceLT, Nat.reduceMul, Nat.reduceLeDiff, reduceCtorEq, Int.reduceNeg, Int.reduceToNat]; rfl) (pcr_trim hG a n hn ha (by omega)) ?_
  refine ops_sym (by simp (disch := omega) only [go_sem, Nat.reduceEqDiff, Nat.reduceAdd, Nat.reduceLT, Nat.reduceMul, Nat.reduceLeDiff, reduceCtorEq, Int.reduceNeg, Int.reduceToNat]; rfl) (by first | with_reducible exact True.intro | omega) ?_
  refine ops_call (by simp (disch := omega) only [go_sem, Nat.reduceEqDiff, Nat.reduceAdd, Nat.reduceLT, Nat.reduceMul, Nat.reduceLeDiff, reduceCtorEq, Int.reduceNeg, Int.reduceToNat]; rfl) (pcr_trim hG b m hm hb (by omega)) ?_
  refine ops_sym (by simp (disch := omega) only [go_sem, Nat.reduceEqDiff, Nat.reduceAdd, Nat.reduceLT, Nat.reduceMul, Nat.reduceLeDiff, reduceCtorEq, Int.reduceNeg, Int.reduceToNat]; rfl) (by first | with_reducible exact True.intro | omega) ?_
  repeat with_reducible first | refine awp_seq_i ?_ | refine awp_reg_i ?_ | refine ops_nil_i ?_ | refine then_normal_i ?_ | refine awp_draw_i ?_ | refine awp_block_i ?_ | refine in_normal_i ?_ | refine awp_exit_i ?_ | refine then_exit_i ?_ | refine in_exit_i ?_ | refine in_exit_ne (by decide) ?_ | refine awp_ret_i ?_ | refine then_ret_i ?_ | refine in_ret_i ?_ | refine awp_skip_i ?_
  refine ⟨by first | rfl | decide, ?_⟩
  repeat with_reducible first | refine awp_seq_i ?_ | refine awp_reg_i ?_ | refine ops_nil_i ?_ | refine then_normal_i ?_ | refine awp_draw_i ?_ | refine awp_block_i ?_ | refine in_normal_i ?_ | refine awp_exit_i ?_ | refine then_exit_i ?_ | refine in_exit_i ?_ | refine in_exit_ne (by decide) ?_ | refine awp_ret_i ?_ | refine then_ret_i ?_ | refine in_ret_i ?_ | refine awp_skip_i ?_
  have hxa := ok_wd (B := 4294967296) (by omega) (vl 4294967296 a)
  have hxb := ok_wd (B := 4294967296) (by omega) (vl 4294967296 b)
  have hva := vl_wd (B := 4294967296) (by omega) (vl 4294967296 a)
  have hvb := vl_wd (B := 4294967296) (by omega) (vl 4294967296 b)
  have h1 := wd_len_small ha
  have h2 := wd_len_small hb
  have hy0 := @wd_eq_nil 4294967296 (by omega) (vl 4294967296 b)
  have hNa : N (vl 4294967296 a) = .agg [.sl (wd 4294967296 (vl 4294967296 a)).length (W (wd 4294967296 (vl 4294967296 a)))] := rfl
  have hlast := wd_last (B := 4294967296) (by omega) (vl 4294967296 b)
  have hlex := @wd_less 4294967296 (by omega) (vl 4294967296 a) (vl 4294967296 b)
  generalize hx : wd 4294967296 (vl 4294967296 a) = x at *
  generalize hy : wd 4294967296 (vl 4294967296 b) = y at *
  generalize hX : vl 4294967296 a = X at *
  generalize hY : vl 4294967296 b = Y at *
  have hlx : x.length < 400000 := by omega
  have hly : y.length < 400000 := by omega
  have hN0 : N 0 = .agg [.sl 0 []] := by rw [N, wd_zero]; rfl
  by_cases hY0 : Y = 0
  · have hyn : y.length = 0 := by rw [hy0.2 hY0]; rfl
    refine ops_sym (by simp (disch := omega) only [go_sem, Nat.reduceEqDiff, Nat.reduceAdd, Nat.reduceLT, Nat.reduceMul, Nat.reduceLeDiff, reduceCtorEq, Int.reduceNeg, Int.reduceToNat]; rfl) (by first | with_reducible exact True.intro | omega) ?_
    repeat with_reducible first | refine awp_seq_i ?_ | refine awp_reg_i ?_ | refine ops_nil_i ?_ | refine then_normal_i ?_ | refine awp_draw_i ?_ | refine awp_block_i ?_ | refine in_normal_i ?_ | refine awp_exit_i ?_ | refine then_exit_i ?_ | refine in_exit_i ?_ | refine in_exit_ne (by decide) ?_ | refine awp_ret_i ?_ | refine then_ret_i ?_ | refine in_ret_i ?_ | refine awp_skip_i ?_
    refine awp_cond_t (by simp only [go_sem, Nat.reduceEqDiff, Nat.reduceAdd, Nat.reduceLT, Nat.reduceMul, Nat.reduceLeDiff, reduceCtorEq, Int.reduceNeg, Int.reduceToNat]) ?_
    repeat with_reducible first | refine awp_seq_i ?_ | refine awp_reg_i ?_ | refine ops_nil_i ?_ | refine then_normal_i ?_ | refine awp_draw_i ?_ | refine awp_block_i ?_ | refine in_normal_i ?_ | refine awp_exit_i ?_ | refine then_exit_i ?_ | refine in_exit_i ?_ | refine in_exit_ne (by decide) ?_ | refine awp_ret_i ?_ | refine then_ret_i ?_ | refine in_ret_i ?_ | refine awp_skip_i ?_
    refine ops_sym (by simp (disch := omega) only [go_sem, Nat.reduceEqDiff, Nat.reduceAdd, Nat.reduceLT, Nat.reduceMul, Nat.reduceLeDiff, reduceCtorEq, Int.reduceNeg, Int.reduceToNat]; rfl) (by first | with_reducible exact True.intro | omega) ?_
    repeat with_reducible first | refine awp_seq_i ?_ | refine awp_reg_i ?_ | refine ops_nil_i ?_ | refine then_normal_i ?_ | refine awp_draw_i ?_ | refine awp_block_i ?_ | refine in_normal_i ?_ | refine awp_exit_i ?_ | refine then_exit_i ?_ | refine in_exit_i ?_ | refine in_exit_ne (by decide) ?_ | refine awp_ret_i ?_ | refine then_ret_i ?_ | refine in_ret_i ?_ | refine awp_skip_i ?_
    refine res_ret (by simp (disch := omega) only [go_sem, Nat.reduceEqDiff, Nat.reduceAdd, Nat.reduceLT, Nat.reduceMul, Nat.reduceLeDiff, reduceCtorEq, Int.reduceNeg, Int.reduceToNat]; rfl) ?_
    rw [hr, if_pos hY0, if_pos hY0, hN0]
    simp [hY0]
  · have hyn : 0 < y.length := by
      rcases Nat.eq_zero_or_pos y.length with h | h
      · exact absurd (hy0.1 (List.eq_nil_of_length_eq_zero h)) hY0
      · exact h
    rw [if_neg hY0, if_neg hY0, decide_eq_true hY0] at hr
    refine ops_sym (by simp (disch := omega) only [go_sem, Nat.reduceEqDiff, Nat.reduceAdd, Nat.reduceLT, Nat.reduceMul, Nat.reduceLeDiff, reduceCtorEq, Int.reduceNeg, Int.reduceToNat]; rfl) (by first | with_reducible exact True.intro | omega) ?_
    repeat with_reducible first | refine awp_seq_i ?_ | refine awp_reg_i ?_ | refine ops_nil_i ?_ | refine then_normal_i ?_ | refine awp_draw_i ?_ | refine awp_block_i ?_ | refine in_normal_i ?_ | refine awp_exit_i ?_ | refine then_exit_i ?_ | refine in_exit_i ?_ | refine in_exit_ne (by decide) ?_ | refine awp_ret_i ?_ | refine then_ret_i ?_ | refine in_ret_i ?_ | refine awp_skip_i ?_
    refine awp_cond_f (by simp only [go_sem, Nat.reduceEqDiff, Nat.reduceAdd, Nat.reduceLT, Nat.reduceMul, Nat.reduceLeDiff, reduceCtorEq, Int.reduceNeg, Int.reduceToNat]) ?_
    repeat with_reducible first | refine awp_seq_i ?_ | refine awp_reg_i ?_ | refine ops_nil_i ?_ | refine then_normal_i ?_ | refine awp_draw_i ?_ | refine awp_block_i ?_ | refine in_normal_i ?_ | refine awp_exit_i ?_ | refine then_exit_i ?_ | refine in_exit_i ?_ | refine in_exit_ne (by decide) ?_ | refine awp_ret_i ?_ | refine then_ret_i ?_ | refine in_ret_i ?_ | refine awp_skip_i ?_
    refine ops_sym (by simp (disch := omega) only [go_sem, Nat.reduceEqDiff, Nat.reduceAdd, Nat.reduceLT, Nat.reduceMul, Nat.reduceLeDiff, reduceCtorEq, Int.reduceNeg, Int.reduceToNat]; rfl) (by first | with_reducible exact True.intro | omega) ?_
    refine ops_callf (by simp (disch := omega) only [go_sem, Nat.reduceEqDiff, Nat.reduceAdd, Nat.reduceLT, Nat.reduceMul, Nat.reduceLeDiff, reduceCtorEq, Int.reduceNeg, Int.reduceToNat]; rfl) (pcr_cmp hG a b n m hn hm ha hb (by omega) (by omega)) rfl ?_
    rw [hX, hY]
    by_cases hXY : X < Y
    · have hcm : cmpN X Y < 0 := by unfold cmpN; rw [if_pos hXY]; omega
      generalize cmpN X Y = cm at *
      refine ops_sym (by simp (disch := omega) only [go_sem, Nat.reduceEqDiff, Nat.reduceAdd, Nat.reduceLT, Nat.reduceMul, Nat.reduceLeDiff, reduceCtorEq, Int.reduceNeg, Int.reduceToNat]; rfl) (by first | with_reducible exact True.intro | omega) ?_
      repeat with_reducible first | refine awp_seq_i ?_ | refine awp_reg_i ?_ | refine ops_nil_i ?_ | refine then_normal_i ?_ | refine awp_draw_i ?_ | refine awp_block_i ?_ | refine in_normal_i ?_ | refine awp_exit_i ?_ | refine then_exit_i ?_ | refine in_exit_i ?_ | refine in_exit_ne (by decide) ?_ | refine awp_ret_i ?_ | refine then_ret_i ?_ | refine in_ret_i ?_ | refine awp_skip_i ?_
      refine awp_cond_t (by simp only [go_sem, Nat.reduceEqDiff, Nat.reduceAdd, Nat.reduceLT, Nat.reduceMul, Nat.reduceLeDiff, reduceCtorEq, Int.reduceNeg, Int.reduceToNat]) ?_
      repeat with_reducible first | refine awp_seq_i ?_ | refine awp_reg_i ?_ | refine ops_nil_i ?_ | refine then_normal_i ?_ | refine awp_draw_i ?_ | refine awp_block_i ?_ | refine in_normal_i ?_ | refine awp_exit_i ?_ | refine then_exit_i ?_ | refine in_exit_i ?_ | refine in_exit_ne (by decide) ?_ | refine awp_ret_i ?_ | refine then_ret_i ?_ | refine in_ret_i ?_ | refine awp_skip_i ?_
      refine ops_sym (by simp (disch := omega) only [go_sem, Nat.reduceEqDiff, Nat.reduceAdd, Nat.reduceLT, Nat.reduceMul, Nat.reduceLeDiff, reduceCtorEq, Int.reduceNeg, Int.reduceToNat]; rfl) (by first | with_reducible exact True.intro | omega) ?_
      refine ops_call (by simp (disch := omega) only [go_sem, Nat.reduceEqDiff, Nat.reduceAdd, Nat.reduceLT, Nat.reduceMul, Nat.reduceLeDiff, reduceCtorEq, Int.reduceNeg, Int.reduceToNat]; rfl) (pcr_clone x.length x rfl (by omega)) ?_
      refine ops_sym (by simp (disch := omega) only [go_sem, Nat.reduceEqDiff, Nat.reduceAdd, Nat.reduceLT, Nat.reduceMul, Nat.reduceLeDiff, reduceCtorEq, Int.reduceNeg, Int.reduceToNat]; rfl) (by first | with_reducible exact True.intro | omega) ?_
      repeat with_reducible first | refine awp_seq_i ?_ | refine awp_reg_i ?_ | refine ops_nil_i ?_ | refine then_normal_i ?_ | refine awp_draw_i ?_ | refine awp_block_i ?_ | refine in_normal_i ?_ | refine awp_exit_i ?_ | refine then_exit_i ?_ | refine in_exit_i ?_ | refine in_exit_ne (by decide) ?_ | refine awp_ret_i ?_ | refine then_ret_i ?_ | refine in_ret_i ?_ | refine awp_skip_i ?_
      refine res_ret (by simp (disch := omega) only [go_sem, Nat.reduceEqDiff, Nat.reduceAdd, Nat.reduceLT, Nat.reduceMul, Nat.reduceLeDiff, reduceCtorEq, Int.reduceNeg, Int.reduceToNat]; rfl) ?_
      rw [hr, Nat.div_eq_of_lt hXY, Nat.mod_eq_of_lt hXY, hN0, hNa]
    · have hcm : ¬ cmpN X Y < 0 := by unfold cmpN; rw [if_neg hXY]; split <;> omega
      generalize cmpN X Y = cm at *
      refine ops_sym (by simp (disch := omega) only [go_sem, Nat.reduceEqDiff, Nat.reduceAdd, Nat.reduceLT, Nat.reduceMul, Nat.reduceLeDiff, reduceCtorEq, Int.reduceNeg, Int.reduceToNat]; rfl) (by first | with_reducible exact True.intro | omega) ?_
      repeat with_reducible first | refine awp_seq_i ?_ | refine awp_reg_i ?_ | refine ops_nil_i ?_ | refine then_normal_i ?_ | refine awp_draw_i ?_ | refine awp_block_i ?_ | refine in_normal_i ?_ | refine awp_exit_i ?_ | refine then_exit_i ?_ | refine in_exit_i ?_ | refine in_exit_ne (by decide) ?_ | refine awp_ret_i ?_ | refine then_ret_i ?_ | refine in_ret_i ?_ | refine awp_skip_i ?_
      refine awp_cond_f (by simp only [go_sem, Nat.reduceEqDiff, Nat.reduceAdd, Nat.reduceLT, Nat.reduceMul, Nat.reduceLeDiff, reduceCtorEq, Int.reduceNeg, Int.reduceToNat]) ?_
      repeat with_reducible first | refine awp_seq_i ?_ | refine awp_reg_i ?_ | refine ops_nil_i ?_ | refine then_normal_i ?_ | refine awp_draw_i ?_ | refine awp_block_i ?_ | refine in_normal_i ?_ | refine awp_exit_i ?_ | refine then_exit_i ?_ | refine in_exit_i ?_ | refine in_exit_ne (by decide) ?_ | refine awp_ret_i ?_ | refine then_ret_i ?_ | refine in_ret_i ?_ | refine awp_skip_i ?_
      refine ops_sym (by simp (disch := omega) only [go_sem, Nat.reduceEqDiff, Nat.reduceAdd, Nat.reduceLT, Nat.reduceMul, Nat.reduceLeDiff, reduceCtorEq, Int.reduceNeg, Int.reduceToNat]; rfl) (by first | with_reducible exact True.intro | omega) ?_
      repeat with_reducible first | refine awp_seq_i ?_ | refine awp_reg_i ?_ | refine ops_nil_i ?_ | refine then_normal_i ?_ | refine awp_draw_i ?_ | refine awp_block_i ?_ | refine in_normal_i ?_ | refine awp_exit_i ?_ | refine then_exit_i ?_ | refine in_exit_i ?_ | refine in_exit_ne (by decide) ?_ | refine awp_ret_i ?_ | refine then_ret_i ?_ | refine in_ret_i ?_ | refine awp_skip_i ?_
      by_cases hy1 : y.length = 1
      · obtain ⟨d, rfl⟩ := List.length_eq_one_iff.1 hy1
        have hd := (ok_cons.1 hxb).1
        obtain ⟨dn, rfl⟩ : ∃ dn : Nat, d = dn := ⟨d.toNat, by omega⟩
        have hYd : dn = Y := by rw [← hvb]; simp [vl]
        subst hYd
        have hsl : (sdiv 4294967296 dn x).1.length = x.length := sdiv_len _ _ _
        have hsr := sdiv_lt (B := 4294967296) (d := dn) (by omega) x
        refine awp_cond_t (by simp only [go_sem, Nat.reduceEqDiff, Nat.reduceAdd, Nat.reduceLT, Nat.reduceMul, Nat.reduceLeDiff, reduceCtorEq, Int.reduceNeg, Int.reduceToNat]; rfl) ?_
        repeat with_reducible first | refine awp_seq_i ?_ | refine awp_reg_i ?_ | refine ops_nil_i ?_ | refine then_normal_i ?_ | refine awp_draw_i ?_ | refine awp_block_i ?_ | refine in_normal_i ?_ | refine awp_exit_i ?_ | refine then_exit_i ?_ | refine in_exit_i ?_ | refine in_exit_ne (by decide) ?_ | refine awp_ret_i ?_ | refine then_ret_i ?_ | refine in_ret_i ?_ | refine awp_skip_i ?_
        refine ops_sym (by simp (disch := omega) only [go_sem, Nat.reduceEqDiff, Nat.reduceAdd, Nat.reduceLT, Nat.reduceMul, Nat.reduceLeDiff, reduceCtorEq, Int.reduceNeg, Int.reduceToNat]; rfl) (by first | with_reducible exact True.intro | omega) ?_
        refine ops_call (by simp (disch := omega) only [go_sem, Nat.reduceEqDiff, Nat.reduceAdd, Nat.reduceLT, Nat.reduceMul, Nat.reduceLeDiff, reduceCtorEq, Int.reduceNeg, Int.reduceToNat]; rfl) (pcr_small hG x dn x.length rfl (by omega) (by omega) hxa (by omega)) ?_
        refine ops_sym (by simp (disch := omega) only [go_sem, Nat.reduceEqDiff, Nat.reduceAdd, Nat.reduceLT, Nat.reduceMul, Nat.reduceLeDiff, reduceCtorEq, Int.reduceNeg, Int.reduceToNat]; rfl) (by first | with_reducible exact True.intro | omega) ?_
        repeat with_reducible first | refine awp_seq_i ?_ | refine awp_reg_i ?_ | refine ops_nil_i ?_ | refine then_normal_i ?_ | refine awp_draw_i ?_ | refine awp_block_i ?_ | refine in_normal_i ?_ | refine awp_exit_i ?_ | refine then_exit_i ?_ | refine in_exit_i ?_ | refine in_exit_ne (by decide) ?_ | refine awp_ret_i ?_ | refine then_ret_i ?_ | refine in_ret_i ?_ | refine awp_skip_i ?_
        refine ops_sym (by simp (disch := omega) only [go_sem, Nat.reduceEqDiff, Nat.reduceAdd, Nat.reduceLT, Nat.reduceMul, Nat.reduceLeDiff, reduceCtorEq, Int.reduceNeg, Int.reduceToNat]; rfl) (by first | with_reducible exact True.intro | omega) ?_
        refine ops_call (by simp (disch := omega) only [go_sem, Nat.reduceEqDiff, Nat.reduceAdd, Nat.reduceLT, Nat.reduceMul, Nat.reduceLeDiff, reduceCtorEq, Int.reduceNeg, Int.reduceToNat]; rfl) (pcr_trim hG (sdiv 4294967296 dn x).1 x.length hsl.symm (sdiv_ok (by omega) (by omega) x hxa) (by omega)) ?_
        refine ops_sym (by simp (disch := omega) only [go_sem, Nat.reduceEqDiff, Nat.reduceAdd, Nat.reduceLT, Nat.reduceMul, Nat.reduceLeDiff, reduceCtorEq, Int.reduceNeg, Int.reduceToNat]; rfl) (by first | with_reducible exact True.intro | omega) ?_
        refine ops_call (by simp (disch := omega) only [go_sem, Nat.reduceEqDiff, Nat.reduceAdd, Nat.reduceLT, Nat.reduceMul, Nat.reduceLeDiff, reduceCtorEq, Int.reduceNeg, Int.reduceToNat]; rfl) (pcr_of hG (sdiv 4294967296 dn x).2 (by omega)) ?_
        refine ops_sym (by simp (disch := omega) only [go_sem, Nat.reduceEqDiff, Nat.reduceAdd, Nat.reduceLT, Nat.reduceMul, Nat.reduceLeDiff, reduceCtorEq, Int.reduceNeg, Int.reduceToNat]; rfl) (by first | with_reducible exact True.intro | omega) ?_
        repeat with_reducible first | refine awp_seq_i ?_ | refine awp_reg_i ?_ | refine ops_nil_i ?_ | refine then_normal_i ?_ | refine awp_draw_i ?_ | refine awp_block_i ?_ | refine in_normal_i ?_ | refine awp_exit_i ?_ | refine then_exit_i ?_ | refine in_exit_i ?_ | refine in_exit_ne (by decide) ?_ | refine awp_ret_i ?_ | refine then_ret_i ?_ | refine in_ret_i ?_ | refine awp_skip_i ?_
        refine res_ret (by simp (disch := omega) only [go_sem, Nat.reduceEqDiff, Nat.reduceAdd, Nat.reduceLT, Nat.reduceMul, Nat.reduceLeDiff, reduceCtorEq, Int.reduceNeg, Int.reduceToNat]; rfl) ?_
        rw [hr, sdiv_q (by omega), sdiv_r (by omega), hva]; rfl
      · refine awp_cond_f (by simp only [go_sem, Nat.reduceEqDiff, Nat.reduceAdd, Nat.reduceLT, Nat.reduceMul, Nat.reduceLeDiff, reduceCtorEq, Int.reduceNeg, Int.reduceToNat]; exact congrArg D.bool (decide_eq_false (by omega))) ?_
        repeat with_reducible first | refine awp_seq_i ?_ | refine awp_reg_i ?_ | refine ops_nil_i ?_ | refine then_normal_i ?_ | refine awp_draw_i ?_ | refine awp_block_i ?_ | refine in_normal_i ?_ | refine awp_exit_i ?_ | refine then_exit_i ?_ | refine in_exit_i ?_ | refine in_exit_ne (by decide) ?_ | refine awp_ret_i ?_ | refine then_ret_i ?_ | refine in_ret_i ?_ | refine awp_skip_i ?_
        refine ops_sym (by simp (disch := omega) only [go_sem, Nat.reduceEqDiff, Nat.reduceAdd, Nat.reduceLT, Nat.reduceMul, Nat.reduceLeDiff, reduceCtorEq, Int.reduceNeg, Int.reduceToNat]; rfl) (by first | with_reducible exact True.intro | omega) ?_
        -- long division
        have hly2 : 2 ≤ y.length := by omega
        have gT := ok_get hxb (by omega) (y.length - 1)
        have hTn : y.getD (y.length - 1) 0 ≠ 0 := hlast _ (getD_last (by intro h; subst h; simp at hyn))
        have hYlt : Y < ((y.getD (y.length - 1) 0).toNat + 1) * 4294967296 ^ (y.length - 1) ∧ (y.getD (y.length - 1) 0).toNat * 4294967296 ^ (y.length - 1) ≤ Y := by
          have h3 := vl_take_succ 4294967296 y (y.length - 1) (by omega)
          rw [show y.length - 1 + 1 = y.length by omega, List.take_length, hvb] at h3
          have h4 := vl_lt (ok_take hxb (y.length - 1))
          rw [List.length_take, Nat.min_eq_left (by omega)] at h4
          rw [Nat.add_mul, Nat.mul_comm (y.getD (y.length - 1) 0).toNat]
          omega
        generalize hTg : y.getD (y.length - 1) 0 = T at *
        obtain ⟨TN, rfl⟩ : ∃ TN : Nat, T = TN := ⟨T.toNat, by omega⟩
        refine ops_callf (by simp (disch := omega) only [go_sem, Nat.reduceEqDiff, Nat.reduceAdd, Nat.reduceLT, Nat.reduceMul, Nat.reduceLeDiff, reduceCtorEq, Int.reduceNeg, Int.reduceToNat]; rfl) (lib_clz TN (by omega)) rfl ?_
        have hbl := bitLen_lt TN (by omega)
        have hbp := bitLen_pos (x := TN) (by omega) (by omega)
        have hb32 := Any.bitLen_le32 TN (by omega) (by omega)
        simp only [Int.toNat_natCast] at hYlt hb32
        obtain ⟨k, hk⟩ : ∃ k, Lib.bitLen TN + k = 32 := ⟨32 - Lib.bitLen TN, by omega⟩
        rw [show (32 - (Lib.bitLen TN : Int)) = (k : Int) by omega]
        have hk31 : k ≤ 31 := by omega
        have hpp : 2 ^ Lib.bitLen TN * 2 ^ k = 4294967296 := by rw [← Nat.pow_add, hk]
        have hp1 : 0 < 2 ^ k := Nat.pow_pos (by omega)
        have hV : Y * 2 ^ k < 4294967296 ^ y.length := by
          have h3 : Y * 2 ^ k < (TN + 1) * 4294967296 ^ (y.length - 1) * 2 ^ k := Nat.mul_lt_mul_of_pos_right hYlt.1 hp1
          have h4 : (TN + 1) * 4294967296 ^ (y.length - 1) * 2 ^ k ≤ 2 ^ Lib.bitLen TN * 4294967296 ^ (y.length - 1) * 2 ^ k := Nat.mul_le_mul_right _ (Nat.mul_le_mul_right _ hbl)
          have h5 : 2 ^ Lib.bitLen TN * 4294967296 ^ (y.length - 1) * 2 ^ k = 4294967296 ^ y.length := by
            rw [Nat.mul_right_comm, hpp, Nat.mul_comm, ← Nat.pow_succ]
            congr 1
            omega
          omega
        have hXp : X * 2 ^ k < 4294967296 ^ (x.length + 1) := by
          have h3 := vl_lt hxa
          rw [hva] at h3
          have h4 : 2 ^ k ≤ 4294967296 := Nat.pow_le_pow_right (n := 2) (by omega) (show k ≤ 32 by omega)
          rw [Nat.pow_succ]
          exact Nat.mul_lt_mul_of_lt_of_le h3 h4 (by omega)
        obtain ⟨mm, hmm⟩ : ∃ mm, x.length = y.length + mm := ⟨x.length - y.length, by omega⟩
        refine ops_sym (by simp (disch := omega) only [go_sem, Nat.reduceEqDiff, Nat.reduceAdd, Nat.reduceLT, Nat.reduceMul, Nat.reduceLeDiff, reduceCtorEq, Int.reduceNeg, Int.reduceToNat]; rfl) (by first | with_reducible exact True.intro | omega) ?_
        repeat with_reducible first | refine awp_seq_i ?_ | refine awp_reg_i ?_ | refine ops_nil_i ?_ | refine then_normal_i ?_ | refine awp_draw_i ?_ | refine awp_block_i ?_ | refine in_normal_i ?_ | refine awp_exit_i ?_ | refine then_exit_i ?_ | refine in_exit_i ?_ | refine in_exit_ne (by decide) ?_ | refine awp_ret_i ?_ | refine then_ret_i ?_ | refine in_ret_i ?_ | refine awp_skip_i ?_
        refine ops_sym (by simp (disch := omega) only [go_sem, Nat.reduceEqDiff, Nat.reduceAdd, Nat.reduceLT, Nat.reduceMul, Nat.reduceLeDiff, reduceCtorEq, Int.reduceNeg, Int.reduceToNat]; rfl) (by first | with_reducible exact True.intro | omega) ?_
        refine ops_callw [4] (pcg_shift x x.length k rfl hxa (by omega) hk31) (by simp (disch := omega) only [go_sem, Nat.reduceEqDiff, Nat.reduceAdd, Nat.reduceLT, Nat.reduceMul, Nat.reduceLeDiff, reduceCtorEq, Int.reduceNeg, Int.reduceToNat]; rfl) (by simp [kb]) (by decide) rfl (by simp) rfl rfl (by simp) (by simp [immH, W_imm, SS_imm]) (by simp [immH, W_imm, SS_imm]) (by simp only [D.ren, List.getD_cons_zero, List.getD_cons_succ]; rfl) (by simp only [List.zip_cons_cons, List.zip_nil_left, List.zip_nil_right]; rfl) ?_
        rw [hva]
        refine ops_sym (by simp (disch := omega) only [go_sem, Nat.reduceEqDiff, Nat.reduceAdd, Nat.reduceLT, Nat.reduceMul, Nat.reduceLeDiff, reduceCtorEq, Int.reduceNeg, Int.reduceToNat]; rfl) (by first | with_reducible exact True.intro | omega) ?_
        refine ops_callw [5] (pcg_shift y y.length k rfl hxb (by omega) hk31) (by simp (disch := omega) only [go_sem, Nat.reduceEqDiff, Nat.reduceAdd, Nat.reduceLT, Nat.reduceMul, Nat.reduceLeDiff, reduceCtorEq, Int.reduceNeg, Int.reduceToNat]; rfl) (by simp [kb]) (by decide) rfl (by simp) rfl rfl (by simp) (by simp [immH, W_imm, SS_imm]) (by simp [immH, W_imm, SS_imm]) (by simp only [D.ren, List.getD_cons_zero, List.getD_cons_succ]; rfl) (by simp only [List.zip_cons_cons, List.zip_nil_left, List.zip_nil_right]; rfl) ?_
        rw [hvb]
        have hul0 : (pd 4294967296 (X * 2 ^ k) (x.length + 1)).length = x.length + 1 := pd_length _ _ _
        have huo0 : ok 4294967296 (pd 4294967296 (X * 2 ^ k) (x.length + 1)) := pd_ok (by omega) _ _
        have huv0 := pd_vl (B := 4294967296) (by omega) (x.length + 1) (X * 2 ^ k) hXp
        have hvl0 : (pd 4294967296 (Y * 2 ^ k) (y.length + 1)).length = y.length + 1 := pd_length _ _ _
        have hvo0 : ok 4294967296 (pd 4294967296 (Y * 2 ^ k) (y.length + 1)) := pd_ok (by omega) _ _
        have hPs : 4294967296 ^ (y.length + 1) = 4294967296 ^ y.length * 4294967296 := Nat.pow_succ _ _
        have hvv0 := pd_vl (B := 4294967296) (by omega) (y.length + 1) (Y * 2 ^ k) (by omega)
        have hvt := (vl_take_small (B := 4294967296) (n := y.length) (by rw [hvv0]; exact hV) (by omega) : vl 4294967296 ((pd 4294967296 (Y * 2 ^ k) (y.length + 1)).take y.length) = _ ∧ _).1
        rw [hvv0] at hvt
        have hBp : 0 < 4294967296 ^ (y.length - 1) := Nat.pow_pos (by omega)
        have hYp : 4294967296 ^ (y.length - 1) * 2 ^ k ≤ Y * 2 ^ k := by
          refine Nat.mul_le_mul_right _ ?_
          have : 1 * 4294967296 ^ (y.length - 1) ≤ TN * 4294967296 ^ (y.length - 1) := Nat.mul_le_mul_right _ (by omega)
          omega
        have hvtop : 0 < (pd 4294967296 (Y * 2 ^ k) (y.length + 1)).getD (y.length - 1) 0 := by
          rw [pd_getD _ _ _ (by omega)]
          have h3 : 1 ≤ Y * 2 ^ k / 4294967296 ^ (y.length - 1) := by
            rw [Nat.le_div_iff_mul_le hBp]
            have : 4294967296 ^ (y.length - 1) * 1 ≤ 4294967296 ^ (y.length - 1) * 2 ^ k := Nat.mul_le_mul_left _ hp1
            omega
          have h4 : Y * 2 ^ k / 4294967296 ^ (y.length - 1) < 4294967296 := by
            rw [Nat.div_lt_iff_lt_mul hBp, ← Nat.pow_succ', show (y.length - 1).succ = y.length by omega]
            exact hV
          rw [Nat.mod_eq_of_lt h4]
          omega
        have hu0 : vl 4294967296 ((pd 4294967296 (X * 2 ^ k) (x.length + 1)).drop (mm + 1)) < Y * 2 ^ k := by
          rw [← vl_div_pow (by omega) huo0, huv0, Nat.div_lt_iff_lt_mul (Nat.pow_pos (by omega))]
          have h3 := vl_lt hxa
          rw [hva, hmm, show y.length + mm = (y.length - 1) + (mm + 1) by omega, Nat.pow_add] at h3
          have h4 : X * 2 ^ k < 4294967296 ^ (y.length - 1) * 4294967296 ^ (mm + 1) * 2 ^ k := Nat.mul_lt_mul_of_pos_right h3 hp1
          have h5 : 4294967296 ^ (y.length - 1) * 2 ^ k * 4294967296 ^ (mm + 1) ≤ Y * 2 ^ k * 4294967296 ^ (mm + 1) := Nat.mul_le_mul_right _ hYp
          rw [Nat.mul_right_comm] at h4
          omega
        generalize pd 4294967296 (X * 2 ^ k) (x.length + 1) = u0 at *
        generalize pd 4294967296 (Y * 2 ^ k) (y.length + 1) = v0 at *
        refine ops_sym (by simp (disch := omega) only [go_sem, Nat.reduceEqDiff, Nat.reduceAdd, Nat.reduceLT, Nat.reduceMul, Nat.reduceLeDiff, reduceCtorEq, Int.reduceNeg, Int.reduceToNat]; rfl) (by first | with_reducible exact True.intro | omega) ?_
        repeat with_reducible first | refine awp_seq_i ?_ | refine awp_reg_i ?_ | refine ops_nil_i ?_ | refine then_normal_i ?_ | refine awp_draw_i ?_ | refine awp_block_i ?_ | refine in_normal_i ?_ | refine awp_exit_i ?_ | refine then_exit_i ?_ | refine in_exit_i ?_ | refine in_exit_ne (by decide) ?_ | refine awp_ret_i ?_ | refine then_ret_i ?_ | refine in_ret_i ?_ | refine awp_skip_i ?_
        refine ⟨by first | rfl | decide, ?_⟩
        repeat with_reducible first | refine awp_seq_i ?_ | refine awp_reg_i ?_ | refine ops_nil_i ?_ | refine then_normal_i ?_ | refine awp_draw_i ?_ | refine awp_block_i ?_ | refine in_normal_i ?_ | refine awp_exit_i ?_ | refine then_exit_i ?_ | refine in_exit_i ?_ | refine in_exit_ne (by decide) ?_ | refine awp_ret_i ?_ | refine then_ret_i ?_ | refine in_ret_i ?_ | refine awp_skip_i ?_
        refine ops_sym (by simp (disch := omega) only [go_sem, Nat.reduceEqDiff, Nat.reduceAdd, Nat.reduceLT, Nat.reduceMul, Nat.reduceLeDiff, reduceCtorEq, Int.reduceNeg, Int.reduceToNat]; rfl) (by first | with_reducible exact True.intro | omega) ?_
        rw [show ((x.length : Int) - y.length + 1).toNat = mm + 1 by omega]
        repeat with_reducible first | refine awp_seq_i ?_ | refine awp_reg_i ?_ | refine ops_nil_i ?_ | refine then_normal_i ?_ | refine awp_draw_i ?_ | refine awp_block_i ?_ | refine in_normal_i ?_ | refine awp_exit_i ?_ | refine then_exit_i ?_ | refine in_exit_i ?_ | refine in_exit_ne (by decide) ?_ | refine awp_ret_i ?_ | refine then_ret_i ?_ | refine in_ret_i ?_ | refine awp_skip_i ?_
        refine ops_sym (by simp (disch := omega) only [go_sem, Nat.reduceEqDiff, Nat.reduceAdd, Nat.reduceLT, Nat.reduceMul, Nat.reduceLeDiff, reduceCtorEq, Int.reduceNeg, Int.reduceToNat]; rfl) (by first | with_reducible exact True.intro | omega) ?_
        repeat with_reducible first | refine awp_seq_i ?_ | refine awp_reg_i ?_ | refine ops_nil_i ?_ | refine then_normal_i ?_ | refine awp_draw_i ?_ | refine awp_block_i ?_ | refine in_normal_i ?_ | refine awp_exit_i ?_ | refine then_exit_i ?_ | refine in_exit_i ?_ | refine in_exit_ne (by decide) ?_ | refine awp_ret_i ?_ | refine then_ret_i ?_ | refine in_ret_i ?_ | refine awp_skip_i ?_
        refine awp_loop (fun i σ => ∃ (u out : List Int), i ≤ mm + 1 ∧ u.length = x.length + 1 ∧ ok 4294967296 u ∧ out.length = mm + 1 ∧ ok 4294967296 out ∧ vl 4294967296 u + Y * 2 ^ k * (4294967296 ^ i * vl 4294967296 (out.drop i)) = X * 2 ^ k ∧ vl 4294967296 (u.drop i) < Y * 2 ^ k ∧
            σ = ⟨(putE (putE (putE (putE (putE (putE (putE un0 (some 4) (.ptr 2 0 0)) (some 5) (.ptr 3 0 0)) (some 11) (.int .i64 k)) (some 12) (.own 4 0 0 (x.length + 1))) (some 13) (.own 5 0 0 y.length)) (some 14) (.own 6 0 0 (mm + 1))) (some 15) (.int .i64 ((i : Int) - 1))),
              [none, none, some (0, 25, 1, [.nils]), some (0, 25, 1, [.nils]), some (0, 49, 1, W u), some (0, 49, 1, W v0), some (0, 49, 1, W out)]⟩) (mm + 1)
          (Ent.st (less_put (less_put (less_put (less_put (less_put (less_put (less_put (less_un0 _) ?_) ?_) ?_) ?_) ?_) ?_) ?_) (by exact ⟨.inl rfl, .inl rfl, .inr rfl, .inr rfl, .inr rfl, .inr rfl, .inr rfl, trivial⟩)) ⟨u0, List.replicate (mm + 1) 0, by omega, hul0, huo0, by simp, ok_replicate (by omega) _, ?_, hu0, rfl⟩ ?_
        (· simp only [go_sem, Nat.reduceEqDiff, Nat.reduceAdd, Nat.reduceLT, Nat.reduceMul, Nat.reduceLeDiff, reduceCtorEq, Int.reduceNeg, Int.reduceToNat]); (· simp only [go_sem, Nat.reduceEqDiff, Nat.reduceAdd, Nat.reduceLT, Nat.reduceMul, Nat.reduceLeDiff, reduceCtorEq, Int.reduceNeg, Int.reduceToNat]); (· simp only [go_sem, Nat.reduceEqDiff, Nat.reduceAdd, Nat.reduceLT, Nat.reduceMul, Nat.reduceLeDiff, reduceCtorEq, Int.reduceNeg, Int.reduceToNat]); (· simp only [go_sem, Nat.reduceEqDiff, Nat.reduceAdd, Nat.reduceLT, Nat.reduceMul, Nat.reduceLeDiff, reduceCtorEq, Int.reduceNeg, Int.reduceToNat]); (· simp only [go_sem, Nat.reduceEqDiff, Nat.reduceAdd, Nat.reduceLT, Nat.reduceMul, Nat.reduceLeDiff, reduceCtorEq, Int.reduceNeg, Int.reduceToNat]); (· simp only [go_sem, Nat.reduceEqDiff, Nat.reduceAdd, Nat.reduceLT, Nat.reduceMul, Nat.reduceLeDiff, reduceCtorEq, Int.reduceNeg, Int.reduceToNat])
        (· simp only [go_sem, Nat.reduceEqDiff, Nat.reduceAdd, Nat.reduceLT, Nat.reduceMul, Nat.reduceLeDiff, reduceCtorEq, Int.reduceNeg, Int.reduceToNat])
        · rw [huv0, List.drop_of_length_le (by simp), vl_nil, Nat.mul_zero, Nat.mul_zero, Nat.add_zero]
        rintro i σ1 ⟨u, out, hi, hul, huo, hol, hoo, heq, hlt, rfl⟩
        repeat with_reducible first | refine awp_seq_i ?_ | refine awp_reg_i ?_ | refine ops_nil_i ?_ | refine then_normal_i ?_ | refine awp_draw_i ?_ | refine awp_block_i ?_ | refine in_normal_i ?_ | refine awp_exit_i ?_ | refine then_exit_i ?_ | refine in_exit_i ?_ | refine in_exit_ne (by decide) ?_ | refine awp_ret_i ?_ | refine then_ret_i ?_ | refine in_ret_i ?_ | refine awp_skip_i ?_
        refine ops_sym (by simp (disch := omega) only [go_sem, Nat.reduceEqDiff, Nat.reduceAdd, Nat.reduceLT, Nat.reduceMul, Nat.reduceLeDiff, reduceCtorEq, Int.reduceNeg, Int.reduceToNat]; rfl) (by first | with_reducible exact True.intro | omega) ?_
        repeat with_reducible first | refine awp_seq_i ?_ | refine awp_reg_i ?_ | refine ops_nil_i ?_ | refine then_normal_i ?_ | refine awp_draw_i ?_ | refine awp_block_i ?_ | refine in_normal_i ?_ | refine awp_exit_i ?_ | refine then_exit_i ?_ | refine in_exit_i ?_ | refine in_exit_ne (by decide) ?_ | refine awp_ret_i ?_ | refine then_ret_i ?_ | refine in_ret_i ?_ | refine awp_skip_i ?_
        refine awp_cond_sym (by simp only [go_sem, Nat.reduceEqDiff, Nat.reduceAdd, Nat.reduceLT, Nat.reduceMul, Nat.reduceLeDiff, reduceCtorEq, Int.reduceNeg, Int.reduceToNat]; rfl) (fun hb => ?_) (fun hb => ?_)
        · have hb' := of_decide_eq_true hb
          obtain ⟨j, rfl⟩ : ∃ j, i = j + 1 := ⟨i - 1, by omega⟩
          have hdj := vl_drop_all 4294967296 u j
          have guj := ok_get huo (by omega) j
          have hUj : vl 4294967296 (u.drop j) < Y * 2 ^ k * 4294967296 := by
            have : (vl 4294967296 (u.drop (j + 1)) + 1) * 4294967296 ≤ Y * 2 ^ k * 4294967296 := Nat.mul_le_mul_right _ hlt
            rw [Nat.add_mul] at this
            omega
          have hwl : (u.drop j).length = x.length + 1 - j := by rw [List.length_drop, hul]
          obtain ⟨hw1, hw2⟩ := vl_take_small (B := 4294967296) (l := u.drop j) (n := y.length + 1) (by
            have : Y * 2 ^ k * 4294967296 < 4294967296 ^ y.length * 4294967296 := Nat.mul_lt_mul_of_pos_right hV (by omega)
            omega) (by omega)
          have hwe : vl 4294967296 (win u j (y.length + 1)) = vl 4294967296 (u.drop j) := hw1
          rw [List.drop_drop] at hw2
          have hstep := pcr_step (G := G) u v0 j y.length hly2 (by omega) (by omega) huo hvo0 (by omega) (by omega) hvtop (by rw [hwe, hvt]; exact hUj)
          rw [hwe, hvt] at hstep
          have hVp : 0 < Y * 2 ^ k := Nat.mul_pos (by omega) hp1
          have hmod := Nat.mod_lt (vl 4294967296 (u.drop j)) hVp
          have hpl : (pd 4294967296 (vl 4294967296 (u.drop j) % (Y * 2 ^ k)) (y.length + 1)).length = y.length + 1 := pd_length _ _ _
          have hpv := pd_vl (B := 4294967296) (by omega) (y.length + 1) (vl 4294967296 (u.drop j) % (Y * 2 ^ k)) (by omega)
          obtain ⟨hq1, hq2⟩ := vl_putW (B := 4294967296) (u := u) (j := j) (ws := pd 4294967296 (vl 4294967296 (u.drop j) % (Y * 2 ^ k)) (y.length + 1)) (by rw [hpl]; omega) (by rw [hpl]; exact hw2)
          rw [hpv] at hq1 hq2
          have hqB : vl 4294967296 (u.drop j) / (Y * 2 ^ k) < 4294967296 := (Nat.div_lt_iff_lt_mul hVp).2 (by rw [Nat.mul_comm]; exact hUj)
          have hut : vl 4294967296 u = vl 4294967296 (u.take j) + 4294967296 ^ j * vl 4294967296 (u.drop j) := by
            have := vl_take_drop 4294967296 u j
            rwa [Nat.min_eq_left (by omega)] at this
          have hds := div_step (B := 4294967296) (j := j) (U := vl 4294967296 (u.drop j)) (V := Y * 2 ^ k) (O := vl 4294967296 (out.drop (j + 1))) (T := vl 4294967296 (u.take j)) (R := X * 2 ^ k) (by rw [← hut]; exact heq)
          have hpul : (putW u j (pd 4294967296 (vl 4294967296 (u.drop j) % (Y * 2 ^ k)) (y.length + 1))).length = x.length + 1 := by rw [putW_len (by rw [hpl]; omega), hul]
          have hpuo : ok 4294967296 (putW u j (pd 4294967296 (vl 4294967296 (u.drop j) % (Y * 2 ^ k)) (y.length + 1))) := putW_ok huo (pd_ok (by omega) _ _)
          generalize putW u j (pd 4294967296 (vl 4294967296 (u.drop j) % (Y * 2 ^ k)) (y.length + 1)) = u' at *
          generalize vl 4294967296 (u.drop j) / (Y * 2 ^ k) = Q at *
          rw [show (((j + 1 : Nat) : Int) - 1) = (j : Int) by omega]
          repeat with_reducible first | refine awp_seq_i ?_ | refine awp_reg_i ?_ | refine ops_nil_i ?_ | refine then_normal_i ?_ | refine awp_draw_i ?_ | refine awp_block_i ?_ | refine in_normal_i ?_ | refine awp_exit_i ?_ | refine then_exit_i ?_ | refine in_exit_i ?_ | refine in_exit_ne (by decide) ?_ | refine awp_ret_i ?_ | refine then_ret_i ?_ | refine in_ret_i ?_ | refine awp_skip_i ?_
          refine ops_sym (by simp (disch := omega) only [go_sem, Nat.reduceEqDiff, Nat.reduceAdd, Nat.reduceLT, Nat.reduceMul, Nat.reduceLeDiff, reduceCtorEq, Int.reduceNeg, Int.reduceToNat]; rfl) (by first | with_reducible exact True.intro | omega) ?_
          rw [show ((j : Int) + y.length + 1 - (j : Int)).toNat = y.length + 1 by omega]
          refine ops_callw [4, 5] hstep (by simp (disch := omega) only [go_sem, Nat.reduceEqDiff, Nat.reduceAdd, Nat.reduceLT, Nat.reduceMul, Nat.reduceLeDiff, reduceCtorEq, Int.reduceNeg, Int.reduceToNat]; rfl) (by simp [kb]) (by decide) rfl (by simp) rfl rfl (by simp) (by simp [immH, W_imm, SS_imm]) (by simp [immH, W_imm, SS_imm]) (by simp only [D.ren, List.getD_cons_zero, List.getD_cons_succ]; rfl) (by simp only [List.zip_cons_cons, List.zip_nil_left, List.zip_nil_right]; rfl) ?_
          refine ops_sym (by simp (disch := omega) only [go_sem, Nat.reduceEqDiff, Nat.reduceAdd, Nat.reduceLT, Nat.reduceMul, Nat.reduceLeDiff, reduceCtorEq, Int.reduceNeg, Int.reduceToNat]; rfl) (by first | with_reducible exact True.intro | omega) ?_
          repeat with_reducible first | refine awp_seq_i ?_ | refine awp_reg_i ?_ | refine ops_nil_i ?_ | refine then_normal_i ?_ | refine awp_draw_i ?_ | refine awp_block_i ?_ | refine in_normal_i ?_ | refine awp_exit_i ?_ | refine then_exit_i ?_ | refine in_exit_i ?_ | refine in_exit_ne (by decide) ?_ | refine awp_ret_i ?_ | refine then_ret_i ?_ | refine in_ret_i ?_ | refine awp_skip_i ?_
          refine ops_sym (by simp (disch := omega) only [go_sem, Nat.reduceEqDiff, Nat.reduceAdd, Nat.reduceLT, Nat.reduceMul, Nat.reduceLeDiff, reduceCtorEq, Int.reduceNeg, Int.reduceToNat]; rfl) (by first | with_reducible exact True.intro | omega) ?_
          repeat with_reducible first | refine awp_seq_i ?_ | refine awp_reg_i ?_ | refine ops_nil_i ?_ | refine then_normal_i ?_ | refine awp_draw_i ?_ | refine awp_block_i ?_ | refine in_normal_i ?_ | refine awp_exit_i ?_ | refine then_exit_i ?_ | refine in_exit_i ?_ | refine in_exit_ne (by decide) ?_ | refine awp_ret_i ?_ | refine then_ret_i ?_ | refine in_ret_i ?_ | refine awp_skip_i ?_
          refine ⟨j, _, by omega, Ent.env (less_put (less_put (less_put (less_put (less_put (less_put (less_put (less_un0 _) ?_) ?_) ?_) ?_) ?_) ?_) ?_), u', out.set j Q, by omega, hpul, hpuo, by simp [hol], ok_set hoo _ (by omega), ?_, by rw [hq2]; exact hmod, rfl⟩
          (· simp only [go_sem, Nat.reduceEqDiff, Nat.reduceAdd, Nat.reduceLT, Nat.reduceMul, Nat.reduceLeDiff, reduceCtorEq, Int.reduceNeg, Int.reduceToNat]); (· simp only [go_sem, Nat.reduceEqDiff, Nat.reduceAdd, Nat.reduceLT, Nat.reduceMul, Nat.reduceLeDiff, reduceCtorEq, Int.reduceNeg, Int.reduceToNat]); (· simp only [go_sem, Nat.reduceEqDiff, Nat.reduceAdd, Nat.reduceLT, Nat.reduceMul, Nat.reduceLeDiff, reduceCtorEq, Int.reduceNeg, Int.reduceToNat]); (· simp only [go_sem, Nat.reduceEqDiff, Nat.reduceAdd, Nat.reduceLT, Nat.reduceMul, Nat.reduceLeDiff, reduceCtorEq, Int.reduceNeg, Int.reduceToNat]); (· simp only [go_sem, Nat.reduceEqDiff, Nat.reduceAdd, Nat.reduceLT, Nat.reduceMul, Nat.reduceLeDiff, reduceCtorEq, Int.reduceNeg, Int.reduceToNat]); (· simp only [go_sem, Nat.reduceEqDiff, Nat.reduceAdd, Nat.reduceLT, Nat.reduceMul, Nat.reduceLeDiff, reduceCtorEq, Int.reduceNeg, Int.reduceToNat]); (· simp only [go_sem, Nat.reduceEqDiff, Nat.reduceAdd, Nat.reduceLT, Nat.reduceMul, Nat.reduceLeDiff, reduceCtorEq, Int.reduceNeg, Int.reduceToNat])
          rw [drop_set (by omega), vl_cons, hq1]
          exact hds
        · have hb' := of_decide_eq_false hb
          have hi0 : i = 0 := by omega
          subst hi0
          rw [List.drop_zero, Nat.pow_zero, Nat.one_mul] at heq
          rw [List.drop_zero] at hlt
          obtain ⟨e1, e2⟩ := div_end (by omega) hp1 heq hlt
          have hul' : vl 4294967296 u / 2 ^ k < 4294967296 ^ (x.length + 1) := Nat.lt_of_le_of_lt (Nat.div_le_self _ _) (by rw [← hul]; exact vl_lt huo)
          repeat with_reducible first | refine awp_seq_i ?_ | refine awp_reg_i ?_ | refine ops_nil_i ?_ | refine then_normal_i ?_ | refine awp_draw_i ?_ | refine awp_block_i ?_ | refine in_normal_i ?_ | refine awp_exit_i ?_ | refine then_exit_i ?_ | refine in_exit_i ?_ | refine in_exit_ne (by decide) ?_ | refine awp_ret_i ?_ | refine then_ret_i ?_ | refine in_ret_i ?_ | refine awp_skip_i ?_
          refine ops_sym (by simp (disch := omega) only [go_sem, Nat.reduceEqDiff, Nat.reduceAdd, Nat.reduceLT, Nat.reduceMul, Nat.reduceLeDiff, reduceCtorEq, Int.reduceNeg, Int.reduceToNat]; rfl) (by first | with_reducible exact True.intro | omega) ?_
          refine ops_call (by simp (disch := omega) only [go_sem, Nat.reduceEqDiff, Nat.reduceAdd, Nat.reduceLT, Nat.reduceMul, Nat.reduceLeDiff, reduceCtorEq, Int.reduceNeg, Int.reduceToNat]; rfl) (pcr_trim hG out (mm + 1) hol.symm hoo (by omega)) ?_
          refine ops_sym (by simp (disch := omega) only [go_sem, Nat.reduceEqDiff, Nat.reduceAdd, Nat.reduceLT, Nat.reduceMul, Nat.reduceLeDiff, reduceCtorEq, Int.reduceNeg, Int.reduceToNat]; rfl) (by first | with_reducible exact True.intro | omega) ?_
          refine ops_call (by simp (disch := omega) only [go_sem, Nat.reduceEqDiff, Nat.reduceAdd, Nat.reduceLT, Nat.reduceMul, Nat.reduceLeDiff, reduceCtorEq, Int.reduceNeg, Int.reduceToNat]; rfl) (pcr_back hG u (x.length + 1) k hul.symm huo (by omega) hk31) ?_
          refine ops_sym (by simp (disch := omega) only [go_sem, Nat.reduceEqDiff, Nat.reduceAdd, Nat.reduceLT, Nat.reduceMul, Nat.reduceLeDiff, reduceCtorEq, Int.reduceNeg, Int.reduceToNat]; rfl) (by first | with_reducible exact True.intro | omega) ?_
          refine ops_call (by simp (disch := omega) only [go_sem, Nat.reduceEqDiff, Nat.reduceAdd, Nat.reduceLT, Nat.reduceMul, Nat.reduceLeDiff, reduceCtorEq, Int.reduceNeg, Int.reduceToNat]; rfl) (pcr_trim hG (pd 4294967296 (vl 4294967296 u / 2 ^ k) (x.length + 1)) (x.length + 1) (pd_length _ _ _).symm (pd_ok (by omega) _ _) (by rw [pd_length]; omega)) ?_
          refine ops_sym (by simp (disch := omega) only [go_sem, Nat.reduceEqDiff, Nat.reduceAdd, Nat.reduceLT, Nat.reduceMul, Nat.reduceLeDiff, reduceCtorEq, Int.reduceNeg, Int.reduceToNat]; rfl) (by first | with_reducible exact True.intro | omega) ?_
          repeat with_reducible first | refine awp_seq_i ?_ | refine awp_reg_i ?_ | refine ops_nil_i ?_ | refine then_normal_i ?_ | refine awp_draw_i ?_ | refine awp_block_i ?_ | refine in_normal_i ?_ | refine awp_exit_i ?_ | refine then_exit_i ?_ | refine in_exit_i ?_ | refine in_exit_ne (by decide) ?_ | refine awp_ret_i ?_ | refine then_ret_i ?_ | refine in_ret_i ?_ | refine awp_skip_i ?_
          refine res_ret (by simp (disch := omega) only [go_sem, Nat.reduceEqDiff, Nat.reduceAdd, Nat.reduceLT, Nat.reduceMul, Nat.reduceLeDiff, reduceCtorEq, Int.reduceNeg, Int.reduceToNat]; rfl) ?_
          rw [hr, pd_vl (by omega) _ _ hul', e1, e2]; rfl
end Go.Proofs.YtakghhkbaahabaaDoorK.NatT
/-
  nat.Gcd, Pow, Low: what they compute.
-/
namespace Go.Proofs.YtakghhkbaahabaaDoorK.NatT
open Go.Proofs.YtakghhkbaahabaaDoorK.AI Go.Proofs.YtakghhkbaahabaaDoorK.NatIr Go.Proofs.YtakghhkbaahabaaDoorK.Dig Go.Proofs.YtakghhkbaahabaaDoorK.LibT
set_option linter.unusedSimpArgs false
attribute [local irreducible] awp awpOps
attribute [local go_sem] getO putE_same putE_ne putE_none un0_at ini_zero ini_one ini_two ini_three ne_eq not_false_eq_true Nat.zero_ne_one Nat.one_ne_zero zero_ne_succ succ_ne_zero sym_nil sym_cons symG_call symG_op symG_skip IOp.isCall gd st_mv st_pick st_new st_box st_build st_lit st_load st_store st_faddr st_fld st_iaddrS st_iaddrA st_idxs st_bin st_beq st_neg st_not st_conv st_slcS st_slcL st_make st_app st_lenS st_lenL st_mx st_mn st_ext st_nilck pureC loadC setH hv boundO D.cells D.one D.boxable fillD putD rowD binC intBinC decT decF dec_true dec_false bne_self_eq_false beq_self_eq_true beq_true_false beq_false_true bne_iff_ne List.length_nil List.length_cons List.getD_cons_zero List.getD_cons_succ List.set_cons_zero List.set_cons_succ List.all_cons List.all_nil Bool.and_true Bool.true_and Nat.lt_irrefl Nat.sub_self Nat.zero_add Nat.add_zero Nat.mul_one Nat.lt_add_one if_true if_false List.replicate_zero List.nil_append List.cons_append List.append_nil List.map_cons List.map_nil Bool.false_eq_true or_self or_true true_or or_false false_or true_and and_true and_self Int.ofNat_zero wrap_i64 wrap_u32 wrap_u64 wrap_u8 wrap_u32_mod wrap_u64_mod Nat.zero_lt_one Int.toNat_natCast Int.sub_zero toNat_pred List.take_succ_cons List.take_zero List.drop_succ_cons List.drop_zero List.take_nil List.drop_nil Nat.le_refl List.length_singleton rvDs rvD ldD one? Option.bind_some Option.map_some resD_int resD_bool resD_str resD_sl resD_rp resD_nils resD_null resD_agg resD_tup resD_own rdOwn resD_ptr rdPtr rd_ite resL_eq go_nil go_cons D.imm resArgs shr32 shl32 Nat.zero_mul Bool.and_self Bool.and_false Bool.false_and strBin_eql strBin_neq Bool.not_true Bool.not_false i64max List.length_reverse List.length_set SS_length SS_getD SS_set SS_take SS_drop SS_imm SS_one SS_app1 W_get1 W_len1 W_getD W_set W_take W_drop W_app W_length W_imm W_one W_repl N mx_nat toNat_succ toNat_add toNat_pred2 tdiv_nn tmod_nn List.take_of_length_le cast_succ and_one or_shl32 min64 shr32b shl32b IntKind.bits
variable {G : World → Prop}
theorem wd_len_mono {B a b : Nat} (hB : 2 ≤ B) (h : a ≤ b) : (wd B a).length ≤ (wd B b).length := by
  have h1 := vl_lt (ok_wd hB b)
  rw [vl_wd hB] at h1
  exact wd_length_le hB (Nat.lt_of_le_of_lt h h1)
set_option maxHeartbeats 2000000 in
theorem pcr_gcd (hG : Stable G) (a b : List Int) (n m : Nat) (hn : n = a.length) (hm : m = b.length) (ha : ok 4294967296 a) (hb : ok 4294967296 b) (hla : a.length < 400000) (hlb : b.length < 400000) :
    PCr Tryd.prog G 23 [.agg [.sl n (W a)], .agg [.sl m (W b)]] (N (Nat.gcd (vl 4294967296 a) (vl 4294967296 b))) := by
  refine pcr_by hG (fn := Tryd.f23) (n := 31) (rv := [.cell 4 true 1]) (by kernel_rfl) ok23 (by kernel_rfl) (by decide) (by kernel_rfl) (by simp) (by kernel_rfl) (fun r hr => ?_)
  unfold c23 st0
  repeat with_reducible first | refine awp_seq_i ?_ | refine awp_reg_i ?_ | refine ops_nil_i ?_ | refine then_normal_i ?_ | refine awp_draw_i ?_ | refine awp_block_i ?_ | refine in_normal_i ?_ | refine awp_exit_i ?_ | refine then_exit_i ?_ | refine in_exit_i ?_ | refine in_exit_ne (by decide) ?_ | refine awp_ret_i ?_ | refine then_ret_i ?_ | refine in_ret_i ?_ | refine awp_skip_i ?_
  refine ops_sym (by simp (disch := omega) only [go_sem, Nat.reduceEqDiff, Nat.reduceAdd, Nat.reduceLT, Nat.reduceMul, Nat.reduceLeDiff, reduceCtorEq, Int.reduceNeg, Int.reduceToNat]; rfl) (by first | with_reducible exact True.intro | omega) ?_
  repeat with_reducible first | refine awp_seq_i ?_ | refine awp_reg_i ?_ | refine ops_nil_i ?_ | refine then_normal_i ?_ | refine awp_draw_i ?_ | refine awp_block_i ?_ | refine in_normal_i ?_ | refine awp_exit_i ?_ | refine then_exit_i ?_ | refine in_exit_i ?_ | refine in_exit_ne (by decide) ?_ | refine awp_ret_i ?_ | refine then_ret_i ?_ | refine in_ret_i ?_ | refine awp_skip_i ?_
  refine ops_sym (by simp (disch := omega) only [go_sem, Nat.reduceEqDiff, Nat.reduceAdd, Nat.reduceLT, Nat.reduceMul, Nat.reduceLeDiff, reduceCtorEq, Int.reduceNeg, Int.reduceToNat]; rfl) (by first | with_reducible exact True.intro | omega) ?_
  refine ops_call (by simp (disch := omega) only [go_sem, Nat.reduceEqDiff, Nat.reduceAdd, Nat.reduceLT, Nat.reduceMul, Nat.reduceLeDiff, reduceCtorEq, Int.reduceNeg, Int.reduceToNat]; rfl) (pcr_trim hG a n hn ha (by omega)) ?_
  refine ops_sym (by simp (disch := omega) only [go_sem, Nat.reduceEqDiff, Nat.reduceAdd, Nat.reduceLT, Nat.reduceMul, Nat.reduceLeDiff, reduceCtorEq, Int.reduceNeg, Int.reduceToNat]; rfl) (by first | with_reducible exact True.intro | omega) ?_
  refine ops_call (by simp (disch := omega) only [go_sem, Nat.reduceEqDiff, Nat.reduceAdd, Nat.reduceLT, Nat.reduceMul, Nat.reduceLeDiff, reduceCtorEq, Int.reduceNeg, Int.reduceToNat]; rfl) (pcr_trim hG b m hm hb (by omega)) ?_
  refine ops_sym (by simp (disch := omega) only [go_sem, Nat.reduceEqDiff, Nat.reduceAdd, Nat.reduceLT, Nat.reduceMul, Nat.reduceLeDiff, reduceCtorEq, Int.reduceNeg, Int.reduceToNat]; rfl) (by first | with_reducible exact True.intro | omega) ?_
  repeat with_reducible first | refine awp_seq_i ?_ | refine awp_reg_i ?_ | refine ops_nil_i ?_ | refine then_normal_i ?_ | refine awp_draw_i ?_ | refine awp_block_i ?_ | refine in_normal_i ?_ | refine awp_exit_i ?_ | refine then_exit_i ?_ | refine in_exit_i ?_ | refine in_exit_ne (by decide) ?_ | refine awp_ret_i ?_ | refine then_ret_i ?_ | refine in_ret_i ?_ | refine awp_skip_i ?_
  refine ⟨by first | rfl | decide, ?_⟩
  repeat with_reducible first | refine awp_seq_i ?_ | refine awp_reg_i ?_ | refine ops_nil_i ?_ | refine then_normal_i ?_ | refine awp_draw_i ?_ | refine awp_block_i ?_ | refine in_normal_i ?_ | refine awp_exit_i ?_ | refine then_exit_i ?_ | refine in_exit_i ?_ | refine in_exit_ne (by decide) ?_ | refine awp_ret_i ?_ | refine then_ret_i ?_ | refine in_ret_i ?_ | refine awp_skip_i ?_
  refine awp_loop (fun k σ => ∃ A B : Nat, k = B ∧ (wd 4294967296 A).length < 400000 ∧ (wd 4294967296 B).length < 400000 ∧ Nat.gcd A B = Nat.gcd (vl 4294967296 a) (vl 4294967296 b) ∧
      σ = ⟨(putE (putE (putE un0 (some 2) (.ptr 0 0 0)) (some 3) (.ptr 1 0 0)) (some 4) (.ptr 2 0 0)), [some (0, 25, 1, [.sl (wd 4294967296 A).length (W (wd 4294967296 A))]), some (0, 25, 1, [.sl (wd 4294967296 B).length (W (wd 4294967296 B))]), some (0, 25, 1, [.nils])]⟩) (vl 4294967296 b)
    (Ent.env (less_put (less_put (less_put (less_un0 _) ?_) ?_) ?_)) ⟨vl 4294967296 a, vl 4294967296 b, rfl, Nat.lt_of_le_of_lt (wd_len_small ha) hla, Nat.lt_of_le_of_lt (wd_len_small hb) hlb, rfl, rfl⟩ ?_
  (· simp only [go_sem, Nat.reduceEqDiff, Nat.reduceAdd, Nat.reduceLT, Nat.reduceMul, Nat.reduceLeDiff, reduceCtorEq, Int.reduceNeg, Int.reduceToNat]); (· simp only [go_sem, Nat.reduceEqDiff, Nat.reduceAdd, Nat.reduceLT, Nat.reduceMul, Nat.reduceLeDiff, reduceCtorEq, Int.reduceNeg, Int.reduceToNat]); (· simp only [go_sem, Nat.reduceEqDiff, Nat.reduceAdd, Nat.reduceLT, Nat.reduceMul, Nat.reduceLeDiff, reduceCtorEq, Int.reduceNeg, Int.reduceToNat])
  rintro B σ1 ⟨A, _, rfl, hlA, hlB, hg, rfl⟩
  have hoA := ok_wd (B := 4294967296) (by omega) A
  have hoB := ok_wd (B := 4294967296) (by omega) B
  repeat with_reducible first | refine awp_seq_i ?_ | refine awp_reg_i ?_ | refine ops_nil_i ?_ | refine then_normal_i ?_ | refine awp_draw_i ?_ | refine awp_block_i ?_ | refine in_normal_i ?_ | refine awp_exit_i ?_ | refine then_exit_i ?_ | refine in_exit_i ?_ | refine in_exit_ne (by decide) ?_ | refine awp_ret_i ?_ | refine then_ret_i ?_ | refine in_ret_i ?_ | refine awp_skip_i ?_
  refine ops_sym (by simp (disch := omega) only [go_sem, Nat.reduceEqDiff, Nat.reduceAdd, Nat.reduceLT, Nat.reduceMul, Nat.reduceLeDiff, reduceCtorEq, Int.reduceNeg, Int.reduceToNat]; rfl) (by first | with_reducible exact True.intro | omega) ?_
  repeat with_reducible first | refine awp_seq_i ?_ | refine awp_reg_i ?_ | refine ops_nil_i ?_ | refine then_normal_i ?_ | refine awp_draw_i ?_ | refine awp_block_i ?_ | refine in_normal_i ?_ | refine awp_exit_i ?_ | refine then_exit_i ?_ | refine in_exit_i ?_ | refine in_exit_ne (by decide) ?_ | refine awp_ret_i ?_ | refine then_ret_i ?_ | refine in_ret_i ?_ | refine awp_skip_i ?_
  refine awp_cond_sym (by simp only [go_sem, Nat.reduceEqDiff, Nat.reduceAdd, Nat.reduceLT, Nat.reduceMul, Nat.reduceLeDiff, reduceCtorEq, Int.reduceNeg, Int.reduceToNat]; rfl) (fun hb => ?_) (fun hb => ?_)
  · have hb' := of_decide_eq_true hb
    have hB0 : B ≠ 0 := fun h => by subst h; rw [wd_zero] at hb'; simp at hb'
    have hdiv := pcr_div hG (wd 4294967296 A) (wd 4294967296 B) _ _ rfl rfl hoA hoB hlA hlB
    rw [vl_wd (by omega), vl_wd (by omega), if_neg hB0, if_neg hB0, decide_eq_true hB0] at hdiv
    have hlt := Nat.mod_lt A (Nat.pos_of_ne_zero hB0)
    have hlm := wd_len_mono (B := 4294967296) (by omega) (Nat.le_of_lt hlt)
    repeat with_reducible first | refine awp_seq_i ?_ | refine awp_reg_i ?_ | refine ops_nil_i ?_ | refine then_normal_i ?_ | refine awp_draw_i ?_ | refine awp_block_i ?_ | refine in_normal_i ?_ | refine awp_exit_i ?_ | refine then_exit_i ?_ | refine in_exit_i ?_ | refine in_exit_ne (by decide) ?_ | refine awp_ret_i ?_ | refine then_ret_i ?_ | refine in_ret_i ?_ | refine awp_skip_i ?_
    refine ops_sym (by simp (disch := omega) only [go_sem, Nat.reduceEqDiff, Nat.reduceAdd, Nat.reduceLT, Nat.reduceMul, Nat.reduceLeDiff, reduceCtorEq, Int.reduceNeg, Int.reduceToNat]; rfl) (by first | with_reducible exact True.intro | omega) ?_
    refine ops_call (by simp (disch := omega) only [go_sem, Nat.reduceEqDiff, Nat.reduceAdd, Nat.reduceLT, Nat.reduceMul, Nat.reduceLeDiff, reduceCtorEq, Int.reduceNeg, Int.reduceToNat]; rfl) hdiv ?_
    refine ops_sym (by simp (disch := omega) only [go_sem, Nat.reduceEqDiff, Nat.reduceAdd, Nat.reduceLT, Nat.reduceMul, Nat.reduceLeDiff, reduceCtorEq, Int.reduceNeg, Int.reduceToNat]; rfl) (by first | with_reducible exact True.intro | omega) ?_
    repeat with_reducible first | refine awp_seq_i ?_ | refine awp_reg_i ?_ | refine ops_nil_i ?_ | refine then_normal_i ?_ | refine awp_draw_i ?_ | refine awp_block_i ?_ | refine in_normal_i ?_ | refine awp_exit_i ?_ | refine then_exit_i ?_ | refine in_exit_i ?_ | refine in_exit_ne (by decide) ?_ | refine awp_ret_i ?_ | refine then_ret_i ?_ | refine in_ret_i ?_ | refine awp_skip_i ?_
    refine ops_sym (by simp (disch := omega) only [go_sem, Nat.reduceEqDiff, Nat.reduceAdd, Nat.reduceLT, Nat.reduceMul, Nat.reduceLeDiff, reduceCtorEq, Int.reduceNeg, Int.reduceToNat]; rfl) (by first | with_reducible exact True.intro | omega) ?_
    repeat with_reducible first | refine awp_seq_i ?_ | refine awp_reg_i ?_ | refine ops_nil_i ?_ | refine then_normal_i ?_ | refine awp_draw_i ?_ | refine awp_block_i ?_ | refine in_normal_i ?_ | refine awp_exit_i ?_ | refine then_exit_i ?_ | refine in_exit_i ?_ | refine in_exit_ne (by decide) ?_ | refine awp_ret_i ?_ | refine then_ret_i ?_ | refine in_ret_i ?_ | refine awp_skip_i ?_
    refine ⟨by first | rfl | decide, ?_⟩
    repeat with_reducible first | refine awp_seq_i ?_ | refine awp_reg_i ?_ | refine ops_nil_i ?_ | refine then_normal_i ?_ | refine awp_draw_i ?_ | refine awp_block_i ?_ | refine in_normal_i ?_ | refine awp_exit_i ?_ | refine then_exit_i ?_ | refine in_exit_i ?_ | refine in_exit_ne (by decide) ?_ | refine awp_ret_i ?_ | refine then_ret_i ?_ | refine in_ret_i ?_ | refine awp_skip_i ?_
    refine ⟨A % B, _, hlt, (Ent.cutk 3 (less_put (less_put (less_put (less_un0 _) ?_) ?_) ?_) (by exact ⟨.inr rfl, .inr rfl, .inr rfl, trivial⟩) (kb_put (kb_put (kb_put (kb_un0 _) (by simp [kb])) (by simp [kb])) (by simp [kb])) (by simp [kbH, kb.kbs, kb, kbs_W, kbs_SS])), B, A % B, rfl, hlB, by omega, ?_, rfl⟩
    (· simp only [go_sem, Nat.reduceEqDiff, Nat.reduceAdd, Nat.reduceLT, Nat.reduceMul, Nat.reduceLeDiff, reduceCtorEq, Int.reduceNeg, Int.reduceToNat]); (· simp only [go_sem, Nat.reduceEqDiff, Nat.reduceAdd, Nat.reduceLT, Nat.reduceMul, Nat.reduceLeDiff, reduceCtorEq, Int.reduceNeg, Int.reduceToNat]); (· simp only [go_sem, Nat.reduceEqDiff, Nat.reduceAdd, Nat.reduceLT, Nat.reduceMul, Nat.reduceLeDiff, reduceCtorEq, Int.reduceNeg, Int.reduceToNat])
    rw [← hg, Nat.gcd_comm A B, Nat.gcd_rec B A, Nat.gcd_comm]
  · have hb' := of_decide_eq_false hb
    have hB0 : B = 0 := by
      rw [← vl_wd (B := 4294967296) (by omega) B, List.eq_nil_of_length_eq_zero (by omega : (wd 4294967296 B).length = 0)]; rfl
    subst hB0
    rw [Nat.gcd_zero_right] at hg
    repeat with_reducible first | refine awp_seq_i ?_ | refine awp_reg_i ?_ | refine ops_nil_i ?_ | refine then_normal_i ?_ | refine awp_draw_i ?_ | refine awp_block_i ?_ | refine in_normal_i ?_ | refine awp_exit_i ?_ | refine then_exit_i ?_ | refine in_exit_i ?_ | refine in_exit_ne (by decide) ?_ | refine awp_ret_i ?_ | refine then_ret_i ?_ | refine in_ret_i ?_ | refine awp_skip_i ?_
    refine ops_sym (by simp (disch := omega) only [go_sem, Nat.reduceEqDiff, Nat.reduceAdd, Nat.reduceLT, Nat.reduceMul, Nat.reduceLeDiff, reduceCtorEq, Int.reduceNeg, Int.reduceToNat]; rfl) (by first | with_reducible exact True.intro | omega) ?_
    refine ops_call (by simp (disch := omega) only [go_sem, Nat.reduceEqDiff, Nat.reduceAdd, Nat.reduceLT, Nat.reduceMul, Nat.reduceLeDiff, reduceCtorEq, Int.reduceNeg, Int.reduceToNat]; rfl) (pcr_clone _ _ rfl (by omega)) ?_
    refine ops_sym (by simp (disch := omega) only [go_sem, Nat.reduceEqDiff, Nat.reduceAdd, Nat.reduceLT, Nat.reduceMul, Nat.reduceLeDiff, reduceCtorEq, Int.reduceNeg, Int.reduceToNat]; rfl) (by first | with_reducible exact True.intro | omega) ?_
    repeat with_reducible first | refine awp_seq_i ?_ | refine awp_reg_i ?_ | refine ops_nil_i ?_ | refine then_normal_i ?_ | refine awp_draw_i ?_ | refine awp_block_i ?_ | refine in_normal_i ?_ | refine awp_exit_i ?_ | refine then_exit_i ?_ | refine in_exit_i ?_ | refine in_exit_ne (by decide) ?_ | refine awp_ret_i ?_ | refine then_ret_i ?_ | refine in_ret_i ?_ | refine awp_skip_i ?_
    refine res_ret (by simp (disch := omega) only [go_sem, Nat.reduceEqDiff, Nat.reduceAdd, Nat.reduceLT, Nat.reduceMul, Nat.reduceLeDiff, reduceCtorEq, Int.reduceNeg, Int.reduceToNat]; rfl) ?_
    rw [hr, ← hg]; rfl
theorem pow_len {B v n e : Nat} (hB : 2 ≤ B) (h : v < B ^ n) (he : 0 < e ∨ 0 < n) : (wd B (v ^ e)).length ≤ n * e + 1 := by
  refine wd_length_le hB ?_
  have h1 : v ^ e ≤ (B ^ n) ^ e := Nat.pow_le_pow_left (Nat.le_of_lt h) e
  rw [← Nat.pow_mul] at h1
  have h2 : B ^ (n * e) < B ^ (n * e + 1) := Nat.pow_lt_pow_right (by omega) (by omega)
  omega
set_option maxHeartbeats 2000000 in
theorem pcr_pow (hG : Stable G) (a : List Int) (n : Nat) (k : Int) (hn : n = a.length) (ha : ok 4294967296 a) (hk : k < 1000) (hlen : a.length < 200) :
    PCr Tryd.prog G 17 [.agg [.sl n (W a)], .int .i64 k] (N (vl 4294967296 a ^ k.toNat)) := by
  refine pcr_by hG (fn := Tryd.f17) (n := 23) (rv := [.cell 4 true 1]) (by kernel_rfl) ok17 (by kernel_rfl) (by decide) (by kernel_rfl) (by simp) (by kernel_rfl) (fun r hr => ?_)
  unfold c17 st0
  repeat with_reducible first | refine awp_seq_i ?_ | refine awp_reg_i ?_ | refine ops_nil_i ?_ | refine then_normal_i ?_ | refine awp_draw_i ?_ | refine awp_block_i ?_ | refine in_normal_i ?_ | refine awp_exit_i ?_ | refine then_exit_i ?_ | refine in_exit_i ?_ | refine in_exit_ne (by decide) ?_ | refine awp_ret_i ?_ | refine then_ret_i ?_ | refine in_ret_i ?_ | refine awp_skip_i ?_
  refine ops_sym (by simp (disch := omega) only [go_sem, Nat.reduceEqDiff, Nat.reduceAdd, Nat.reduceLT, Nat.reduceMul, Nat.reduceLeDiff, reduceCtorEq, Int.reduceNeg, Int.reduceToNat]; rfl) (by first | with_reducible exact True.intro | omega) ?_
  repeat with_reducible first | refine awp_seq_i ?_ | refine awp_reg_i ?_ | refine ops_nil_i ?_ | refine then_normal_i ?_ | refine awp_draw_i ?_ | refine awp_block_i ?_ | refine in_normal_i ?_ | refine awp_exit_i ?_ | refine then_exit_i ?_ | refine in_exit_i ?_ | refine in_exit_ne (by decide) ?_ | refine awp_ret_i ?_ | refine then_ret_i ?_ | refine in_ret_i ?_ | refine awp_skip_i ?_
  refine ops_sym (by simp (disch := omega) only [go_sem, Nat.reduceEqDiff, Nat.reduceAdd, Nat.reduceLT, Nat.reduceMul, Nat.reduceLeDiff, reduceCtorEq, Int.reduceNeg, Int.reduceToNat]; rfl) (by first | with_reducible exact True.intro | omega) ?_
  refine ops_call (by simp (disch := omega) only [go_sem, Nat.reduceEqDiff, Nat.reduceAdd, Nat.reduceLT, Nat.reduceMul, Nat.reduceLeDiff, reduceCtorEq, Int.reduceNeg, Int.reduceToNat]; rfl) (pcr_of hG 1 (by omega)) ?_
  refine ops_sym (by simp (disch := omega) only [go_sem, Nat.reduceEqDiff, Nat.reduceAdd, Nat.reduceLT, Nat.reduceMul, Nat.reduceLeDiff, reduceCtorEq, Int.reduceNeg, Int.reduceToNat]; rfl) (by first | with_reducible exact True.intro | omega) ?_
  repeat with_reducible first | refine awp_seq_i ?_ | refine awp_reg_i ?_ | refine ops_nil_i ?_ | refine then_normal_i ?_ | refine awp_draw_i ?_ | refine awp_block_i ?_ | refine in_normal_i ?_ | refine awp_exit_i ?_ | refine then_exit_i ?_ | refine in_exit_i ?_ | refine in_exit_ne (by decide) ?_ | refine awp_ret_i ?_ | refine then_ret_i ?_ | refine in_ret_i ?_ | refine awp_skip_i ?_
  have hva := vl_lt ha
  generalize hv : vl 4294967296 a = v at *
  have hplen : ∀ e, e ≤ 1000 → (wd 4294967296 (v ^ e)).length ≤ 200001 := fun e he => by
    have := pow_len (B := 4294967296) (n := 200) (e := e) (by omega) (Nat.lt_of_lt_of_le hva (Nat.pow_le_pow_right (by omega) (by omega))) (.inr (by omega))
    omega
  refine awp_loop (fun μ σ => ∃ (kk : Int) (e f : Nat) (A : List Int) (nA : Nat), nA = A.length ∧ μ = kk.toNat ∧ kk < 1000 ∧ f + e * kk.toNat = k.toNat ∧ ok 4294967296 A ∧ vl 4294967296 A = v ^ e ∧ A.length ≤ 200001 ∧
      σ = ⟨(putE (putE (putE (putE un0 (some 1) (.int .i64 kk)) (some 2) (.ptr 0 0 0)) (some 4) (.ptr 1 0 0)) (some 5) (.ptr 2 0 0)), [some (0, 25, 1, [.sl nA (W A)]), some (0, 25, 1, [.nils]), some (0, 25, 1, [.sl (wd 4294967296 (v ^ f)).length (W (wd 4294967296 (v ^ f)))])]⟩) k.toNat
    (Ent.env (less_put (less_put (less_put (less_put (less_un0 _) ?_) ?_) ?_) ?_)) ⟨k, 1, 0, a, n, hn, rfl, hk, by omega, ha, by rw [hv, Nat.pow_one], by omega, rfl⟩ ?_
  (· simp only [go_sem, Nat.reduceEqDiff, Nat.reduceAdd, Nat.reduceLT, Nat.reduceMul, Nat.reduceLeDiff, reduceCtorEq, Int.reduceNeg, Int.reduceToNat]); (· simp only [go_sem, Nat.reduceEqDiff, Nat.reduceAdd, Nat.reduceLT, Nat.reduceMul, Nat.reduceLeDiff, reduceCtorEq, Int.reduceNeg, Int.reduceToNat]); (· simp only [go_sem, Nat.reduceEqDiff, Nat.reduceAdd, Nat.reduceLT, Nat.reduceMul, Nat.reduceLeDiff, reduceCtorEq, Int.reduceNeg, Int.reduceToNat]); (· simp only [go_sem, Nat.reduceEqDiff, Nat.reduceAdd, Nat.reduceLT, Nat.reduceMul, Nat.reduceLeDiff, reduceCtorEq, Int.reduceNeg, Int.reduceToNat])
  rintro μ σ1 ⟨kk, e, f, A, nA, rfl, rfl, hkk, hef, hoA, hvA, hlA, rfl⟩
  repeat with_reducible first | refine awp_seq_i ?_ | refine awp_reg_i ?_ | refine ops_nil_i ?_ | refine then_normal_i ?_ | refine awp_draw_i ?_ | refine awp_block_i ?_ | refine in_normal_i ?_ | refine awp_exit_i ?_ | refine then_exit_i ?_ | refine in_exit_i ?_ | refine in_exit_ne (by decide) ?_ | refine awp_ret_i ?_ | refine then_ret_i ?_ | refine in_ret_i ?_ | refine awp_skip_i ?_
  refine ops_sym (by simp (disch := omega) only [go_sem, Nat.reduceEqDiff, Nat.reduceAdd, Nat.reduceLT, Nat.reduceMul, Nat.reduceLeDiff, reduceCtorEq, Int.reduceNeg, Int.reduceToNat]; rfl) (by first | with_reducible exact True.intro | omega) ?_
  repeat with_reducible first | refine awp_seq_i ?_ | refine awp_reg_i ?_ | refine ops_nil_i ?_ | refine then_normal_i ?_ | refine awp_draw_i ?_ | refine awp_block_i ?_ | refine in_normal_i ?_ | refine awp_exit_i ?_ | refine then_exit_i ?_ | refine in_exit_i ?_ | refine in_exit_ne (by decide) ?_ | refine awp_ret_i ?_ | refine then_ret_i ?_ | refine in_ret_i ?_ | refine awp_skip_i ?_
  refine awp_cond_sym (by simp only [go_sem, Nat.reduceEqDiff, Nat.reduceAdd, Nat.reduceLT, Nat.reduceMul, Nat.reduceLeDiff, reduceCtorEq, Int.reduceNeg, Int.reduceToNat]; rfl) (fun hb => ?_) (fun hb => ?_)
  · have hb' := of_decide_eq_true hb
    obtain ⟨j, rfl⟩ : ∃ j : Nat, kk = j := ⟨kk.toNat, by omega⟩
    rw [Int.toNat_natCast] at hef
    have hef2 : f + e ≤ k.toNat := by
      have : e * 1 ≤ e * j := Nat.mul_le_mul_left _ (by omega)
      omega
    repeat with_reducible first | refine awp_reg_i ?_ | refine ops_nil_i ?_ | refine then_normal_i ?_ | refine awp_draw_i ?_ | refine awp_block_i ?_ | refine in_normal_i ?_ | refine awp_exit_i ?_ | refine then_exit_i ?_ | refine in_exit_i ?_ | refine in_exit_ne (by decide) ?_ | refine awp_ret_i ?_ | refine then_ret_i ?_ | refine in_ret_i ?_ | refine awp_skip_i ?_
    refine awp_seq_i ?_
    repeat with_reducible first | refine awp_reg_i ?_ | refine ops_nil_i ?_ | refine then_normal_i ?_ | refine awp_draw_i ?_ | refine awp_block_i ?_ | refine in_normal_i ?_ | refine awp_exit_i ?_ | refine then_exit_i ?_ | refine in_exit_i ?_ | refine in_exit_ne (by decide) ?_ | refine awp_ret_i ?_ | refine then_ret_i ?_ | refine in_ret_i ?_ | refine awp_skip_i ?_
    refine awp_seq_mid (fun σ => ∃ f', f' + e * (2 * (j / 2)) = k.toNat ∧
      σ = ⟨(putE (putE (putE (putE un0 (some 1) (.int .i64 j)) (some 2) (.ptr 0 0 0)) (some 4) (.ptr 1 0 0)) (some 5) (.ptr 2 0 0)), [some (0, 25, 1, [.sl A.length (W A)]), some (0, 25, 1, [.nils]), some (0, 25, 1, [.sl (wd 4294967296 (v ^ f')).length (W (wd 4294967296 (v ^ f')))])]⟩) ?_ ?_
    · rintro σ ⟨f', hf', rfl⟩
      repeat with_reducible first | refine awp_seq_i ?_ | refine awp_reg_i ?_ | refine ops_nil_i ?_ | refine then_normal_i ?_ | refine awp_draw_i ?_ | refine awp_block_i ?_ | refine in_normal_i ?_ | refine awp_exit_i ?_ | refine then_exit_i ?_ | refine in_exit_i ?_ | refine in_exit_ne (by decide) ?_ | refine awp_ret_i ?_ | refine then_ret_i ?_ | refine in_ret_i ?_ | refine awp_skip_i ?_
      refine ops_sym (by simp (disch := omega) only [go_sem, Nat.reduceEqDiff, Nat.reduceAdd, Nat.reduceLT, Nat.reduceMul, Nat.reduceLeDiff, reduceCtorEq, Int.reduceNeg, Int.reduceToNat]; rfl) (by first | with_reducible exact True.intro | omega) ?_
      repeat with_reducible first | refine awp_seq_i ?_ | refine awp_reg_i ?_ | refine ops_nil_i ?_ | refine then_normal_i ?_ | refine awp_draw_i ?_ | refine awp_block_i ?_ | refine in_normal_i ?_ | refine awp_exit_i ?_ | refine then_exit_i ?_ | refine in_exit_i ?_ | refine in_exit_ne (by decide) ?_ | refine awp_ret_i ?_ | refine then_ret_i ?_ | refine in_ret_i ?_ | refine awp_skip_i ?_
      refine awp_cond_sym (by simp only [go_sem, Nat.reduceEqDiff, Nat.reduceAdd, Nat.reduceLT, Nat.reduceMul, Nat.reduceLeDiff, reduceCtorEq, Int.reduceNeg, Int.reduceToNat]; rfl) (fun hb => ?_) (fun hb => ?_)
      · have hb2 := of_decide_eq_true hb
        have he2 : e + e ≤ k.toNat := by
          have : e * 2 ≤ e * (2 * (j / 2)) := Nat.mul_le_mul_left _ (by omega)
          omega
        have hmul := pcr_mul hG A A _ _ rfl rfl hoA hoA (by omega) (by omega)
        rw [hvA, ← Nat.pow_add] at hmul
        repeat with_reducible first | refine awp_seq_i ?_ | refine awp_reg_i ?_ | refine ops_nil_i ?_ | refine then_normal_i ?_ | refine awp_draw_i ?_ | refine awp_block_i ?_ | refine in_normal_i ?_ | refine awp_exit_i ?_ | refine then_exit_i ?_ | refine in_exit_i ?_ | refine in_exit_ne (by decide) ?_ | refine awp_ret_i ?_ | refine then_ret_i ?_ | refine in_ret_i ?_ | refine awp_skip_i ?_
        refine ops_sym (by simp (disch := omega) only [go_sem, Nat.reduceEqDiff, Nat.reduceAdd, Nat.reduceLT, Nat.reduceMul, Nat.reduceLeDiff, reduceCtorEq, Int.reduceNeg, Int.reduceToNat]; rfl) (by first | with_reducible exact True.intro | omega) ?_
        refine ops_call (by simp (disch := omega) only [go_sem, Nat.reduceEqDiff, Nat.reduceAdd, Nat.reduceLT, Nat.reduceMul, Nat.reduceLeDiff, reduceCtorEq, Int.reduceNeg, Int.reduceToNat]; rfl) hmul ?_
        refine ops_sym (by simp (disch := omega) only [go_sem, Nat.reduceEqDiff, Nat.reduceAdd, Nat.reduceLT, Nat.reduceMul, Nat.reduceLeDiff, reduceCtorEq, Int.reduceNeg, Int.reduceToNat]; rfl) (by first | with_reducible exact True.intro | omega) ?_
        repeat with_reducible first | refine awp_seq_i ?_ | refine awp_reg_i ?_ | refine ops_nil_i ?_ | refine then_normal_i ?_ | refine awp_draw_i ?_ | refine awp_block_i ?_ | refine in_normal_i ?_ | refine awp_exit_i ?_ | refine then_exit_i ?_ | refine in_exit_i ?_ | refine in_exit_ne (by decide) ?_ | refine awp_ret_i ?_ | refine then_ret_i ?_ | refine in_ret_i ?_ | refine awp_skip_i ?_
        refine ops_sym (by simp (disch := omega) only [go_sem, Nat.reduceEqDiff, Nat.reduceAdd, Nat.reduceLT, Nat.reduceMul, Nat.reduceLeDiff, reduceCtorEq, Int.reduceNeg, Int.reduceToNat]; rfl) (by first | with_reducible exact True.intro | omega) ?_
        repeat with_reducible first | refine awp_seq_i ?_ | refine awp_reg_i ?_ | refine ops_nil_i ?_ | refine then_normal_i ?_ | refine awp_draw_i ?_ | refine awp_block_i ?_ | refine in_normal_i ?_ | refine awp_exit_i ?_ | refine then_exit_i ?_ | refine in_exit_i ?_ | refine in_exit_ne (by decide) ?_ | refine awp_ret_i ?_ | refine then_ret_i ?_ | refine in_ret_i ?_ | refine awp_skip_i ?_
        refine ⟨j / 2, _, by omega, Ent.env (less_put (less_put (less_put (less_put (less_un0 _) ?_) ?_) ?_) ?_), (j : Int) / 2, e + e, f', wd 4294967296 (v ^ (e + e)), _, rfl, by omega, by omega, ?_, ok_wd (by omega) _, vl_wd (by omega) _, hplen _ (by omega), rfl⟩
        (· simp only [go_sem, Nat.reduceEqDiff, Nat.reduceAdd, Nat.reduceLT, Nat.reduceMul, Nat.reduceLeDiff, reduceCtorEq, Int.reduceNeg, Int.reduceToNat]); (· simp only [go_sem, Nat.reduceEqDiff, Nat.reduceAdd, Nat.reduceLT, Nat.reduceMul, Nat.reduceLeDiff, reduceCtorEq, Int.reduceNeg, Int.reduceToNat]); (· simp only [go_sem, Nat.reduceEqDiff, Nat.reduceAdd, Nat.reduceLT, Nat.reduceMul, Nat.reduceLeDiff, reduceCtorEq, Int.reduceNeg, Int.reduceToNat]); (· simp only [go_sem, Nat.reduceEqDiff, Nat.reduceAdd, Nat.reduceLT, Nat.reduceMul, Nat.reduceLeDiff, reduceCtorEq, Int.reduceNeg, Int.reduceToNat])
        rw [← hf', show ((j : Int) / 2).toNat = j / 2 by omega, ← Nat.mul_assoc, Nat.mul_two]
      · have hb2 := of_decide_eq_false hb
        have hj1 : j = 1 := by omega
        subst hj1
        repeat with_reducible first | refine awp_seq_i ?_ | refine awp_reg_i ?_ | refine ops_nil_i ?_ | refine then_normal_i ?_ | refine awp_draw_i ?_ | refine awp_block_i ?_ | refine in_normal_i ?_ | refine awp_exit_i ?_ | refine then_exit_i ?_ | refine in_exit_i ?_ | refine in_exit_ne (by decide) ?_ | refine awp_ret_i ?_ | refine then_ret_i ?_ | refine in_ret_i ?_ | refine awp_skip_i ?_
        refine ops_sym (by simp (disch := omega) only [go_sem, Nat.reduceEqDiff, Nat.reduceAdd, Nat.reduceLT, Nat.reduceMul, Nat.reduceLeDiff, reduceCtorEq, Int.reduceNeg, Int.reduceToNat]; rfl) (by first | with_reducible exact True.intro | omega) ?_
        repeat with_reducible first | refine awp_seq_i ?_ | refine awp_reg_i ?_ | refine ops_nil_i ?_ | refine then_normal_i ?_ | refine awp_draw_i ?_ | refine awp_block_i ?_ | refine in_normal_i ?_ | refine awp_exit_i ?_ | refine then_exit_i ?_ | refine in_exit_i ?_ | refine in_exit_ne (by decide) ?_ | refine awp_ret_i ?_ | refine then_ret_i ?_ | refine in_ret_i ?_ | refine awp_skip_i ?_
        refine ⟨0, _, by omega, Ent.env (less_put (less_put (less_put (less_put (less_un0 _) ?_) ?_) ?_) ?_), 0, e, f', A, _, rfl, by omega, by omega, by simpa using hf', hoA, hvA, hlA, rfl⟩
        · simp only [go_sem, Nat.reduceEqDiff, Nat.reduceAdd, Nat.reduceLT, Nat.reduceMul, Nat.reduceLeDiff, reduceCtorEq, Int.reduceNeg, Int.reduceToNat]
          rfl
        (· simp only [go_sem, Nat.reduceEqDiff, Nat.reduceAdd, Nat.reduceLT, Nat.reduceMul, Nat.reduceLeDiff, reduceCtorEq, Int.reduceNeg, Int.reduceToNat]); (· simp only [go_sem, Nat.reduceEqDiff, Nat.reduceAdd, Nat.reduceLT, Nat.reduceMul, Nat.reduceLeDiff, reduceCtorEq, Int.reduceNeg, Int.reduceToNat]); (· simp only [go_sem, Nat.reduceEqDiff, Nat.reduceAdd, Nat.reduceLT, Nat.reduceMul, Nat.reduceLeDiff, reduceCtorEq, Int.reduceNeg, Int.reduceToNat])
    · repeat with_reducible first | refine awp_seq_i ?_ | refine awp_reg_i ?_ | refine ops_nil_i ?_ | refine then_normal_i ?_ | refine awp_draw_i ?_ | refine awp_block_i ?_ | refine in_normal_i ?_ | refine awp_exit_i ?_ | refine then_exit_i ?_ | refine in_exit_i ?_ | refine in_exit_ne (by decide) ?_ | refine awp_ret_i ?_ | refine then_ret_i ?_ | refine in_ret_i ?_ | refine awp_skip_i ?_
      refine ops_sym (by simp (disch := omega) only [go_sem, Nat.reduceEqDiff, Nat.reduceAdd, Nat.reduceLT, Nat.reduceMul, Nat.reduceLeDiff, reduceCtorEq, Int.reduceNeg, Int.reduceToNat]; rfl) (by first | with_reducible exact True.intro | omega) ?_
      repeat with_reducible first | refine awp_seq_i ?_ | refine awp_reg_i ?_ | refine ops_nil_i ?_ | refine then_normal_i ?_ | refine awp_draw_i ?_ | refine awp_block_i ?_ | refine in_normal_i ?_ | refine awp_exit_i ?_ | refine then_exit_i ?_ | refine in_exit_i ?_ | refine in_exit_ne (by decide) ?_ | refine awp_ret_i ?_ | refine then_ret_i ?_ | refine in_ret_i ?_ | refine awp_skip_i ?_
      refine awp_cond_sym (by simp only [go_sem, Nat.reduceEqDiff, Nat.reduceAdd, Nat.reduceLT, Nat.reduceMul, Nat.reduceLeDiff, reduceCtorEq, Int.reduceNeg, Int.reduceToNat]; rfl) (fun hb => ?_) (fun hb => ?_)
      · have hb2 := of_decide_eq_true hb
        have hmul := pcr_mul hG (wd 4294967296 (v ^ f)) A _ _ rfl rfl (ok_wd (by omega) _) hoA (by have := hplen f (by omega); omega) (by omega)
        rw [hvA, vl_wd (by omega), ← Nat.pow_add] at hmul
        repeat with_reducible first | refine awp_seq_i ?_ | refine awp_reg_i ?_ | refine ops_nil_i ?_ | refine then_normal_i ?_ | refine awp_draw_i ?_ | refine awp_block_i ?_ | refine in_normal_i ?_ | refine awp_exit_i ?_ | refine then_exit_i ?_ | refine in_exit_i ?_ | refine in_exit_ne (by decide) ?_ | refine awp_ret_i ?_ | refine then_ret_i ?_ | refine in_ret_i ?_ | refine awp_skip_i ?_
        refine ops_sym (by simp (disch := omega) only [go_sem, Nat.reduceEqDiff, Nat.reduceAdd, Nat.reduceLT, Nat.reduceMul, Nat.reduceLeDiff, reduceCtorEq, Int.reduceNeg, Int.reduceToNat]; rfl) (by first | with_reducible exact True.intro | omega) ?_
        refine ops_call (by simp (disch := omega) only [go_sem, Nat.reduceEqDiff, Nat.reduceAdd, Nat.reduceLT, Nat.reduceMul, Nat.reduceLeDiff, reduceCtorEq, Int.reduceNeg, Int.reduceToNat]; rfl) hmul ?_
        refine ops_sym (by simp (disch := omega) only [go_sem, Nat.reduceEqDiff, Nat.reduceAdd, Nat.reduceLT, Nat.reduceMul, Nat.reduceLeDiff, reduceCtorEq, Int.reduceNeg, Int.reduceToNat]; rfl) (by first | with_reducible exact True.intro | omega) ?_
        repeat with_reducible first | refine awp_seq_i ?_ | refine awp_reg_i ?_ | refine ops_nil_i ?_ | refine then_normal_i ?_ | refine awp_draw_i ?_ | refine awp_block_i ?_ | refine in_normal_i ?_ | refine awp_exit_i ?_ | refine then_exit_i ?_ | refine in_exit_i ?_ | refine in_exit_ne (by decide) ?_ | refine awp_ret_i ?_ | refine then_ret_i ?_ | refine in_ret_i ?_ | refine awp_skip_i ?_
        refine ⟨_, Nat.zero_le _, Ent.env (less_put (less_put (less_put (less_put (less_un0 _) ?_) ?_) ?_) ?_), f + e, ?_, rfl⟩
        (· simp only [go_sem, Nat.reduceEqDiff, Nat.reduceAdd, Nat.reduceLT, Nat.reduceMul, Nat.reduceLeDiff, reduceCtorEq, Int.reduceNeg, Int.reduceToNat]); (· simp only [go_sem, Nat.reduceEqDiff, Nat.reduceAdd, Nat.reduceLT, Nat.reduceMul, Nat.reduceLeDiff, reduceCtorEq, Int.reduceNeg, Int.reduceToNat]); (· simp only [go_sem, Nat.reduceEqDiff, Nat.reduceAdd, Nat.reduceLT, Nat.reduceMul, Nat.reduceLeDiff, reduceCtorEq, Int.reduceNeg, Int.reduceToNat]); (· simp only [go_sem, Nat.reduceEqDiff, Nat.reduceAdd, Nat.reduceLT, Nat.reduceMul, Nat.reduceLeDiff, reduceCtorEq, Int.reduceNeg, Int.reduceToNat])
        rw [← hef, show j = 2 * (j / 2) + 1 by omega, Nat.mul_add, show (2 * (j / 2) + 1) / 2 = j / 2 by omega]
        omega
      · have hb2 := of_decide_eq_false hb
        repeat with_reducible first | refine awp_seq_i ?_ | refine awp_reg_i ?_ | refine ops_nil_i ?_ | refine then_normal_i ?_ | refine awp_draw_i ?_ | refine awp_block_i ?_ | refine in_normal_i ?_ | refine awp_exit_i ?_ | refine then_exit_i ?_ | refine in_exit_i ?_ | refine in_exit_ne (by decide) ?_ | refine awp_ret_i ?_ | refine then_ret_i ?_ | refine in_ret_i ?_ | refine awp_skip_i ?_
        refine ⟨_, Nat.zero_le _, Ent.env (less_put (less_put (less_put (less_put (less_un0 _) ?_) ?_) ?_) ?_), f, ?_, rfl⟩
        (· simp only [go_sem, Nat.reduceEqDiff, Nat.reduceAdd, Nat.reduceLT, Nat.reduceMul, Nat.reduceLeDiff, reduceCtorEq, Int.reduceNeg, Int.reduceToNat]); (· simp only [go_sem, Nat.reduceEqDiff, Nat.reduceAdd, Nat.reduceLT, Nat.reduceMul, Nat.reduceLeDiff, reduceCtorEq, Int.reduceNeg, Int.reduceToNat]); (· simp only [go_sem, Nat.reduceEqDiff, Nat.reduceAdd, Nat.reduceLT, Nat.reduceMul, Nat.reduceLeDiff, reduceCtorEq, Int.reduceNeg, Int.reduceToNat]); (· simp only [go_sem, Nat.reduceEqDiff, Nat.reduceAdd, Nat.reduceLT, Nat.reduceMul, Nat.reduceLeDiff, reduceCtorEq, Int.reduceNeg, Int.reduceToNat])
        rw [← hef, show 2 * (j / 2) = j by omega]
  · have hb' := of_decide_eq_false hb
    have hf : f = k.toNat := by
      rw [show kk.toNat = 0 by omega] at hef
      omega
    subst hf
    repeat with_reducible first | refine awp_seq_i ?_ | refine awp_reg_i ?_ | refine ops_nil_i ?_ | refine then_normal_i ?_ | refine awp_draw_i ?_ | refine awp_block_i ?_ | refine in_normal_i ?_ | refine awp_exit_i ?_ | refine then_exit_i ?_ | refine in_exit_i ?_ | refine in_exit_ne (by decide) ?_ | refine awp_ret_i ?_ | refine then_ret_i ?_ | refine in_ret_i ?_ | refine awp_skip_i ?_
    refine ops_sym (by simp (disch := omega) only [go_sem, Nat.reduceEqDiff, Nat.reduceAdd, Nat.reduceLT, Nat.reduceMul, Nat.reduceLeDiff, reduceCtorEq, Int.reduceNeg, Int.reduceToNat]; rfl) (by first | with_reducible exact True.intro | omega) ?_
    repeat with_reducible first | refine awp_seq_i ?_ | refine awp_reg_i ?_ | refine ops_nil_i ?_ | refine then_normal_i ?_ | refine awp_draw_i ?_ | refine awp_block_i ?_ | refine in_normal_i ?_ | refine awp_exit_i ?_ | refine then_exit_i ?_ | refine in_exit_i ?_ | refine in_exit_ne (by decide) ?_ | refine awp_ret_i ?_ | refine then_ret_i ?_ | refine in_ret_i ?_ | refine awp_skip_i ?_
    refine res_ret (by simp (disch := omega) only [go_sem, Nat.reduceEqDiff, Nat.reduceAdd, Nat.reduceLT, Nat.reduceMul, Nat.reduceLeDiff, reduceCtorEq, Int.reduceNeg, Int.reduceToNat]; rfl) ?_
    rw [hr]; rfl
end Go.Proofs.YtakghhkbaahabaaDoorK.NatT
/-
  slices.Reverse of strings; nat.Text: what they compute.
-/
namespace Go.Proofs.YtakghhkbaahabaaDoorK.NatT
open Go.Proofs.YtakghhkbaahabaaDoorK.AI Go.Proofs.YtakghhkbaahabaaDoorK.NatIr Go.Proofs.YtakghhkbaahabaaDoorK.Dig Go.Proofs.YtakghhkbaahabaaDoorK.LibT
set_option linter.unusedSimpArgs false
attribute [local irreducible] awp awpOps
attribute [local go_sem] getO putE_same putE_ne putE_none un0_at ini_zero ini_one ini_two ini_three ne_eq not_false_eq_true Nat.zero_ne_one Nat.one_ne_zero zero_ne_succ succ_ne_zero sym_nil sym_cons symG_call symG_op symG_skip IOp.isCall gd st_mv st_pick st_new st_box st_build st_lit st_load st_store st_faddr st_fld st_iaddrS st_iaddrA st_idxs st_bin st_beq st_neg st_not st_conv st_slcS st_slcL st_make st_app st_lenS st_lenL st_mx st_mn st_ext st_nilck pureC loadC setH hv boundO D.cells D.one D.boxable fillD putD rowD binC intBinC decT decF dec_true dec_false bne_self_eq_false beq_self_eq_true beq_true_false beq_false_true bne_iff_ne List.length_nil List.length_cons List.getD_cons_zero List.getD_cons_succ List.set_cons_zero List.set_cons_succ List.all_cons List.all_nil Bool.and_true Bool.true_and Nat.lt_irrefl Nat.sub_self Nat.zero_add Nat.add_zero Nat.mul_one Nat.lt_add_one if_true if_false List.replicate_zero List.nil_append List.cons_append List.append_nil List.map_cons List.map_nil Bool.false_eq_true or_self or_true true_or or_false false_or true_and and_true and_self Int.ofNat_zero wrap_i64 wrap_u32 wrap_u64 wrap_u8 wrap_u32_mod wrap_u64_mod Nat.zero_lt_one Int.toNat_natCast Int.sub_zero toNat_pred List.take_succ_cons List.take_zero List.drop_succ_cons List.drop_zero List.take_nil List.drop_nil Nat.le_refl List.length_singleton rvDs rvD ldD one? Option.bind_some Option.map_some resD_int resD_bool resD_str resD_sl resD_rp resD_nils resD_null resD_agg resD_tup resD_own rdOwn resD_ptr rdPtr rd_ite resL_eq go_nil go_cons D.imm resArgs shr32 shl32 Nat.zero_mul Bool.and_self Bool.and_false Bool.false_and strBin_eql strBin_neq Bool.not_true Bool.not_false i64max List.length_reverse List.length_set SS_length SS_getD SS_set SS_take SS_drop SS_imm SS_one SS_app1 W_get1 W_len1 W_getD W_set W_take W_drop W_app W_length W_imm W_one W_repl N mx_nat toNat_succ toNat_add toNat_pred2 tdiv_nn tmod_nn List.take_of_length_le cast_succ and_one or_shl32 min64 shr32b shl32b IntKind.bits
variable {G : World → Prop}
set_option maxHeartbeats 2000000 in
theorem pcg_reverse (ss : List ByteArray) (n ver t : Nat) (hn : n = ss.length) (hl : ss.length < 1000000) :
    PCg Tryd.prog G 38 [.own 0 ver 0 n] [some (ver, t, 1, SS ss)] (.tup []) [some (ver, t, 1, SS ss.reverse)] := by
  refine pcg_by (fn := Tryd.f38) (n := 28) (rv := []) (by kernel_rfl) ok38 (by kernel_rfl) (by decide) (by kernel_rfl) (by simp) (by kernel_rfl) (by simp) (fun r hh hr hhe => ?_)
  unfold c38
  subst hhe hn
  repeat with_reducible first | refine awp_seq_i ?_ | refine awp_reg_i ?_ | refine ops_nil_i ?_ | refine then_normal_i ?_ | refine awp_draw_i ?_ | refine awp_block_i ?_ | refine in_normal_i ?_ | refine awp_exit_i ?_ | refine then_exit_i ?_ | refine in_exit_i ?_ | refine in_exit_ne (by decide) ?_ | refine awp_ret_i ?_ | refine then_ret_i ?_ | refine in_ret_i ?_ | refine awp_skip_i ?_
  refine ops_sym (by simp (disch := omega) only [go_sem, Nat.reduceEqDiff, Nat.reduceAdd, Nat.reduceLT, Nat.reduceMul, Nat.reduceLeDiff, reduceCtorEq, Int.reduceNeg, Int.reduceToNat]; rfl) (by first | with_reducible exact True.intro | omega) ?_
  repeat with_reducible first | refine awp_seq_i ?_ | refine awp_reg_i ?_ | refine ops_nil_i ?_ | refine then_normal_i ?_ | refine awp_draw_i ?_ | refine awp_block_i ?_ | refine in_normal_i ?_ | refine awp_exit_i ?_ | refine then_exit_i ?_ | refine in_exit_i ?_ | refine in_exit_ne (by decide) ?_ | refine awp_ret_i ?_ | refine then_ret_i ?_ | refine in_ret_i ?_ | refine awp_skip_i ?_
  refine awp_loopm (fun k σ => ∃ (i : Nat) (cur : List ByteArray), k = ss.length - i ∧ 2 * i ≤ ss.length ∧ cur.length = ss.length ∧ (∀ j, j < ss.length → cur.getD j ByteArray.empty = if j < i ∨ ss.length - i ≤ j then ss.getD (ss.length - 1 - j) ByteArray.empty else ss.getD j ByteArray.empty) ∧
      σ = ⟨(putE (putE (putE un0 (some 0) (.own 0 ver 0 ss.length)) (some 2) (.int .i64 i)) (some 3) (.int .i64 ((ss.length : Int) - 1 - i))), [some (ver, t, 1, SS cur)]⟩) ss.length
    (Ent.env (less_put (less_put (less_put (less_un0 _) ?_) ?_) ?_)) ⟨0, ss, rfl, by omega, rfl, fun j hj => by rw [if_neg (by omega)], rfl⟩ (by rintro k σ ⟨_, _, _, _, _, _, rfl⟩; exact Nat.le_refl _) ?_
  (· simp only [go_sem, Nat.reduceEqDiff, Nat.reduceAdd, Nat.reduceLT, Nat.reduceMul, Nat.reduceLeDiff, reduceCtorEq, Int.reduceNeg, Int.reduceToNat]); (· simp only [go_sem, Nat.reduceEqDiff, Nat.reduceAdd, Nat.reduceLT, Nat.reduceMul, Nat.reduceLeDiff, reduceCtorEq, Int.reduceNeg, Int.reduceToNat])
  · simp only [go_sem, Nat.reduceEqDiff, Nat.reduceAdd, Nat.reduceLT, Nat.reduceMul, Nat.reduceLeDiff, reduceCtorEq, Int.reduceNeg, Int.reduceToNat]
  rintro k σ1 ⟨i, cur, rfl, hi2, hlc, hcur, rfl⟩
  repeat with_reducible first | refine awp_seq_i ?_ | refine awp_reg_i ?_ | refine ops_nil_i ?_ | refine then_normal_i ?_ | refine awp_draw_i ?_ | refine awp_block_i ?_ | refine in_normal_i ?_ | refine awp_exit_i ?_ | refine then_exit_i ?_ | refine in_exit_i ?_ | refine in_exit_ne (by decide) ?_ | refine awp_ret_i ?_ | refine then_ret_i ?_ | refine in_ret_i ?_ | refine awp_skip_i ?_
  refine ops_sym (by simp (disch := omega) only [go_sem, Nat.reduceEqDiff, Nat.reduceAdd, Nat.reduceLT, Nat.reduceMul, Nat.reduceLeDiff, reduceCtorEq, Int.reduceNeg, Int.reduceToNat]; rfl) (by first | with_reducible exact True.intro | omega) ?_
  repeat with_reducible first | refine awp_seq_i ?_ | refine awp_reg_i ?_ | refine ops_nil_i ?_ | refine then_normal_i ?_ | refine awp_draw_i ?_ | refine awp_block_i ?_ | refine in_normal_i ?_ | refine awp_exit_i ?_ | refine then_exit_i ?_ | refine in_exit_i ?_ | refine in_exit_ne (by decide) ?_ | refine awp_ret_i ?_ | refine then_ret_i ?_ | refine in_ret_i ?_ | refine awp_skip_i ?_
  refine awp_cond_sym (by simp only [go_sem, Nat.reduceEqDiff, Nat.reduceAdd, Nat.reduceLT, Nat.reduceMul, Nat.reduceLeDiff, reduceCtorEq, Int.reduceNeg, Int.reduceToNat]; rfl) (fun hb => ?_) (fun hb => ?_)
  · have hb' := of_decide_eq_true hb
    obtain ⟨j, hj⟩ : ∃ j : Nat, (ss.length : Int) - 1 - i = j := ⟨ss.length - 1 - i, by omega⟩
    rw [hj]
    repeat with_reducible first | refine awp_seq_i ?_ | refine awp_reg_i ?_ | refine ops_nil_i ?_ | refine then_normal_i ?_ | refine awp_draw_i ?_ | refine awp_block_i ?_ | refine in_normal_i ?_ | refine awp_exit_i ?_ | refine then_exit_i ?_ | refine in_exit_i ?_ | refine in_exit_ne (by decide) ?_ | refine awp_ret_i ?_ | refine then_ret_i ?_ | refine in_ret_i ?_ | refine awp_skip_i ?_
    refine ops_sym (by simp (disch := omega) only [go_sem, Nat.reduceEqDiff, Nat.reduceAdd, Nat.reduceLT, Nat.reduceMul, Nat.reduceLeDiff, reduceCtorEq, Int.reduceNeg, Int.reduceToNat]; rfl) (by first | with_reducible exact True.intro | omega) ?_
    repeat with_reducible first | refine awp_seq_i ?_ | refine awp_reg_i ?_ | refine ops_nil_i ?_ | refine then_normal_i ?_ | refine awp_draw_i ?_ | refine awp_block_i ?_ | refine in_normal_i ?_ | refine awp_exit_i ?_ | refine then_exit_i ?_ | refine in_exit_i ?_ | refine in_exit_ne (by decide) ?_ | refine awp_ret_i ?_ | refine then_ret_i ?_ | refine in_ret_i ?_ | refine awp_skip_i ?_
    refine ⟨by first | rfl | decide, ?_⟩
    repeat with_reducible first | refine awp_seq_i ?_ | refine awp_reg_i ?_ | refine ops_nil_i ?_ | refine then_normal_i ?_ | refine awp_draw_i ?_ | refine awp_block_i ?_ | refine in_normal_i ?_ | refine awp_exit_i ?_ | refine then_exit_i ?_ | refine in_exit_i ?_ | refine in_exit_ne (by decide) ?_ | refine awp_ret_i ?_ | refine then_ret_i ?_ | refine in_ret_i ?_ | refine awp_skip_i ?_
    refine ops_sym (by simp (disch := omega) only [go_sem, Nat.reduceEqDiff, Nat.reduceAdd, Nat.reduceLT, Nat.reduceMul, Nat.reduceLeDiff, reduceCtorEq, Int.reduceNeg, Int.reduceToNat]; rfl) (by first | with_reducible exact True.intro | omega) ?_
    repeat with_reducible first | refine awp_seq_i ?_ | refine awp_reg_i ?_ | refine ops_nil_i ?_ | refine then_normal_i ?_ | refine awp_draw_i ?_ | refine awp_block_i ?_ | refine in_normal_i ?_ | refine awp_exit_i ?_ | refine then_exit_i ?_ | refine in_exit_i ?_ | refine in_exit_ne (by decide) ?_ | refine awp_ret_i ?_ | refine then_ret_i ?_ | refine in_ret_i ?_ | refine awp_skip_i ?_
    refine ⟨ss.length - (i + 1), _, by omega, Ent.env (less_put (less_put (less_put (less_un0 _) ?_) ?_) ?_), i + 1, (cur.set i (cur.getD j ByteArray.empty)).set j (cur.getD i ByteArray.empty), rfl, by omega, by simp [hlc], fun j' hj' => ?_, rfl⟩
    (· simp only [go_sem, Nat.reduceEqDiff, Nat.reduceAdd, Nat.reduceLT, Nat.reduceMul, Nat.reduceLeDiff, reduceCtorEq, Int.reduceNeg, Int.reduceToNat]); (· simp only [go_sem, Nat.reduceEqDiff, Nat.reduceAdd, Nat.reduceLT, Nat.reduceMul, Nat.reduceLeDiff, reduceCtorEq, Int.reduceNeg, Int.reduceToNat])
    · simp only [go_sem, Nat.reduceEqDiff, Nat.reduceAdd, Nat.reduceLT, Nat.reduceMul, Nat.reduceLeDiff, reduceCtorEq, Int.reduceNeg, Int.reduceToNat]
      congr 1
      omega
    have h1 := hcur i (by omega)
    have h2 := hcur j (by omega)
    rw [if_neg (by omega)] at h1 h2
    by_cases e1 : j' = j
    · subst e1
      rw [List.getD_eq_getElem?_getD, List.getElem?_set_self (by simp; omega), Option.getD_some, h1, if_pos (by omega)]
      congr 1
      omega
    · rw [List.getD_eq_getElem?_getD, List.getElem?_set_ne (by omega)]
      by_cases e2 : j' = i
      · subst e2
        rw [List.getElem?_set_self (by omega), Option.getD_some, h2, if_pos (by omega)]
        congr 1
        omega
      · rw [List.getElem?_set_ne (by omega), ← List.getD_eq_getElem?_getD, hcur j' hj']
        by_cases e3 : j' < i ∨ ss.length - i ≤ j'
        · rw [if_pos e3, if_pos (by omega)]
        · rw [if_neg e3, if_neg (by omega)]
  · have hb' := of_decide_eq_false hb
    have hfin : cur = ss.reverse := by
      refine List.ext_getElem (by simp [hlc]) fun j h1 h2 => ?_
      have h3 := hcur j (by omega)
      have e1 : cur.getD j ByteArray.empty = cur[j] := by rw [List.getD_eq_getElem?_getD, List.getElem?_eq_getElem h1]; rfl
      have e2 : ss.getD (ss.length - 1 - j) ByteArray.empty = ss.reverse[j] := by
        rw [List.getElem_reverse, List.getD_eq_getElem?_getD, List.getElem?_eq_getElem (by omega)]; rfl
      rw [← e1, h3, ← e2]
      split
      · rfl
      · congr 1
        omega
    subst hfin
    repeat with_reducible first | refine awp_seq_i ?_ | refine awp_reg_i ?_ | refine ops_nil_i ?_ | refine then_normal_i ?_ | refine awp_draw_i ?_ | refine awp_block_i ?_ | refine in_normal_i ?_ | refine awp_exit_i ?_ | refine then_exit_i ?_ | refine in_exit_i ?_ | refine in_exit_ne (by decide) ?_ | refine awp_ret_i ?_ | refine then_ret_i ?_ | refine in_ret_i ?_ | refine awp_skip_i ?_
    refine resg_end (ds := []) rfl ?_ ?_ ?_
    · rw [hr]; rfl
    · rw [hr]; simp [kb, kb.kbs]
    · exact kbH_imm (by simp [immH, SS_imm])
end Go.Proofs.YtakghhkbaahabaaDoorK.NatT
/-
  nat.Text: what it computes.
-/
namespace Go.Proofs.YtakghhkbaahabaaDoorK.NatT
open Go.Proofs.YtakghhkbaahabaaDoorK.AI Go.Proofs.YtakghhkbaahabaaDoorK.NatIr Go.Proofs.YtakghhkbaahabaaDoorK.Dig Go.Proofs.YtakghhkbaahabaaDoorK.LibT
set_option linter.unusedSimpArgs false
attribute [local irreducible] awp awpOps
attribute [local go_sem] getO putE_same putE_ne putE_none un0_at ini_zero ini_one ini_two ini_three ne_eq not_false_eq_true Nat.zero_ne_one Nat.one_ne_zero zero_ne_succ succ_ne_zero sym_nil sym_cons symG_call symG_op symG_skip IOp.isCall gd st_mv st_pick st_new st_box st_build st_lit st_load st_store st_faddr st_fld st_iaddrS st_iaddrA st_idxs st_bin st_beq st_neg st_not st_conv st_slcS st_slcL st_make st_app st_lenS st_lenL st_mx st_mn st_ext st_nilck pureC loadC setH hv boundO D.cells D.one D.boxable fillD putD rowD binC intBinC decT decF dec_true dec_false bne_self_eq_false beq_self_eq_true beq_true_false beq_false_true bne_iff_ne List.length_nil List.length_cons List.getD_cons_zero List.getD_cons_succ List.set_cons_zero List.set_cons_succ List.all_cons List.all_nil Bool.and_true Bool.true_and Nat.lt_irrefl Nat.sub_self Nat.zero_add Nat.add_zero Nat.mul_one Nat.lt_add_one if_true if_false List.replicate_zero List.nil_append List.cons_append List.append_nil List.map_cons List.map_nil Bool.false_eq_true or_self or_true true_or or_false false_or true_and and_true and_self Int.ofNat_zero wrap_i64 wrap_u32 wrap_u64 wrap_u8 wrap_u32_mod wrap_u64_mod Nat.zero_lt_one Int.toNat_natCast Int.sub_zero toNat_pred List.take_succ_cons List.take_zero List.drop_succ_cons List.drop_zero List.take_nil List.drop_nil Nat.le_refl List.length_singleton rvDs rvD ldD one? Option.bind_some Option.map_some resD_int resD_bool resD_str resD_sl resD_rp resD_nils resD_null resD_agg resD_tup resD_own rdOwn resD_ptr rdPtr rd_ite resL_eq go_nil go_cons D.imm resArgs shr32 shl32 Nat.zero_mul Bool.and_self Bool.and_false Bool.false_and strBin_eql strBin_neq Bool.not_true Bool.not_false i64max List.length_reverse List.length_set SS_length SS_getD SS_set SS_take SS_drop SS_imm SS_one SS_app1 W_get1 W_len1 W_getD W_set W_take W_drop W_app W_length W_imm W_one W_repl N mx_nat toNat_succ toNat_add toNat_pred2 tdiv_nn tmod_nn List.take_of_length_le cast_succ and_one or_shl32 min64 shr32b shl32b IntKind.bits
variable {G : World → Prop}
/-- The pieces, the lowest first, as one text. -/
def flat (ss : List ByteArray) : List UInt8 := (ss.reverse.map (·.data.toList)).flatten
theorem flat_snoc (ss : List ByteArray) (s : ByteArray) : flat (ss ++ [s]) = s.data.toList ++ flat ss := by simp [flat]
theorem join_nosep : ∀ xs : List (List UInt8), Lib.join xs [] = xs.flatten
  | [] => rfl
  | x :: r => by
    rw [Lib.join_cons]
    simp [Lib.joinTail]
theorem ba_size (l : List UInt8) : (⟨l.toArray⟩ : ByteArray).size = l.length := by simp [ByteArray.size]
theorem flat_len {ss : List ByteArray} (h : ∀ s ∈ ss, s.size ≤ 9) : (flat ss).length ≤ 9 * ss.length := by
  induction ss with
  | nil => simp [flat]
  | cons x l ih =>
    have h1 := ih (fun s hs => h s (List.mem_cons_of_mem _ hs))
    have h2 := h x List.mem_cons_self
    have e : flat (x :: l) = flat l ++ x.data.toList := by simp [flat]
    rw [e, List.length_append, List.length_cons]
    have : x.data.toList.length = x.size := rfl
    omega
theorem pieces {k m V : Nat} (h : 1000000000 ^ k ≤ V) (hV : V < 4294967296 ^ m) : 29 * k < 32 * m := by
  have h1 : (2 ^ 29) ^ k ≤ 1000000000 ^ k := Nat.pow_le_pow_left (by omega) k
  have h2 : (4294967296 : Nat) ^ m = 2 ^ (32 * m) := by rw [Nat.pow_mul]
  rw [← Nat.pow_mul] at h1
  exact (Nat.pow_lt_pow_iff_right (a := 2) (by omega)).1 (by omega)
set_option maxHeartbeats 4000000 in
theorem pcr_text (hG : Stable G) (hT : ∀ w, G w → Lib.TabIs Tryd.prog w "internal/strconv.uint64pow10" .u64 Lib.pow10Tab) (a : List Int) (n : Nat) (hn : n = a.length) (ha : ok 4294967296 a) (hla : a.length < 100000) :
    PCr Tryd.prog G 15 [.agg [.sl n (W a)]] (.str ⟨(Lib.decDigits (vl 4294967296 a)).toArray⟩) := by
  refine pcr_by hG (fn := Tryd.f15) (n := 46) (rv := [.tmp 2]) (by kernel_rfl) ok15 (by kernel_rfl) (by decide) (by kernel_rfl) (by simp) (by kernel_rfl) (fun r hr => ?_)
  unfold c15 st0
  repeat with_reducible first | refine awp_seq_i ?_ | refine awp_reg_i ?_ | refine ops_nil_i ?_ | refine then_normal_i ?_ | refine awp_draw_i ?_ | refine awp_block_i ?_ | refine in_normal_i ?_ | refine awp_exit_i ?_ | refine then_exit_i ?_ | refine in_exit_i ?_ | refine in_exit_ne (by decide) ?_ | refine awp_ret_i ?_ | refine then_ret_i ?_ | refine in_ret_i ?_ | refine awp_skip_i ?_
  refine ops_sym (by simp (disch := omega) only [go_sem, Nat.reduceEqDiff, Nat.reduceAdd, Nat.reduceLT, Nat.reduceMul, Nat.reduceLeDiff, reduceCtorEq, Int.reduceNeg, Int.reduceToNat]; rfl) (by first | with_reducible exact True.intro | omega) ?_
  repeat with_reducible first | refine awp_seq_i ?_ | refine awp_reg_i ?_ | refine ops_nil_i ?_ | refine then_normal_i ?_ | refine awp_draw_i ?_ | refine awp_block_i ?_ | refine in_normal_i ?_ | refine awp_exit_i ?_ | refine then_exit_i ?_ | refine in_exit_i ?_ | refine in_exit_ne (by decide) ?_ | refine awp_ret_i ?_ | refine then_ret_i ?_ | refine in_ret_i ?_ | refine awp_skip_i ?_
  refine ops_sym (by simp (disch := omega) only [go_sem, Nat.reduceEqDiff, Nat.reduceAdd, Nat.reduceLT, Nat.reduceMul, Nat.reduceLeDiff, reduceCtorEq, Int.reduceNeg, Int.reduceToNat]; rfl) (by first | with_reducible exact True.intro | omega) ?_
  refine ops_call (by simp (disch := omega) only [go_sem, Nat.reduceEqDiff, Nat.reduceAdd, Nat.reduceLT, Nat.reduceMul, Nat.reduceLeDiff, reduceCtorEq, Int.reduceNeg, Int.reduceToNat]; rfl) (pcr_trim hG a n hn ha (by omega)) ?_
  have hlw := wd_len_small ha
  generalize hV0 : vl 4294967296 a = V0 at *
  refine ops_sym (by simp (disch := omega) only [go_sem, Nat.reduceEqDiff, Nat.reduceAdd, Nat.reduceLT, Nat.reduceMul, Nat.reduceLeDiff, reduceCtorEq, Int.reduceNeg, Int.reduceToNat]; rfl) (by first | with_reducible exact True.intro | omega) ?_
  repeat with_reducible first | refine awp_seq_i ?_ | refine awp_reg_i ?_ | refine ops_nil_i ?_ | refine then_normal_i ?_ | refine awp_draw_i ?_ | refine awp_block_i ?_ | refine in_normal_i ?_ | refine awp_exit_i ?_ | refine then_exit_i ?_ | refine in_exit_i ?_ | refine in_exit_ne (by decide) ?_ | refine awp_ret_i ?_ | refine then_ret_i ?_ | refine in_ret_i ?_ | refine awp_skip_i ?_
  refine ops_sym (by simp (disch := omega) only [go_sem, Nat.reduceEqDiff, Nat.reduceAdd, Nat.reduceLT, Nat.reduceMul, Nat.reduceLeDiff, reduceCtorEq, Int.reduceNeg, Int.reduceToNat]; rfl) (by first | with_reducible exact True.intro | omega) ?_
  repeat with_reducible first | refine awp_seq_i ?_ | refine awp_reg_i ?_ | refine ops_nil_i ?_ | refine then_normal_i ?_ | refine awp_draw_i ?_ | refine awp_block_i ?_ | refine in_normal_i ?_ | refine awp_exit_i ?_ | refine then_exit_i ?_ | refine in_exit_i ?_ | refine in_exit_ne (by decide) ?_ | refine awp_ret_i ?_ | refine then_ret_i ?_ | refine in_ret_i ?_ | refine awp_skip_i ?_
  by_cases h0 : V0 = 0
  · subst h0
    have hl0 : (wd 4294967296 0).length = 0 := by rw [wd_zero]; rfl
    refine awp_cond_t (by simp only [go_sem, Nat.reduceEqDiff, Nat.reduceAdd, Nat.reduceLT, Nat.reduceMul, Nat.reduceLeDiff, reduceCtorEq, Int.reduceNeg, Int.reduceToNat]; exact congrArg D.bool (decide_eq_true (by omega))) ?_
    repeat with_reducible first | refine awp_seq_i ?_ | refine awp_reg_i ?_ | refine ops_nil_i ?_ | refine then_normal_i ?_ | refine awp_draw_i ?_ | refine awp_block_i ?_ | refine in_normal_i ?_ | refine awp_exit_i ?_ | refine then_exit_i ?_ | refine in_exit_i ?_ | refine in_exit_ne (by decide) ?_ | refine awp_ret_i ?_ | refine then_ret_i ?_ | refine in_ret_i ?_ | refine awp_skip_i ?_
    refine ops_sym (by simp (disch := omega) only [go_sem, Nat.reduceEqDiff, Nat.reduceAdd, Nat.reduceLT, Nat.reduceMul, Nat.reduceLeDiff, reduceCtorEq, Int.reduceNeg, Int.reduceToNat]; rfl) (by first | with_reducible exact True.intro | omega) ?_
    repeat with_reducible first | refine awp_seq_i ?_ | refine awp_reg_i ?_ | refine ops_nil_i ?_ | refine then_normal_i ?_ | refine awp_draw_i ?_ | refine awp_block_i ?_ | refine in_normal_i ?_ | refine awp_exit_i ?_ | refine then_exit_i ?_ | refine in_exit_i ?_ | refine in_exit_ne (by decide) ?_ | refine awp_ret_i ?_ | refine then_ret_i ?_ | refine in_ret_i ?_ | refine awp_skip_i ?_
    refine res_ret (by simp (disch := omega) only [go_sem, Nat.reduceEqDiff, Nat.reduceAdd, Nat.reduceLT, Nat.reduceMul, Nat.reduceLeDiff, reduceCtorEq, Int.reduceNeg, Int.reduceToNat]; rfl) ?_
    rw [hr, dec_small (by omega)]; rfl
  · have hlp : 0 < (wd 4294967296 V0).length := by
      rcases Nat.eq_zero_or_pos (wd 4294967296 V0).length with h | h
      · exact absurd ((wd_eq_nil (by omega)).1 (List.eq_nil_of_length_eq_zero h)) h0
      · exact h
    refine awp_cond_f (by simp only [go_sem, Nat.reduceEqDiff, Nat.reduceAdd, Nat.reduceLT, Nat.reduceMul, Nat.reduceLeDiff, reduceCtorEq, Int.reduceNeg, Int.reduceToNat]; exact congrArg D.bool (decide_eq_false (by omega))) ?_
    repeat with_reducible first | refine awp_seq_i ?_ | refine awp_reg_i ?_ | refine ops_nil_i ?_ | refine then_normal_i ?_ | refine awp_draw_i ?_ | refine awp_block_i ?_ | refine in_normal_i ?_ | refine awp_exit_i ?_ | refine then_exit_i ?_ | refine in_exit_i ?_ | refine in_exit_ne (by decide) ?_ | refine awp_ret_i ?_ | refine then_ret_i ?_ | refine in_ret_i ?_ | refine awp_skip_i ?_
    refine ops_sym (by simp (disch := omega) only [go_sem, Nat.reduceEqDiff, Nat.reduceAdd, Nat.reduceLT, Nat.reduceMul, Nat.reduceLeDiff, reduceCtorEq, Int.reduceNeg, Int.reduceToNat]; rfl) (by first | with_reducible exact True.intro | omega) ?_
    repeat with_reducible first | refine awp_seq_i ?_ | refine awp_reg_i ?_ | refine ops_nil_i ?_ | refine then_normal_i ?_ | refine awp_draw_i ?_ | refine awp_block_i ?_ | refine in_normal_i ?_ | refine awp_exit_i ?_ | refine then_exit_i ?_ | refine in_exit_i ?_ | refine in_exit_ne (by decide) ?_ | refine awp_ret_i ?_ | refine then_ret_i ?_ | refine in_ret_i ?_ | refine awp_skip_i ?_
    refine awp_loop (fun k σ => ∃ (V ver : Nat) (ss : List ByteArray), k = V ∧ (wd 4294967296 V).length < 100000 ∧ V * 1000000000 ^ ss.length ≤ V0 ∧ 1000000000 ^ (ss.length - 1) ≤ V0 ∧ (∀ s ∈ ss, s.size ≤ 9) ∧ Lib.decDigits V0 = (if V = 0 then [] else Lib.decDigits V) ++ flat ss ∧
        σ = ⟨(putE (putE (putE un0 (some 2) (.str ⟨#[]⟩)) (some 3) (.sl (wd 4294967296 V).length (W (wd 4294967296 V)))) (some 4) (.own 1 ver 0 ss.length)),
          [none, some (ver, 9, 1, SS ss)]⟩) V0
      ((Ent.nils (s := 4) 9 1 (by simp only [go_sem, Nat.reduceEqDiff, Nat.reduceAdd, Nat.reduceLT, Nat.reduceMul, Nat.reduceLeDiff, reduceCtorEq, Int.reduceNeg, Int.reduceToNat])).trans (by simp) (Ent.st (less_put (less_put (less_put (less_un0 _) ?_) ?_) ?_) (by exact ⟨.inl rfl, .inr rfl, trivial⟩))) ⟨V0, 0, [], rfl, by omega, by simp, by simp; omega, by simp, by rw [if_neg h0]; simp [flat], rfl⟩ ?_
    (· simp only [go_sem, Nat.reduceEqDiff, Nat.reduceAdd, Nat.reduceLT, Nat.reduceMul, Nat.reduceLeDiff, reduceCtorEq, Int.reduceNeg, Int.reduceToNat]); (· simp only [go_sem, Nat.reduceEqDiff, Nat.reduceAdd, Nat.reduceLT, Nat.reduceMul, Nat.reduceLeDiff, reduceCtorEq, Int.reduceNeg, Int.reduceToNat]); (· simp only [go_sem, Nat.reduceEqDiff, Nat.reduceAdd, Nat.reduceLT, Nat.reduceMul, Nat.reduceLeDiff, reduceCtorEq, Int.reduceNeg, Int.reduceToNat])
    have hV0l : V0 < 4294967296 ^ a.length := by rw [← hV0]; exact vl_lt ha
    rintro V σ1 ⟨_, ver, ss, rfl, hlV, hVs, hVs1, hs9, hdec, rfl⟩
    have hpc := pieces hVs1 hV0l
    repeat with_reducible first | refine awp_seq_i ?_ | refine awp_reg_i ?_ | refine ops_nil_i ?_ | refine then_normal_i ?_ | refine awp_draw_i ?_ | refine awp_block_i ?_ | refine in_normal_i ?_ | refine awp_exit_i ?_ | refine then_exit_i ?_ | refine in_exit_i ?_ | refine in_exit_ne (by decide) ?_ | refine awp_ret_i ?_ | refine then_ret_i ?_ | refine in_ret_i ?_ | refine awp_skip_i ?_
    refine ops_sym (by simp (disch := omega) only [go_sem, Nat.reduceEqDiff, Nat.reduceAdd, Nat.reduceLT, Nat.reduceMul, Nat.reduceLeDiff, reduceCtorEq, Int.reduceNeg, Int.reduceToNat]; rfl) (by first | with_reducible exact True.intro | omega) ?_
    repeat with_reducible first | refine awp_seq_i ?_ | refine awp_reg_i ?_ | refine ops_nil_i ?_ | refine then_normal_i ?_ | refine awp_draw_i ?_ | refine awp_block_i ?_ | refine in_normal_i ?_ | refine awp_exit_i ?_ | refine then_exit_i ?_ | refine in_exit_i ?_ | refine in_exit_ne (by decide) ?_ | refine awp_ret_i ?_ | refine then_ret_i ?_ | refine in_ret_i ?_ | refine awp_skip_i ?_
    refine awp_cond_sym (by simp only [go_sem, Nat.reduceEqDiff, Nat.reduceAdd, Nat.reduceLT, Nat.reduceMul, Nat.reduceLeDiff, reduceCtorEq, Int.reduceNeg, Int.reduceToNat]; rfl) (fun hb => ?_) (fun hb => ?_)
    · have hb' := of_decide_eq_true hb
      have hVn : V ≠ 0 := fun h => by subst h; rw [wd_zero] at hb'; simp at hb'
      have hsm := pcr_small hG (wd 4294967296 V) 1000000000 _ rfl (by omega) (by omega) (ok_wd (by omega) V) (by omega)
      rw [show (((1000000000 : Nat)) : Int) = 1000000000 from rfl] at hsm
      have hsl := sdiv_len 4294967296 1000000000 (wd 4294967296 V)
      have hso := sdiv_ok (B := 4294967296) (d := 1000000000) (by omega) (by omega) _ (ok_wd (by omega) V)
      have hsq := sdiv_q (B := 4294967296) (d := 1000000000) (by omega) (wd 4294967296 V)
      have hsr := sdiv_r (B := 4294967296) (d := 1000000000) (by omega) (wd 4294967296 V)
      rw [vl_wd (by omega)] at hsq hsr
      generalize sdiv 4294967296 1000000000 (wd 4294967296 V) = sd at *
      obtain ⟨sl, sr⟩ := sd
      simp only at hsl hso hsq hsr hsm
      have htr := pcr_trim hG sl (wd 4294967296 V).length hsl.symm hso (by omega)
      rw [hsq] at htr
      have hr9 : sr < 1000000000 := by rw [hsr]; exact Nat.mod_lt _ (by omega)
      have hdv := Nat.div_add_mod V 1000000000
      rw [← hsr] at hdv
      have hqm := wd_len_mono (B := 4294967296) (by omega) (Nat.div_le_self V 1000000000)
      have hql : V / 1000000000 < V := Nat.div_lt_self (by omega) (by omega)
      have hqV : V / 1000000000 * 1000000000 ^ (ss.length + 1) ≤ V0 ∧ 1000000000 ^ ss.length ≤ V0 := by
        rw [Nat.pow_succ, Nat.mul_comm (1000000000 ^ ss.length), ← Nat.mul_assoc]
        have h1 : V / 1000000000 * 1000000000 * 1000000000 ^ ss.length ≤ V * 1000000000 ^ ss.length := Nat.mul_le_mul_right _ (by omega)
        have h2 : 1 * 1000000000 ^ ss.length ≤ V * 1000000000 ^ ss.length := Nat.mul_le_mul_right _ (by omega)
        omega
      generalize V / 1000000000 = q at *
      obtain ⟨hd9, hdg⟩ := dg_dec 9 sr (by omega) (by omega)
      have hit : Lib.itoa (sr : Int) = Lib.decDigits sr := by rw [Lib.itoa, if_neg (by omega), Int.toNat_natCast]
      have hita := lib_itoa hT (sr : Int) (by omega) (by omega)
      rw [hit] at hita
      repeat with_reducible first | refine awp_seq_i ?_ | refine awp_reg_i ?_ | refine ops_nil_i ?_ | refine then_normal_i ?_ | refine awp_draw_i ?_ | refine awp_block_i ?_ | refine in_normal_i ?_ | refine awp_exit_i ?_ | refine then_exit_i ?_ | refine in_exit_i ?_ | refine in_exit_ne (by decide) ?_ | refine awp_ret_i ?_ | refine then_ret_i ?_ | refine in_ret_i ?_ | refine awp_skip_i ?_
      refine ops_sym (by simp (disch := omega) only [go_sem, Nat.reduceEqDiff, Nat.reduceAdd, Nat.reduceLT, Nat.reduceMul, Nat.reduceLeDiff, reduceCtorEq, Int.reduceNeg, Int.reduceToNat]; rfl) (by first | with_reducible exact True.intro | omega) ?_
      refine ops_call (by simp (disch := omega) only [go_sem, Nat.reduceEqDiff, Nat.reduceAdd, Nat.reduceLT, Nat.reduceMul, Nat.reduceLeDiff, reduceCtorEq, Int.reduceNeg, Int.reduceToNat]; rfl) hsm ?_
      refine ops_sym (by simp (disch := omega) only [go_sem, Nat.reduceEqDiff, Nat.reduceAdd, Nat.reduceLT, Nat.reduceMul, Nat.reduceLeDiff, reduceCtorEq, Int.reduceNeg, Int.reduceToNat]; rfl) (by first | with_reducible exact True.intro | omega) ?_
      repeat with_reducible first | refine awp_seq_i ?_ | refine awp_reg_i ?_ | refine ops_nil_i ?_ | refine then_normal_i ?_ | refine awp_draw_i ?_ | refine awp_block_i ?_ | refine in_normal_i ?_ | refine awp_exit_i ?_ | refine then_exit_i ?_ | refine in_exit_i ?_ | refine in_exit_ne (by decide) ?_ | refine awp_ret_i ?_ | refine then_ret_i ?_ | refine in_ret_i ?_ | refine awp_skip_i ?_
      refine ops_sym (by simp (disch := omega) only [go_sem, Nat.reduceEqDiff, Nat.reduceAdd, Nat.reduceLT, Nat.reduceMul, Nat.reduceLeDiff, reduceCtorEq, Int.reduceNeg, Int.reduceToNat]; rfl) (by first | with_reducible exact True.intro | omega) ?_
      refine ops_call (by simp (disch := omega) only [go_sem, Nat.reduceEqDiff, Nat.reduceAdd, Nat.reduceLT, Nat.reduceMul, Nat.reduceLeDiff, reduceCtorEq, Int.reduceNeg, Int.reduceToNat]; rfl) htr ?_
      refine ops_sym (by simp (disch := omega) only [go_sem, Nat.reduceEqDiff, Nat.reduceAdd, Nat.reduceLT, Nat.reduceMul, Nat.reduceLeDiff, reduceCtorEq, Int.reduceNeg, Int.reduceToNat]; rfl) (by first | with_reducible exact True.intro | omega) ?_
      repeat with_reducible first | refine awp_seq_i ?_ | refine awp_reg_i ?_ | refine ops_nil_i ?_ | refine then_normal_i ?_ | refine awp_draw_i ?_ | refine awp_block_i ?_ | refine in_normal_i ?_ | refine awp_exit_i ?_ | refine then_exit_i ?_ | refine in_exit_i ?_ | refine in_exit_ne (by decide) ?_ | refine awp_ret_i ?_ | refine then_ret_i ?_ | refine in_ret_i ?_ | refine awp_skip_i ?_
      refine ops_sym (by simp (disch := omega) only [go_sem, Nat.reduceEqDiff, Nat.reduceAdd, Nat.reduceLT, Nat.reduceMul, Nat.reduceLeDiff, reduceCtorEq, Int.reduceNeg, Int.reduceToNat]; rfl) (by first | with_reducible exact True.intro | omega) ?_
      refine ops_callf (by simp (disch := omega) only [go_sem, Nat.reduceEqDiff, Nat.reduceAdd, Nat.reduceLT, Nat.reduceMul, Nat.reduceLeDiff, reduceCtorEq, Int.reduceNeg, Int.reduceToNat]; rfl) hita rfl ?_
      refine ops_sym (by simp (disch := omega) only [go_sem, Nat.reduceEqDiff, Nat.reduceAdd, Nat.reduceLT, Nat.reduceMul, Nat.reduceLeDiff, reduceCtorEq, Int.reduceNeg, Int.reduceToNat]; rfl) (by first | with_reducible exact True.intro | omega) ?_
      repeat with_reducible first | refine awp_reg_i ?_ | refine ops_nil_i ?_ | refine then_normal_i ?_ | refine awp_draw_i ?_ | refine awp_block_i ?_ | refine in_normal_i ?_ | refine awp_exit_i ?_ | refine then_exit_i ?_ | refine in_exit_i ?_ | refine in_exit_ne (by decide) ?_ | refine awp_ret_i ?_ | refine then_ret_i ?_ | refine in_ret_i ?_ | refine awp_skip_i ?_
      refine awp_seq_mid (fun σ => ∃ s : ByteArray, s.size ≤ 9 ∧ Lib.decDigits V = (if q = 0 then [] else Lib.decDigits q) ++ s.data.toList ∧
        σ = ⟨(putE (putE (putE (putE un0 (some 2) (.str ⟨#[]⟩)) (some 3) (.sl (wd 4294967296 q).length (W (wd 4294967296 q)))) (some 4) (.own 1 ver 0 ss.length)) (some 7) (.str s)), [none, some (ver, 9, 1, SS ss)]⟩) ?_ ?_
      · rintro σ ⟨s, hs, hsd, rfl⟩
        repeat with_reducible first | refine awp_seq_i ?_ | refine awp_reg_i ?_ | refine ops_nil_i ?_ | refine then_normal_i ?_ | refine awp_draw_i ?_ | refine awp_block_i ?_ | refine in_normal_i ?_ | refine awp_exit_i ?_ | refine then_exit_i ?_ | refine in_exit_i ?_ | refine in_exit_ne (by decide) ?_ | refine awp_ret_i ?_ | refine then_ret_i ?_ | refine in_ret_i ?_ | refine awp_skip_i ?_
        refine ops_sym (by simp (disch := omega) only [go_sem, Nat.reduceEqDiff, Nat.reduceAdd, Nat.reduceLT, Nat.reduceMul, Nat.reduceLeDiff, reduceCtorEq, Int.reduceNeg, Int.reduceToNat]; rfl) (by first | with_reducible exact True.intro | omega) ?_
        repeat with_reducible first | refine awp_seq_i ?_ | refine awp_reg_i ?_ | refine ops_nil_i ?_ | refine then_normal_i ?_ | refine awp_draw_i ?_ | refine awp_block_i ?_ | refine in_normal_i ?_ | refine awp_exit_i ?_ | refine then_exit_i ?_ | refine in_exit_i ?_ | refine in_exit_ne (by decide) ?_ | refine awp_ret_i ?_ | refine then_ret_i ?_ | refine in_ret_i ?_ | refine awp_skip_i ?_
        refine ⟨q, _, hql, (Ent.cutk 2 (less_put (less_put (less_put (less_un0 _) ?_) ?_) ?_) (by exact ⟨.inr rfl, .inr rfl, trivial⟩) (kb_put (kb_put (kb_put (kb_un0 _) (by simp [kb])) (by simp [kb])) (by simp [kb])) (by simp [kbH, kb.kbs, kb, kbs_W, kbs_SS])), q, ver + 1, ss ++ [s], rfl, by omega, by simpa using hqV.1, by simpa using hqV.2, ?_, ?_, rfl⟩
        (· simp only [go_sem, Nat.reduceEqDiff, Nat.reduceAdd, Nat.reduceLT, Nat.reduceMul, Nat.reduceLeDiff, reduceCtorEq, Int.reduceNeg, Int.reduceToNat]); (· simp only [go_sem, Nat.reduceEqDiff, Nat.reduceAdd, Nat.reduceLT, Nat.reduceMul, Nat.reduceLeDiff, reduceCtorEq, Int.reduceNeg, Int.reduceToNat])
        · simp only [go_sem, Nat.reduceEqDiff, Nat.reduceAdd, Nat.reduceLT, Nat.reduceMul, Nat.reduceLeDiff, reduceCtorEq, Int.reduceNeg, Int.reduceToNat]
          simp
        · intro x hx
          rcases List.mem_append.1 hx with hx | hx
          · exact hs9 x hx
          · rw [List.mem_singleton] at hx; rw [hx]; exact hs
        · rw [hdec, if_neg hVn, hsd, flat_snoc, List.append_assoc]
      · repeat with_reducible first | refine awp_seq_i ?_ | refine awp_reg_i ?_ | refine ops_nil_i ?_ | refine then_normal_i ?_ | refine awp_draw_i ?_ | refine awp_block_i ?_ | refine in_normal_i ?_ | refine awp_exit_i ?_ | refine then_exit_i ?_ | refine in_exit_i ?_ | refine in_exit_ne (by decide) ?_ | refine awp_ret_i ?_ | refine then_ret_i ?_ | refine in_ret_i ?_ | refine awp_skip_i ?_
        refine ops_sym (by simp (disch := omega) only [go_sem, Nat.reduceEqDiff, Nat.reduceAdd, Nat.reduceLT, Nat.reduceMul, Nat.reduceLeDiff, reduceCtorEq, Int.reduceNeg, Int.reduceToNat]; rfl) (by first | with_reducible exact True.intro | omega) ?_
        repeat with_reducible first | refine awp_seq_i ?_ | refine awp_reg_i ?_ | refine ops_nil_i ?_ | refine then_normal_i ?_ | refine awp_draw_i ?_ | refine awp_block_i ?_ | refine in_normal_i ?_ | refine awp_exit_i ?_ | refine then_exit_i ?_ | refine in_exit_i ?_ | refine in_exit_ne (by decide) ?_ | refine awp_ret_i ?_ | refine then_ret_i ?_ | refine in_ret_i ?_ | refine awp_skip_i ?_
        refine awp_cond_sym (by simp only [go_sem, Nat.reduceEqDiff, Nat.reduceAdd, Nat.reduceLT, Nat.reduceMul, Nat.reduceLeDiff, reduceCtorEq, Int.reduceNeg, Int.reduceToNat]; rfl) (fun hb => ?_) (fun hb => ?_)
        · have hb2 := of_decide_eq_true hb
          have hq0 : q ≠ 0 := fun h => by subst h; rw [wd_zero] at hb2; simp at hb2
          have hsz := ba_size (Lib.decDigits sr)
          generalize hsx : (⟨(Lib.decDigits sr).toArray⟩ : ByteArray) = x at *
          have hxl : x.data.toList = Lib.decDigits sr := by rw [← hsx]
          obtain ⟨mz, hmz⟩ : ∃ mz, x.size + mz = 9 := ⟨9 - x.size, by omega⟩
          have hrp := lib_repeat (G := G) ⟨#[48]⟩ mz (by omega) (by show 1 * mz ≤ _; omega)
          rw [repeat1] at hrp
          have hzs := ba_size (List.replicate mz 48)
          rw [List.length_replicate] at hzs
          generalize hzx : (⟨(List.replicate mz 48).toArray⟩ : ByteArray) = z at *
          have hzl : z.data.toList = List.replicate mz 48 := by rw [← hzx]
          have happ : (z ++ x).size = 9 := by rw [ByteArray.size_append]; omega
          repeat with_reducible first | refine awp_seq_i ?_ | refine awp_reg_i ?_ | refine ops_nil_i ?_ | refine then_normal_i ?_ | refine awp_draw_i ?_ | refine awp_block_i ?_ | refine in_normal_i ?_ | refine awp_exit_i ?_ | refine then_exit_i ?_ | refine in_exit_i ?_ | refine in_exit_ne (by decide) ?_ | refine awp_ret_i ?_ | refine then_ret_i ?_ | refine in_ret_i ?_ | refine awp_skip_i ?_
          refine ops_sym (by simp (disch := omega) only [go_sem, Nat.reduceEqDiff, Nat.reduceAdd, Nat.reduceLT, Nat.reduceMul, Nat.reduceLeDiff, reduceCtorEq, Int.reduceNeg, Int.reduceToNat]; rfl) (by first | with_reducible exact True.intro | omega) ?_
          rw [show (9 : Int) - x.size = mz by omega]
          refine ops_callf (by simp (disch := omega) only [go_sem, Nat.reduceEqDiff, Nat.reduceAdd, Nat.reduceLT, Nat.reduceMul, Nat.reduceLeDiff, reduceCtorEq, Int.reduceNeg, Int.reduceToNat]; rfl) hrp rfl ?_
          refine ops_sym (by simp (disch := omega) only [go_sem, Nat.reduceEqDiff, Nat.reduceAdd, Nat.reduceLT, Nat.reduceMul, Nat.reduceLeDiff, reduceCtorEq, Int.reduceNeg, Int.reduceToNat]; rfl) (by first | with_reducible exact True.intro | omega) ?_
          repeat with_reducible first | refine awp_seq_i ?_ | refine awp_reg_i ?_ | refine ops_nil_i ?_ | refine then_normal_i ?_ | refine awp_draw_i ?_ | refine awp_block_i ?_ | refine in_normal_i ?_ | refine awp_exit_i ?_ | refine then_exit_i ?_ | refine in_exit_i ?_ | refine in_exit_ne (by decide) ?_ | refine awp_ret_i ?_ | refine then_ret_i ?_ | refine in_ret_i ?_ | refine awp_skip_i ?_
          refine ⟨_, Nat.zero_le _, Ent.env (less_put (less_put (less_put (less_put (less_un0 _) ?_) ?_) ?_) ?_), z ++ x, by omega, ?_, rfl⟩
          (· simp only [go_sem, Nat.reduceEqDiff, Nat.reduceAdd, Nat.reduceLT, Nat.reduceMul, Nat.reduceLeDiff, reduceCtorEq, Int.reduceNeg, Int.reduceToNat]); (· simp only [go_sem, Nat.reduceEqDiff, Nat.reduceAdd, Nat.reduceLT, Nat.reduceMul, Nat.reduceLeDiff, reduceCtorEq, Int.reduceNeg, Int.reduceToNat]); (· simp only [go_sem, Nat.reduceEqDiff, Nat.reduceAdd, Nat.reduceLT, Nat.reduceMul, Nat.reduceLeDiff, reduceCtorEq, Int.reduceNeg, Int.reduceToNat]); (· simp only [go_sem, Nat.reduceEqDiff, Nat.reduceAdd, Nat.reduceLT, Nat.reduceMul, Nat.reduceLeDiff, reduceCtorEq, Int.reduceNeg, Int.reduceToNat])
          rw [if_neg hq0, ← hdv, Nat.mul_comm, show (1000000000 : Nat) = 10 ^ 9 from rfl, dec_add 9 q sr (by omega) (by omega), hdg, ByteArray.data_append, Array.toList_append, hzl, hxl, show 9 - (Lib.decDigits sr).length = mz by omega]
        · have hb2 := of_decide_eq_false hb
          have hq0 : q = 0 := by
            rw [← vl_wd (B := 4294967296) (by omega) q, List.eq_nil_of_length_eq_zero (by omega : (wd 4294967296 q).length = 0)]; rfl
          subst hq0
          have hsz := ba_size (Lib.decDigits sr)
          repeat with_reducible first | refine awp_seq_i ?_ | refine awp_reg_i ?_ | refine ops_nil_i ?_ | refine then_normal_i ?_ | refine awp_draw_i ?_ | refine awp_block_i ?_ | refine in_normal_i ?_ | refine awp_exit_i ?_ | refine then_exit_i ?_ | refine in_exit_i ?_ | refine in_exit_ne (by decide) ?_ | refine awp_ret_i ?_ | refine then_ret_i ?_ | refine in_ret_i ?_ | refine awp_skip_i ?_
          refine ⟨_, Nat.zero_le _, Ent.env (less_put (less_put (less_put (less_put (less_un0 _) ?_) ?_) ?_) ?_), ⟨(Lib.decDigits sr).toArray⟩, by omega, ?_, rfl⟩
          (· simp only [go_sem, Nat.reduceEqDiff, Nat.reduceAdd, Nat.reduceLT, Nat.reduceMul, Nat.reduceLeDiff, reduceCtorEq, Int.reduceNeg, Int.reduceToNat]); (· simp only [go_sem, Nat.reduceEqDiff, Nat.reduceAdd, Nat.reduceLT, Nat.reduceMul, Nat.reduceLeDiff, reduceCtorEq, Int.reduceNeg, Int.reduceToNat]); (· simp only [go_sem, Nat.reduceEqDiff, Nat.reduceAdd, Nat.reduceLT, Nat.reduceMul, Nat.reduceLeDiff, reduceCtorEq, Int.reduceNeg, Int.reduceToNat]); (· simp only [go_sem, Nat.reduceEqDiff, Nat.reduceAdd, Nat.reduceLT, Nat.reduceMul, Nat.reduceLeDiff, reduceCtorEq, Int.reduceNeg, Int.reduceToNat])
          rw [if_pos rfl, ← hdv]; simp
    · have hb' := of_decide_eq_false hb
      have hV : V = 0 := by
        rw [← vl_wd (B := 4294967296) (by omega) V, List.eq_nil_of_length_eq_zero (by omega : (wd 4294967296 V).length = 0)]; rfl
      subst hV
      rw [if_pos rfl, List.nil_append] at hdec
      have hfl := flat_len hs9
      have hrl : ss.reverse.length = ss.length := by simp
      have hjn : Lib.join (ss.reverse.map (·.data.toList)) [] = flat ss := join_nosep _
      have hjo := lib_join (G := G) ss.reverse ⟨#[]⟩ ss.length (by simp) (by simp; omega) (by rw [show (⟨#[]⟩ : ByteArray).data.toList = [] from rfl, hjn]; omega)
      rw [show (⟨#[]⟩ : ByteArray).data.toList = [] from rfl, hjn] at hjo
      repeat with_reducible first | refine awp_seq_i ?_ | refine awp_reg_i ?_ | refine ops_nil_i ?_ | refine then_normal_i ?_ | refine awp_draw_i ?_ | refine awp_block_i ?_ | refine in_normal_i ?_ | refine awp_exit_i ?_ | refine then_exit_i ?_ | refine in_exit_i ?_ | refine in_exit_ne (by decide) ?_ | refine awp_ret_i ?_ | refine then_ret_i ?_ | refine in_ret_i ?_ | refine awp_skip_i ?_
      refine ops_sym (by simp (disch := omega) only [go_sem, Nat.reduceEqDiff, Nat.reduceAdd, Nat.reduceLT, Nat.reduceMul, Nat.reduceLeDiff, reduceCtorEq, Int.reduceNeg, Int.reduceToNat]; rfl) (by first | with_reducible exact True.intro | omega) ?_
      refine ops_callw [1] (pcg_reverse ss ss.length ver 9 rfl (by omega)) (by simp (disch := omega) only [go_sem, Nat.reduceEqDiff, Nat.reduceAdd, Nat.reduceLT, Nat.reduceMul, Nat.reduceLeDiff, reduceCtorEq, Int.reduceNeg, Int.reduceToNat]; rfl) (by simp [kb]) (by decide) rfl (by simp) rfl rfl (by simp) (by simp [immH, W_imm, SS_imm]) (by simp [immH, W_imm, SS_imm]) (by simp only [D.ren, List.getD_cons_zero, List.getD_cons_succ]; rfl) (by simp only [List.zip_cons_cons, List.zip_nil_left, List.zip_nil_right]; rfl) ?_
      refine ops_sym (by simp (disch := omega) only [go_sem, Nat.reduceEqDiff, Nat.reduceAdd, Nat.reduceLT, Nat.reduceMul, Nat.reduceLeDiff, reduceCtorEq, Int.reduceNeg, Int.reduceToNat]; rfl) (by first | with_reducible exact True.intro | omega) ?_
      repeat with_reducible first | refine awp_seq_i ?_ | refine awp_reg_i ?_ | refine ops_nil_i ?_ | refine then_normal_i ?_ | refine awp_draw_i ?_ | refine awp_block_i ?_ | refine in_normal_i ?_ | refine awp_exit_i ?_ | refine then_exit_i ?_ | refine in_exit_i ?_ | refine in_exit_ne (by decide) ?_ | refine awp_ret_i ?_ | refine then_ret_i ?_ | refine in_ret_i ?_ | refine awp_skip_i ?_
      refine ops_sym (by simp (disch := omega) only [go_sem, Nat.reduceEqDiff, Nat.reduceAdd, Nat.reduceLT, Nat.reduceMul, Nat.reduceLeDiff, reduceCtorEq, Int.reduceNeg, Int.reduceToNat]; rfl) (by first | with_reducible exact True.intro | omega) ?_
      refine ops_call (by simp (disch := omega) only [go_sem, Nat.reduceEqDiff, Nat.reduceAdd, Nat.reduceLT, Nat.reduceMul, Nat.reduceLeDiff, reduceCtorEq, Int.reduceNeg, Int.reduceToNat]; rfl) hjo ?_
      refine ops_sym (by simp (disch := omega) only [go_sem, Nat.reduceEqDiff, Nat.reduceAdd, Nat.reduceLT, Nat.reduceMul, Nat.reduceLeDiff, reduceCtorEq, Int.reduceNeg, Int.reduceToNat]; rfl) (by first | with_reducible exact True.intro | omega) ?_
      repeat with_reducible first | refine awp_seq_i ?_ | refine awp_reg_i ?_ | refine ops_nil_i ?_ | refine then_normal_i ?_ | refine awp_draw_i ?_ | refine awp_block_i ?_ | refine in_normal_i ?_ | refine awp_exit_i ?_ | refine then_exit_i ?_ | refine in_exit_i ?_ | refine in_exit_ne (by decide) ?_ | refine awp_ret_i ?_ | refine then_ret_i ?_ | refine in_ret_i ?_ | refine awp_skip_i ?_
      refine res_ret (by simp (disch := omega) only [go_sem, Nat.reduceEqDiff, Nat.reduceAdd, Nat.reduceLT, Nat.reduceMul, Nat.reduceLeDiff, reduceCtorEq, Int.reduceNeg, Int.reduceToNat]; rfl) ?_
      rw [hr, hdec]
end Go.Proofs.YtakghhkbaahabaaDoorK.NatT
