/-
  Joined: Lib, LibS.
-/
import Derived.Test.YtgimaioeifnajaaGreatDoorKAc
import Derived.Test.YtgimaioeifnajaaGreatDoorShelf
import Derived.Lib.LaidTab
import Derived.WalkSmall
import Derived.Shelf.Strings.SlTrimAscii
import Derived.Shelf.Strings.OnBuilder
import Derived.Shelf.Strings.Repeat
import Derived.Shelf.Strconv.Itoa3
import Derived.Shelf.Pu.ParseUintPublic10
import Derived.Shelf.Small.Bits
import Derived.Shelf.SlicesE.Clone
import Derived.Lib.AppendIntMem
import Derived.Shelf.RegionOpenPlain
import Derived.WalkKit
import Derived.Deep.LoopGhost
import Derived.Lib.Walk
import Derived.Lib.SliceRun
import Derived.Shelf.Small.Wraps
import Derived.Shelf.Strings.Cut
import Derived.Test.YtgimaioeifnajaaGreatDoorKP
set_option linter.all false
set_option maxHeartbeats 0
/-
  Library functions: their contracts, out of the shelf's.
-/
namespace Go.Proofs.YtgimaioeifnajaaGreatDoorK.LibT
open AI Go.RowKit Go.Shelf
variable {G : World → Prop} {A : Nat → Prop} {w : World} {v : Value}
theorem int_v {k : IntKind} {n : Int} (h : RepI A w v (.int k n)) : v = .int k n := by cases h; rfl
theorem str_v {s : ByteArray} (h : RepI A w v (.str s)) : v = .string s := by cases h; rfl
theorem vs1 {vs : Array Value} (h : vs.size = 1) : vs = #[vs.getD 0 undef] := by
  obtain ⟨l⟩ := vs
  match l, h with
  | [a], _ => rfl
theorem vs2 {vs : Array Value} (h : vs.size = 2) : vs = #[vs.getD 0 undef, vs.getD 1 undef] := by
  obtain ⟨l⟩ := vs
  match l, h with
  | [a, b], _ => rfl
theorem vs3 {vs : Array Value} (h : vs.size = 3) : vs = #[vs.getD 0 undef, vs.getD 1 undef, vs.getD 2 undef] := by
  obtain ⟨l⟩ := vs
  match l, h with
  | [a, b, c], _ => rfl
theorem lib_trim (s c : ByteArray) (hs : s.size ≤ 9223372036854775807) (hc : c.size < 4294967281) (ha : (c.data.toList.all fun b => decide (b.toNat < 128)) = true) :
    PCr Tryz.prog G 76 [.str s, .str c] (.str ⟨(Lib.trimS s.data.toList c.data.toList).toArray⟩) := by
  intro w S vs hg hS hsz hvs
  rw [vs2 hsz, str_v (hvs 0 _ rfl), str_v (hvs 1 _ rfl)]
  refine (Any.strings_Trim_laid Tryz.lays160 (by kernel_rfl) s c w hs hc (ascii_of_all ha)).mono ?_
  rintro e w' ⟨rfl, hb⟩
  exact ⟨_, rfl, .str _, hb⟩
theorem lib_itoa (hT : ∀ w, G w → Lib.TabIs Tryz.prog w "internal/strconv.uint64pow10" .u64 Lib.pow10Tab) (n : Int) (h0 : -9223372036854775808 ≤ n) (h1 : n ≤ 9223372036854775807) :
    PCr Tryz.prog G 40 [.int .i64 n] (.str ⟨(Lib.itoa n).toArray⟩) := by
  intro w S vs hg hS hsz hvs
  rw [vs1 hsz, int_v (hvs 0 _ rfl)]
  refine (Any.strconv_Itoa Tryz.laysM171 n h0 h1 w (hT w hg)).mono ?_
  rintro e w' ⟨rfl, k, os, rfl⟩
  exact ⟨_, rfl, .str _, Lib.below_grow _ _ (Nat.le_refl _) _ _⟩
theorem lib_repeat (s : ByteArray) (m : Nat) (hm : m ≤ 9223372036854775807) (hl : s.size * m ≤ 140737488355328) :
    PCr Tryz.prog G 41 [.str s, .int .i64 m] (.str ⟨(Lib.repeatL s.data.toList m).toArray⟩) := by
  intro w S vs hg hS hsz hvs
  rw [vs2 hsz, str_v (hvs 0 _ rfl), int_v (hvs 1 _ rfl)]
  refine (Any.strings_Repeat Tryz.lays105 Tryz.Builder_Extra_105 s m w hm hl).mono ?_
  rintro e w' ⟨rfl, hb⟩
  exact ⟨_, rfl, .str _, hb⟩
theorem lib_parse32 (s : ByteArray) (hmax : s.size ≤ 9223372036854775806) (u : Nat) (h : Lib.parseUintB 32 s.data.toList = .ok u) :
    PCr Tryz.prog G 78 [.str s, .int .i64 10, .int .i64 32] (.tup [.int .u64 u, .un]) := by
  intro w S vs hg hS hsz hvs
  rw [vs3 hsz, str_v (hvs 0 _ rfl), int_v (hvs 1 _ rfl), int_v (hvs 2 _ rfl)]
  refine (Any.strconv_ParseUint_10_at32_ok Tryz.laysPu14 s hmax u h w).mono ?_
  rintro e w' ⟨rfl, hw⟩
  refine ⟨_, rfl, .tup _ _ rfl (fun j d hj => ?_), ?_⟩
  · match j, hj with
    | 0, hj => cases hj; exact .int _ _
    | 1, hj => cases hj; exact .un _
  · rcases hw with rfl | rfl
    · exact Below.refl _ _
    · exact ⟨rfl, rfl, rfl, by rw [Lib.bytesWorld_size]; omega, fun i hi => Lib.bytesWorld_at_old w _ s i hi⟩
theorem lib_join (ss : List ByteArray) (sep : ByteArray) (n : Nat) (hn : n = ss.length) (hN : ss.length ≤ 140737488355328) (hl : (Lib.join (ss.map (·.data.toList)) sep.data.toList).length ≤ 140737488355328) :
    PCr Tryz.prog G 27 [.sl n (ss.map .str), .str sep] (.str ⟨(Lib.join (ss.map (·.data.toList)) sep.data.toList).toArray⟩) := by
  subst hn
  intro w S vs hg hS hsz hvs
  obtain ⟨a, c, g, o, us, hv, hnc, hc, ha, hA, hu, hr⟩ := (hvs 0 _ rfl).sl_form
  rw [vs2 hsz, hv, str_v (hvs 1 _ rfl)]
  rcases Nat.eq_zero_or_pos ss.length with h0 | h0
  · obtain rfl : ss = [] := List.eq_nil_of_length_eq_zero h0
    refine (Any.strings_Join_none Tryz.lays156 Tryz.Builder_Extra_156 a c sep w).mono ?_
    rintro e w' ⟨rfl, rfl⟩
    exact ⟨_, rfl, .str _, Below.refl _ _⟩
  · rw [ha (by intro h; simp at h; subst h; simp at h0)]
    have hcells : ∀ (j : Nat) x, ss[j]? = some x → w.cell? ⟨g, o + j, none⟩ = some (.string x) := fun j x hj => by
      have h1 := hu j (.str x) (by rw [List.getElem?_map, hj]; rfl)
      have h2 := hr j (.str x) (by rw [List.getElem?_map, hj]; rfl)
      rw [str_v h2] at h1
      exact h1
    refine (Any.strings_Join Tryz.lays156 Tryz.Builder_Extra_156 g o c ss sep w hcells (cellv_lt (hcells 0 _ (List.getElem?_eq_getElem h0))) hN hnc hl).mono ?_
    rintro e w' ⟨rfl, hb⟩
    exact ⟨_, rfl, .str _, hb⟩
set_option maxRecDepth 100000 in
theorem clone_zero {P : Program} {ρ : Go.Shelf.Ren} (L : SlLaysE0.n41 P ρ) (i0 : TypeInfo) (z : Value) (size bytes : Nat) (hi : P.info? (ρ.t 23) = some i0) (hz0 : i0.zero = some z) (hz1 : i0.size = size) (hz2 : i0.bytes = bytes) (hzs : z.cells.size = size) (hsz : 0 < size)
    (z23 : ∀ w, (Go.sizeOf (ρ.t 23)).run P w = .ok size w) (a : Addr) (c : Nat) (w : World) :
    Calls P (ρ.f 41) #[.slice (some a) 0 c] w fun e w' => ∃ v', e = .returned v' ∧ w'.ownsRow w.heap.size (ρ.t 23) size v' 0 [] ∧ Below w.heap.size w w' := by
  have mixed := L.mixed; have t4 := L.t4; have a4 := L.a4; have z4 := L.z4; have v4 := L.v4; have t22 := L.t22; have a22 := L.a22; have z22 := L.z22; have v22 := L.v22
  have q22 : ∀ (w : World) (a : Option Addr) (n c n' c' : Nat), (binOp .eql (ρ.t 22) (.slice a n c) (.slice none n' c')).run P w = .ok (.bool a.isNone) w := fun w a n c n' c' => Lib.run_eql_slice_nil w _ _ a n c n' c' L.t22
  have u22 : ∀ w, Sem.run P (underlying (ρ.t 22)) w = .ok (TypeDesc.slice (ρ.t 23)) w := run_underlying t22
  obtain ⟨_, _, FG⟩ := L.f41
  go_enter FG, SlBodyN.n41_ntmps ρ
  go_wp2_with (at_builtin; refine wpList_append_own _ rfl _ _ (ρ.t 22) rfl w.heap.size (ρ.t 23) i0 z size bytes t22 hi hz0 hz1 hz2 hzs hsz _ _ _ rfl (World.ownsRow_made w #[] 0 (Nat.le_refl _) (Nat.zero_le _) (by simp)) a 0 c [] rfl ?qc1 ?qc2 ?qc3 ?qc4 ?qc5 ?qc6 ?_)
  case qc1 => simp
  case qc2 => intro j u hj; simp at hj
  case qc3 => intro u hu; cases hu
  case qc4 => unfold maxLen; omega
  case qc5 => omega
  case qc6 => simp
  intro v' w1 hown hgrow hnil
  go_wp2
  go_ret
  exact ⟨v', rfl, by simpa using hown, ((Below.refl _ w).alloc (Nat.le_refl _) _).grown hgrow (by simp) (by intro k hk; simp [Value.ownBlock] at hk; omega)⟩
theorem repi_owns {S : Nat → Prop} {w w' : World} {e : TypeId} {size n : Nat} {v : Value} {cs : List D} {us : Nat → Value} (hS : ∀ g, S g → g < w.heap.size) (hl : cs.length = n * size) {news : List Value} (h : w'.ownsRow w.heap.size e size v n news)
    (hr : ∀ j d, cs[j]? = some d → RepI S w' (news.getD j undef) d) : RepI S w' v (.sl n cs) := by
  obtain ⟨hnl, hown⟩ := h
  rcases hown with ⟨rfl, rfl⟩ | ⟨g, cap, cur, rfl, hg, hh, hnc, hcm, hcs, ht⟩
  · have : cs = [] := List.eq_nil_of_length_eq_zero (by simpa using hl)
    subst this
    exact .sl none 0 0 [] 0 0 (fun _ => undef) (Nat.le_refl _) (Nat.zero_le _) (fun h => absurd rfl h) (fun h => absurd rfl h) (fun j d hj => by simp at hj) (fun j d hj => by simp at hj)
  · refine .sl _ n cap cs g 0 (fun j => news.getD j undef) hnc hcm (fun _ => rfl) (fun _ hSg => by have := hS g hSg; omega) (fun j d hj => ?_) hr
    have hj1 : j < news.length := by have := (List.getElem?_eq_some_iff.1 hj).1; omega
    obtain ⟨x, hx⟩ : ∃ x, news[j]? = some x := ⟨_, List.getElem?_eq_getElem hj1⟩
    rw [Nat.zero_add, cellv_of_block hh, List.getD_eq_getElem?_getD, hx]
    rw [← ht, List.getElem?_take, if_pos (by omega)] at hx
    simpa using hx
theorem lib_clone {f : FuncId} {ρ : Go.Shelf.Ren} {e : TypeId} (L : SlLaysE0.n41 Tryz.prog ρ) (hf : ρ.f 41 = f) (he : ρ.t 23 = e) (i0 : TypeInfo) (z : Value) (size bytes : Nat) (hi : Tryz.prog.info? e = some i0) (hz0 : i0.zero = some z) (hz1 : i0.size = size) (hz2 : i0.bytes = bytes) (hzs : z.cells.size = size) (hsz : 0 < size) (hsT : sizeT Tryz.prog e = some size)
    (n : Nat) (cs : List D) (hl : cs.length = n * size) (hflat : ∀ d ∈ cs, d.flat = true) (h1 : cs.all D.one = true) (hbig : n * bytes ≤ 140737488355328) :
    PCr Tryz.prog G f [.sl n cs] (.sl n cs) := by
  subst hf he
  intro w S vs hg hS hsz' hvs
  have z23 : ∀ w, (Go.sizeOf (ρ.t 23)).run Tryz.prog w = .ok size w := fun w => run_size hsT
  obtain ⟨a, c, g, o, us, hv, hnc, hc, ha, hA, hu, hr⟩ := (hvs 0 _ rfl).sl_form
  rw [vs1 hsz', hv]
  by_cases h0 : cs = []
  · subst h0
    have hn0 : n = 0 := by
      rcases Nat.eq_zero_or_pos n with h | h
      · exact h
      · have := Nat.mul_pos h hsz
        simp at hl
        omega
    subst hn0
    cases a with
    | none =>
      refine (AnyE.slices_Clone_nil L 0 c w).mono ?_
      rintro e w' ⟨rfl, rfl⟩
      exact ⟨_, rfl, .sl none 0 0 [] 0 0 (fun _ => undef) (Nat.le_refl _) (Nat.zero_le _) (fun h => absurd rfl h) (fun h => absurd rfl h) (fun j d hj => by simp at hj) (fun j d hj => by simp at hj), Below.refl _ _⟩
    | some ad =>
      refine (clone_zero L i0 z size bytes hi hz0 hz1 hz2 hzs hsz z23 ad c w).mono ?_
      rintro e w' ⟨v', rfl, hown, hb⟩
      exact ⟨_, rfl, repi_owns (us := fun _ => undef) hS (by simp) hown (fun j d hj => by simp at hj), hb⟩
  · rw [ha h0]
    let news : List Value := (List.range cs.length).map us
    have hnews : ∀ j d, cs[j]? = some d → news[j]? = some (us j) := fun j d hj => by
      have := (List.getElem?_eq_some_iff.1 hj).1
      simp [news, List.getElem?_range this]
    refine (AnyE.slices_Clone L i0 z size bytes hi hz0 hz1 hz2 hzs hsz z23 g o n c news w (by simp [news, hl]) (Nat.le_trans hnc hc) hbig (fun j u hj => ?_) (fun u hu' => ?_)).mono ?_
    · have hj1 : j < cs.length := by have := (List.getElem?_eq_some_iff.1 hj).1; simpa [news] using this
      have h2 := hnews j _ (List.getElem?_eq_getElem hj1)
      rw [hj] at h2
      cases h2
      exact hu j _ (List.getElem?_eq_getElem hj1)
    · obtain ⟨j, hj⟩ := List.mem_iff_getElem?.1 hu'
      have hj1 : j < cs.length := by have := (List.getElem?_eq_some_iff.1 hj).1; simpa [news] using this
      have h2 := hnews j _ (List.getElem?_eq_getElem hj1)
      rw [hj] at h2
      cases h2
      exact rep_one (R := fun _ _ => .no) (.imm (hr j _ (List.getElem?_eq_getElem hj1))) (List.all_eq_true.1 h1 _ (List.getElem_mem hj1))
    · rintro e w' ⟨v', rfl, hown, _, hb⟩
      refine ⟨_, rfl, repi_owns (us := us) hS hl hown (fun j d hj => ?_), hb⟩
      rw [List.getD_eq_getElem?_getD, hnews j d hj]
      exact (hr j d hj).of_flat (hflat d (List.mem_of_getElem? hj))
end Go.Proofs.YtgimaioeifnajaaGreatDoorK.LibT
/-
  strings.CutPrefix, strings.Cut: their contracts, out of the shelf's.
-/
namespace Go.Proofs.YtgimaioeifnajaaGreatDoorK.LibT
open AI Go.RowKit Go.Shelf
variable {G : World → Prop}
theorem lib_cutprefix (s p : ByteArray) : PCr Tryz.prog G 137 [.str s, .str p] (.tup [.str ⟨(Lib.trimPrefix s.data.toList p.data.toList).toArray⟩, .bool (Lib.hasPrefix s.data.toList p.data.toList)]) := by
  intro w S vs hg hS hsz hvs
  rw [vs2 hsz, str_v (hvs 0 _ rfl), str_v (hvs 1 _ rfl)]
  refine (Any.strings_CutPrefix Tryz.lays103 s p w).mono ?_
  rintro e w' ⟨rfl, rfl⟩
  refine ⟨_, rfl, .tup _ _ rfl (fun j d hj => ?_), Below.refl _ _⟩
  match j, hj with
  | 0, hj => cases hj; exact .str _
  | 1, hj => cases hj; exact .bool _
def gMax (w : World) : Prop := ∃ m, w.cell? ⟨Tryz.lays146_ren.g 1, 0, none⟩ = some (.int .i64 m)
theorem gMax_stable : Stable gMax := by
  rintro w w' ⟨m, hm⟩ hB
  have hlt := World.block_lt_of_cell? w _ hm
  refine ⟨m, ?_⟩
  rw [← hm]
  simp only [World.cell?]
  rw [hB.block _ hlt]
end Go.Proofs.YtgimaioeifnajaaGreatDoorK.LibT
