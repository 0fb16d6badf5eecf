/-
  cubitlaw8.DimsNames answers true.
-/
import Derived.Test.YtapgmfahdpopnaaDoorKIrLDimsNames
import Derived.Test.YtapgmfahdpopnaaDoorKAwakeM8
import Derived.Test.YtapgmfahdpopnaaDoorKDimsM
import Derived.Test.YtapgmfahdpopnaaDoorKCallr
set_option linter.all false
set_option linter.unusedVariables false
set_option linter.unusedSimpArgs false
set_option maxHeartbeats 4000000
namespace Go.Proofs.YtapgmfahdpopnaaDoorK.LawT8
open Go.Proofs.YtapgmfahdpopnaaDoorK.AI Go.Proofs.YtapgmfahdpopnaaDoorK.NatIr Go.Proofs.YtapgmfahdpopnaaDoorK.DimsT
set_option linter.unusedSimpArgs false
attribute [local irreducible] awp awpOps
attribute [local go_sem] getO putE_same putE_ne putE_none un0_at ini_zero ini_one ini_two ini_three ne_eq not_false_eq_true Nat.zero_ne_one Nat.one_ne_zero zero_ne_succ succ_ne_zero sym_nil sym_cons symG_call symG_op symG_skip IOp.isCall gd st_mv st_pick st_new st_box st_build st_lit st_load st_store st_faddr st_fld st_iaddrS st_iaddrA st_idxs st_bin st_beq st_neg st_not st_conv st_slcS st_slcL st_make st_app st_lenS st_lenL st_capL st_appZ st_seq eqAt eq1 st_mx st_mn st_ext st_nilck st_bstr st_idxA st_slcA st_aeq st_isnil nilD st_mkmap st_look st_mput st_mkfn foundD byD pureC loadC setH hv boundO D.cells D.one D.boxable fillD putD rowD binC intBinC decT decF dec_true dec_false bne_self_eq_false beq_self_eq_true beq_true_false beq_false_true bne_iff_ne List.length_nil List.length_cons List.getD_cons_zero List.getD_cons_succ List.set_cons_zero List.set_cons_succ List.all_cons List.all_nil Bool.and_true Bool.true_and Nat.lt_irrefl Nat.sub_self Nat.zero_add Nat.add_zero Nat.mul_one Nat.lt_add_one if_true if_false List.replicate_zero List.nil_append List.cons_append List.append_nil List.map_cons List.map_nil Bool.false_eq_true or_self or_true true_or or_false false_or true_and and_true and_self Int.ofNat_zero wrap_i64 wrap_u32 wrap_u64 wrap_u8 wrap_u32_mod wrap_u64_mod Nat.zero_lt_one Int.toNat_natCast Int.sub_zero toNat_pred List.take_succ_cons List.take_zero List.drop_succ_cons List.drop_zero List.take_nil List.drop_nil Nat.le_refl List.length_singleton rvDs rvD ldD one? Option.bind_some Option.map_some resD_int resD_bool resD_str resD_sl resD_rp resD_nils resD_null resD_agg resD_tup resD_own rdOwn resD_nilm resD_mf resD_fn resD_mo rdMo resD_ptr rdPtr rd_ite resL_eq go_nil go_cons D.imm resArgs shr32 shl32 Nat.zero_mul Bool.and_self Bool.and_false Bool.false_and strBin_eql strBin_neq Bool.not_true Bool.not_false i64max List.length_reverse List.length_set SS_length SS_getD SS_set SS_take SS_drop SS_imm SS_one SS_app1 W_get1 W_len1 W_getD W_set W_take W_drop W_app W_length W_imm W_one W_repl N mx_nat toNat_succ toNat_add toNat_pred2 tdiv_nn tmod_nn List.take_of_length_le cast_succ and_one or_shl32 min64 shr32b shl32b IntKind.bits
attribute [local go_sem] not_true_eq_false not_false_eq_true beq_self_eq_true eq_self decide_true Bool.not_false Bool.not_true
variable {G : World → Prop}
def pz (L : List (List Int)) (Ns : List ByteArray) (js : List Nat) : PS := js.map fun j => (L.getD j [], Ns.getD j ByteArray.empty)
theorem pz_len (L : List (List Int)) (Ns : List ByteArray) (js : List Nat) : (pz L Ns js).length = js.length := by simp [pz]
def thK (L : List (List Int)) (Ns : List ByteArray) (js : List Nat) (i k : Nat) : Bool := decide (Ns.getD i ByteArray.empty = ⟨#[]⟩) || ((js.take k).any fun j => decide (L.getD j [] = L.getD i []))
theorem thK_succ (L : List (List Int)) (Ns : List ByteArray) (js : List Nat) (i k : Nat) (hk : k < js.length) : thK L Ns js i (k + 1) = (thK L Ns js i k || decide (L.getD (js.getD k 0) [] = L.getD i [])) := by
  unfold thK
  rw [List.take_add_one, List.any_append, ← Bool.or_assoc, List.getElem?_eq_getElem hk]
  congr 1
  simp [List.getD_eq_getElem?_getD, hk]
structure Inv (L : List (List Int)) (Ns : List ByteArray) (i : Nat) (js : List Nat) : Prop where
  lt : ∀ k, k < js.length → js.getD k 0 < i
  len : js.length ≤ i
  ne : ∀ k, k < js.length → Ns.getD (js.getD k 0) ByteArray.empty ≠ ByteArray.empty
  get : ∀ k, k < js.length → nm (L.getD (js.getD k 0) []) (pz L Ns js) = some (Ns.getD (js.getD k 0) ByteArray.empty)
theorem Inv.nil (L : List (List Int)) (Ns : List ByteArray) : Inv L Ns 0 [] := ⟨fun k h => absurd h (Nat.not_lt_zero _), Nat.le_refl _, fun k h => absurd h (Nat.not_lt_zero _), fun k h => absurd h (Nat.not_lt_zero _)⟩
theorem Inv.skip {L : List (List Int)} {Ns : List ByteArray} {i : Nat} {js : List Nat} (h : Inv L Ns i js) : Inv L Ns (i + 1) js := ⟨fun k hk => Nat.lt_succ_of_lt (h.lt k hk), Nat.le_succ_of_le h.len, h.ne, h.get⟩
theorem th_none {L : List (List Int)} {Ns : List ByteArray} {i : Nat} {js : List Nat} (ht : thK L Ns js i js.length = false) : Ns.getD i ByteArray.empty ≠ ByteArray.empty ∧ nm (L.getD i []) (pz L Ns js) = none := by
  unfold thK at ht
  rw [List.take_length, Bool.or_eq_false_iff] at ht
  refine ⟨of_decide_eq_false ht.1, nm_none.2 fun p hp => ?_⟩
  obtain ⟨j, hj, rfl⟩ := List.mem_map.1 hp
  have := List.any_eq_false.1 ht.2 j hj
  simpa using this
theorem th_some {L : List (List Int)} {Ns : List ByteArray} {i : Nat} {js : List Nat} (h : Inv L Ns i js) (ht : thK L Ns js i js.length = true) : Ns.getD i ByteArray.empty = ⟨#[]⟩ ∨ ∃ x, nm (L.getD i []) (pz L Ns js) = some x ∧ x ≠ ⟨#[]⟩ := by
  unfold thK at ht
  rw [List.take_length, Bool.or_eq_true] at ht
  rcases ht with ht | ht
  · exact .inl (of_decide_eq_true ht)
  · obtain ⟨j, hj, he⟩ := List.any_eq_true.1 ht
    obtain ⟨k, hk, rfl⟩ := List.mem_iff_getElem.1 hj
    have e := h.get k hk
    have e2 := h.ne k hk
    have e3 : js.getD k 0 = js[k] := by simp [List.getD_eq_getElem?_getD, hk]
    rw [e3] at e e2
    rw [of_decide_eq_true he] at e
    exact .inr ⟨_, e, e2⟩
theorem pz_app (L : List (List Int)) (Ns : List ByteArray) (js : List Nat) (i : Nat) : pz L Ns (js ++ [i]) = pz L Ns js ++ [(L.getD i [], Ns.getD i ByteArray.empty)] := by simp [pz]
theorem getD_app {js : List Nat} {i k : Nat} (hk : k < js.length) : (js ++ [i]).getD k 0 = js.getD k 0 := by simp [List.getD_eq_getElem?_getD, List.getElem?_append_left hk]
theorem getD_last {js : List Nat} {i : Nat} : (js ++ [i]).getD js.length 0 = i := by simp [List.getD_eq_getElem?_getD]
theorem Inv.put {L : List (List Int)} {Ns : List ByteArray} {i : Nat} {js : List Nat} (h : Inv L Ns i js) (hn : Ns.getD i ByteArray.empty ≠ ByteArray.empty) (hm : nm (L.getD i []) (pz L Ns js) = none) : Inv L Ns (i + 1) (js ++ [i]) := by
  have key : ∀ k, k < (js ++ [i]).length → k < js.length ∨ k = js.length := fun k hk => by
    rw [List.length_append, List.length_singleton] at hk; omega
  refine ⟨fun k hk => ?_, by rw [List.length_append, List.length_singleton]; have := h.len; omega, fun k hk => ?_, fun k hk => ?_⟩
  · rcases key k hk with h1 | rfl
    · rw [getD_app h1]; exact Nat.lt_succ_of_lt (h.lt k h1)
    · rw [getD_last]; omega
  · rcases key k hk with h1 | rfl
    · rw [getD_app h1]; exact h.ne k h1
    · rw [getD_last]; exact hn
  · rw [pz_app, nm_app]
    rcases key k hk with h1 | rfl
    · rw [getD_app h1, h.get k h1]
    · rw [getD_last, hm]
      show nm _ [_] = _
      rw [nm, if_pos rfl]
theorem pz_all8 {L : List (List Int)} {Ns : List ByteArray} {i : Nat} {js : List Nat} (hL : ∀ x ∈ L, x.length = 8) (h : Inv L Ns i js) (hi : i ≤ L.length) : all8 (pz L Ns js) := fun p hp => by
  obtain ⟨j, hj, rfl⟩ := List.mem_map.1 hp
  obtain ⟨k, hk, rfl⟩ := List.mem_iff_getElem.1 hj
  have := h.lt k hk
  have e3 : js.getD k 0 = js[k] := by simp [List.getD_eq_getElem?_getD, hk]
  rw [e3] at this
  exact LL_8 hL (by omega)
def JJ (js : List Nat) : List D := I (js.map Int.ofNat)
theorem JJ_len {js : List Nat} : (JJ js).length = js.length := by rw [JJ, I_len, List.length_map]
theorem JJ_get {js : List Nat} {k : Nat} (h : k < js.length) : (JJ js).getD k .un = .int .i64 ((js.getD k 0 : Nat) : Int) := by
  rw [JJ, I_getD (by rw [List.length_map]; exact h)]
  simp [List.getD_eq_getElem?_getD, h]
theorem JJ_app {js : List Nat} {i : Nat} : JJ js ++ [.int .i64 (i : Int)] = JJ (js ++ [i]) := by simp [JJ, I]
theorem JJ_one {js : List Nat} : (JJ js).all D.one = true := I_one
theorem JJ_imm {js : List Nat} : (JJ js).all D.imm = true := I_imm
def NN (Ns : List ByteArray) : List D := Ns.map .str
theorem NN_len {Ns : List ByteArray} : (NN Ns).length = Ns.length := by simp [NN]
theorem NN_get {Ns : List ByteArray} {i : Nat} (h : i < Ns.length) : ((NN Ns).drop i).take 1 = [.str (Ns.getD i ByteArray.empty)] := by
  rw [NN, ← List.map_drop, ← List.map_take, List.drop_eq_getElem_cons h, List.take_succ_cons, List.take_zero, List.getD_eq_getElem?_getD, List.getElem?_eq_getElem h]
  rfl
theorem kbs_JJ {k : Nat} {js : List Nat} : kb.kbs k (JJ js) := kbs_I _
theorem strs_get {ps : PS} {k : Nat} (h : k < ps.length) : ((strs ps).drop k).take 1 = [.str (ps.getD k ([], ByteArray.empty)).2] := by
  rw [strs, ← List.map_drop, ← List.map_take, List.drop_eq_getElem_cons h, List.take_succ_cons, List.take_zero, List.getD_eq_getElem?_getD, List.getElem?_eq_getElem h]
  rfl
theorem pz_get {L : List (List Int)} {Ns : List ByteArray} {js : List Nat} {k : Nat} (h : k < js.length) : ((pz L Ns js).getD k ([], ByteArray.empty)).2 = Ns.getD (js.getD k 0) ByteArray.empty := by
  simp [pz, List.getD_eq_getElem?_getD, h]
set_option maxHeartbeats 64000000 in
theorem pcr_names_law (hG : Stable G) (hT : ∀ w, G w → Lib.TabIs Tryd.prog w "internal/strconv.uint64pow10" .u64 Lib.pow10Tab) (hM : ∀ w, G w → LibT.gMax w)
    (L : List (List Int)) (hL : ∀ x ∈ L, x.length = 8) (hlL : L.length ≤ 9223372036854775807) (Ns : List ByteArray) (hlN : Ns.length ≤ 9223372036854775807) :
    PCr Tryd.prog G 3 [.sl L.length (LL L), .sl Ns.length (NN Ns)] (.bool true) := by
  have haw := pcr_awake hG hT hM
  have hln := LL_len hL
  have hsn := NN_len (Ns := Ns)
  by_cases h20 : 20 < L.length
  · refine pcr_byq ok3 hG (n := 123) (rv := [.tmp 4]) fun r hr => ?_; unfold c3 st0
    (exact xwalkd)
  by_cases hle : Ns.length < L.length
  · refine pcr_byq ok3 hG (n := 123) (rv := [.tmp 4]) fun r hr => ?_; unfold c3 st0
    (exact xwalkd)
  refine pcr_byq ok3 hG (n := 123) (rv := [.tmp 4]) fun r hr => ?_; unfold c3 st0
  (refine xwalk ?_)
  refine xcr [0, 1] (pcg_new (G := G)) rfl (by simp) rfl trivial (by simp only [D.ren, List.getD_cons_zero, List.getD_cons_succ]; rfl) (by simp only [hN, List.map_cons, List.map_nil, renB, D.ren, rens_map, ren_kv, ren_strs, ren_I, List.getD_cons_zero, List.getD_cons_succ]; rfl) ?_
  (refine xwalk ?_)
  refine awp_loop (fun m σ => ∃ (i : Nat) (js : List Nat), i ≤ L.length ∧ m = L.length - i ∧ Inv L Ns i js ∧
      ((js = [] ∧ σ = ⟨(putE (putE (putE (putE (putE un0 (some 0) (.sl L.length (LL L))) (some 1) (.sl Ns.length (NN Ns))) (some 5) (.ptr 1 0 0)) (some 6) (.own 2 0 0 0)) (some 7) (.int .i64 (i : Int))), [some (0, 38, 0, [.mp []]), some (0, 40, 2, [.mo 0 0, .nils]), some (0, 3, 1, [])]⟩) ∨
       (js ≠ [] ∧ ∃ ver pv, σ = ⟨(putE (putE (putE (putE (putE un0 (some 0) (.sl L.length (LL L))) (some 1) (.sl Ns.length (NN Ns))) (some 5) (.ptr 1 0 0)) (some 6) (.own 2 pv 0 js.length)) (some 7) (.int .i64 (i : Int))), [some (0, 38, 0, [.mp (kv (pz L Ns js))]), some (0, 40, 2, [.mo 0 0, .own 5 ver 0 js.length]), some (pv, 3, 1, JJ js), none, none, some (ver, 9, 1, strs (pz L Ns js))]⟩))) L.length
      ((Ent.nils (s := 6) 3 1 (by simp only [go_sem, Nat.reduceEqDiff, Nat.reduceAdd, Nat.reduceLT, Nat.reduceMul, Nat.reduceLeDiff, reduceCtorEq, Int.reduceNeg, Int.reduceToNat])).trans (by simp) (Ent.env (less_put (less_put (less_put (less_put (less_put (less_un0 _) ?_) ?_) ?_) ?_) ?_))) ⟨0, [], Nat.zero_le _, rfl, Inv.nil L Ns, .inl ⟨rfl, rfl⟩⟩ ?_
  iterate 4 (· exact xlq)
  · show _ = D.int .i64 ((0 : Nat) : Int)
    exact xlq
  rintro m σ1 ⟨i, js, hi, rfl, hinv, hsh⟩
  have hjl := hinv.len
  have hjs := fun k (hk : k < js.length) => hinv.lt k hk
  rcases hsh with ⟨hje, rfl⟩ | ⟨hne, ver, pv, rfl⟩
  · by_cases hlt : i < L.length
    · have hNi := NN_get (Ns := Ns) (i := i) (by omega)
      have hLi := LL_get hL hlt
      have hv8 := LL_8 hL hlt
      have hIv : (I (L.getD i [])).length = 8 := by rw [I_len, hv8]
      have hth : thK L Ns js i 0 = decide (Ns.getD i ByteArray.empty = ⟨#[]⟩) := by simp [thK]
      have hsucc := fun k (hk : k < js.length) => thK_succ L Ns js i k hk
      have hnone := th_none (L := L) (Ns := Ns) (i := i) (js := js)
      have hsome := th_some (L := L) (Ns := Ns) hinv
      have hput := fun a b => hinv.put (L := L) (Ns := Ns) (i := i) (js := js) a b
      generalize hvv : L.getD i [] = v at *
      generalize hss : Ns.getD i ByteArray.empty = s at *
      generalize hthk : thK L Ns js i = th at *
      (have we1 := hNi; refine xwalk1 ?_)
      refine awp_loop (fun m σ => ∃ (k : Nat), k ≤ js.length ∧ m = js.length - k ∧ σ = ⟨(putE (putE (putE (putE (putE (putE (putE un0 (some 0) (.sl L.length (LL L))) (some 1) (.sl Ns.length (NN Ns))) (some 5) (.ptr 1 0 0)) (some 6) (.own 2 0 0 0)) (some 7) (.int .i64 (i : Int))) (some 8) (.bool (th k))) (some 9) (.int .i64 (k : Int))), [some (0, 38, 0, [.mp []]), some (0, 40, 2, [.mo 0 0, .nils]), some (0, 3, 1, [])]⟩) js.length
        (Ent.env (less_put (less_put (less_put (less_put (less_put (less_put (less_put (less_un0 _) ?_) ?_) ?_) ?_) ?_) ?_) ?_)) ⟨0, Nat.zero_le _, rfl, rfl⟩ ?_
      iterate 5 (· exact xlq)
      · rw [hth]; exact xlq
      · show _ = D.int .i64 ((0 : Nat) : Int)
        exact xlq
      · rintro m σ1 ⟨k, hk, rfl, rfl⟩
        by_cases hkl : k < js.length
        · rw [hje] at hkl; exact absurd hkl (Nat.not_lt_zero _)
        · obtain rfl : k = js.length := by omega
          have hjl2 := JJ_len (js := js)
          cases hthk2 : th js.length with
          | true =>
            have hsm := hsome hthk2
            (have we1 := hNi; have we2 := hLi; have we3 := hIv; have we4 := hjl2; have we5 := hthk2; refine xwalk5 ?_)
            obtain rfl : s = ⟨#[]⟩ := hsm.resolve_right (fun ⟨x, h, _⟩ => by rw [hje] at h; cases h)
            refine xcr [0, 1] (pcg_put3 (G := G) hv8) (by simp only [List.map_cons, List.map_nil, renB, D.ren, rens_map, ren_kv, ren_strs, ren_I, List.getD_cons_zero, List.getD_cons_succ]; rfl) (by simp [kb, kbs_I]) (by simp only [hv, List.map_cons, List.map_nil, renB, D.ren, rens_map, ren_kv, ren_strs, ren_I, List.getD_cons_zero, List.getD_cons_succ]; rfl) (by simp [kbH, kb.kbs, kb]) (by simp only [List.map_cons, List.map_nil, renB, D.ren, rens_map, ren_kv, ren_strs, ren_I, List.getD_cons_zero, List.getD_cons_succ]; rfl) (by simp only [List.map_cons, List.map_nil, renB, D.ren, rens_map, ren_kv, ren_strs, ren_I, List.getD_cons_zero, List.getD_cons_succ]; rfl) ?_
            (refine xwalk ?_)
            refine ⟨L.length - (i + 1), _, by omega, Ent.env (less_put (less_put (less_put (less_put (less_put (less_un0 _) ?_) ?_) ?_) ?_) ?_), i + 1, js, by omega, rfl, hinv.skip, .inl ⟨hje, rfl⟩⟩
            iterate 4 (· exact xlq)
            · simp only [go_sem, Nat.reduceEqDiff, Nat.reduceAdd, Nat.reduceLT, Nat.reduceMul, Nat.reduceLeDiff, reduceCtorEq, Int.reduceNeg, Int.reduceToNat]
          | false =>
            obtain ⟨hn1, hn2⟩ := hnone hthk2
            have hiv := hput hn1 hn2
            rw [hje] at hiv
            have hpz : pz L Ns [i] = [(v, s)] := by simp only [pz, List.map_cons, List.map_nil, hvv, hss]
            (have we1 := hNi; have we2 := hLi; have we3 := hIv; have we4 := hjl2; have we5 := hthk2; refine xwalk5 ?_)
            refine xcr [0, 1, 3, 4, 5] (pcg_put0 (G := G) hv8 hn1) (by simp only [List.map_cons, List.map_nil, renB, D.ren, rens_map, ren_kv, ren_strs, ren_I, List.getD_cons_zero, List.getD_cons_succ]; rfl) (by simp [kb, kbs_I]) (by simp only [hv, List.map_cons, List.map_nil, renB, D.ren, rens_map, ren_kv, ren_strs, ren_I, List.getD_cons_zero, List.getD_cons_succ]; rfl) (by simp [kbH, kb.kbs, kb]) (by simp only [List.map_cons, List.map_nil, renB, D.ren, rens_map, ren_kv, ren_strs, ren_I, List.getD_cons_zero, List.getD_cons_succ]; rfl) (by simp only [List.map_cons, List.map_nil, renB, D.ren, rens_map, ren_kv, ren_strs, ren_I, List.getD_cons_zero, List.getD_cons_succ]; rfl) ?_
            (have we1 := hthk2; refine xwalk1 ?_)
            refine ⟨L.length - (i + 1), ⟨(putE (putE (putE (putE (putE un0 (some 0) (.sl L.length (LL L))) (some 1) (.sl Ns.length (NN Ns))) (some 5) (.ptr 1 0 0)) (some 6) (.own 2 1 0 1)) (some 7) (.int .i64 ((i + 1 : Nat) : Int))), [some (0, 38, 0, [.mp [.agg (I v), .str s]]), some (0, 40, 2, [.mo 0 0, .own 5 0 0 1]), some (1, 3, 1, JJ [i]), none, none, some (0, 9, 1, [.str s])]⟩, by omega, (Ent.cutk 6 (less_put (less_put (less_put (less_put (less_put (less_un0 _) ?_) ?_) ?_) ?_) ?_) (by exact ⟨.inr rfl, .inr rfl, .inr rfl, .inl rfl, .inl rfl, .inr rfl, trivial⟩) (by exact kb_put (kb_put (kb_put (kb_put (kb_put (kb_un0 _) (by simp [kb])) (by simp [kb])) (by simp [kb])) (by simp [kb])) (by simp [kb])) (by simp [kbH, kb.kbs, kb, kbs_I, kbs_kv, kbs_strs, kbs_JJ])), i + 1, [i], by omega, rfl, hiv, .inr ⟨List.cons_ne_nil _ _, 0, 1, by rw [hpz]; rfl⟩⟩
            iterate 4 (· exact xlq)
            · simp only [go_sem, Nat.reduceEqDiff, Nat.reduceAdd, Nat.reduceLT, Nat.reduceMul, Nat.reduceLeDiff, reduceCtorEq, Int.reduceNeg, Int.reduceToNat]
    · obtain rfl : i = L.length := by omega
      (refine xwalk ?_)
      refine xcr [0, 1] (pcg_all0 (G := G)) (by simp only [List.map_cons, List.map_nil, renB, D.ren, rens_map, ren_kv, ren_strs, ren_I, List.getD_cons_zero, List.getD_cons_succ]; rfl) (by simp [kb]) (by simp only [hv, List.map_cons, List.map_nil, renB, D.ren, rens_map, ren_kv, ren_strs, ren_I, List.getD_cons_zero, List.getD_cons_succ]; rfl) (by simp [kbH, kb.kbs, kb]) (by simp only [List.map_cons, List.map_nil, renB, D.ren, rens_map, ren_kv, ren_strs, ren_I, List.getD_cons_zero, List.getD_cons_succ]; rfl) (by simp only [List.map_cons, List.map_nil, renB, D.ren, rens_map, ren_kv, ren_strs, ren_I, List.getD_cons_zero, List.getD_cons_succ]; rfl) ?_
      (refine xwalk ?_)
      refine awp_loop (fun m σ => m = 0 ∧ σ = ⟨(putE (putE un0 (some 6) (.own 2 0 0 0)) (some 11) (.int .i64 ((0 : Nat) : Int))), [some (0, 38, 0, [.mp []]), some (0, 40, 2, [.mo 0 0, .nils]), some (0, 3, 1, [])]⟩) 0
        (Ent.env (less_put (less_put (less_un0 _) ?_) ?_)) ⟨rfl, rfl⟩ ?_
      iterate 1 (· exact xlq)
      · show _ = D.int .i64 ((0 : Nat) : Int)
        exact xlq
      · rintro m σ1 ⟨rfl, rfl⟩
        (exact xwalkd)
  · by_cases hlt : i < L.length
    · have hNi := NN_get (Ns := Ns) (i := i) (by omega)
      have hLi := LL_get hL hlt
      have hv8 := LL_8 hL hlt
      have hIv : (I (L.getD i [])).length = 8 := by rw [I_len, hv8]
      have hth : thK L Ns js i 0 = decide (Ns.getD i ByteArray.empty = ⟨#[]⟩) := by simp [thK]
      have hsucc := fun k (hk : k < js.length) => thK_succ L Ns js i k hk
      have hnone := th_none (L := L) (Ns := Ns) (i := i) (js := js)
      have hsome := th_some (L := L) (Ns := Ns) hinv
      have hput := fun a b => hinv.put (L := L) (Ns := Ns) (i := i) (js := js) a b
      generalize hvv : L.getD i [] = v at *
      generalize hss : Ns.getD i ByteArray.empty = s at *
      generalize hthk : thK L Ns js i = th at *
      (have we1 := hNi; refine xwalk1 ?_)
      refine awp_loop (fun m σ => ∃ (k : Nat), k ≤ js.length ∧ m = js.length - k ∧ σ = ⟨(putE (putE (putE (putE (putE (putE (putE un0 (some 0) (.sl L.length (LL L))) (some 1) (.sl Ns.length (NN Ns))) (some 5) (.ptr 1 0 0)) (some 6) (.own 2 pv 0 js.length)) (some 7) (.int .i64 (i : Int))) (some 8) (.bool (th k))) (some 9) (.int .i64 (k : Int))), [some (0, 38, 0, [.mp (kv (pz L Ns js))]), some (0, 40, 2, [.mo 0 0, .own 5 ver 0 js.length]), some (pv, 3, 1, JJ js), none, none, some (ver, 9, 1, strs (pz L Ns js))]⟩) js.length
        (Ent.env (less_put (less_put (less_put (less_put (less_put (less_put (less_put (less_un0 _) ?_) ?_) ?_) ?_) ?_) ?_) ?_)) ⟨0, Nat.zero_le _, rfl, rfl⟩ ?_
      iterate 5 (· exact xlq)
      · rw [hth]; exact xlq
      · show _ = D.int .i64 ((0 : Nat) : Int)
        exact xlq
      · rintro m σ1 ⟨k, hk, rfl, rfl⟩
        by_cases hkl : k < js.length
        · have hjk := JJ_get hkl
          have hj := hjs k hkl
          have hLj := LL_get hL (i := js.getD k 0) (by omega)
          have hj8 := LL_8 hL (i := js.getD k 0) (by omega)
          have hIj : (I (L.getD (js.getD k 0) [])).length = 8 := by rw [I_len, hj8]
          have hs1 := hsucc k hkl
          generalize js.getD k 0 = j at *
          generalize L.getD j [] = vj at *
          have heq := IEq (a := vj) (b := v) (by omega)
          obtain ⟨r, hr1⟩ : ∃ r, decide (vj = v) = r := ⟨_, rfl⟩
          rw [hr1] at heq hs1
          have hjl2 := JJ_len (js := js)
          cases hthk2 : th k with
          | true =>
            rw [hthk2, Bool.true_or] at hs1
            (have we1 := hjk; have we2 := hLj; have we3 := hLi; have we4 := hIv; have we5 := hIj; have we6 := heq; have we7 := hjl2; refine xwalk7 ?_)
            refine ⟨js.length - (k + 1), _, by omega, Ent.env (less_put (less_put (less_put (less_put (less_put (less_put (less_put (less_un0 _) ?_) ?_) ?_) ?_) ?_) ?_) ?_), k + 1, by omega, rfl, rfl⟩
            iterate 5 (· exact xlq)
            · rw [hs1]; exact xlq
            · simp only [go_sem, Nat.reduceEqDiff, Nat.reduceAdd, Nat.reduceLT, Nat.reduceMul, Nat.reduceLeDiff, reduceCtorEq, Int.reduceNeg, Int.reduceToNat]
          | false =>
            rw [hthk2, Bool.false_or] at hs1
            (have we1 := hjk; have we2 := hLj; have we3 := hLi; have we4 := hIv; have we5 := hIj; have we6 := heq; have we7 := hjl2; refine xwalk7 ?_)
            refine ⟨js.length - (k + 1), _, by omega, Ent.env (less_put (less_put (less_put (less_put (less_put (less_put (less_put (less_un0 _) ?_) ?_) ?_) ?_) ?_) ?_) ?_), k + 1, by omega, rfl, rfl⟩
            iterate 5 (· exact xlq)
            · rw [hs1]; exact xlq
            · simp only [go_sem, Nat.reduceEqDiff, Nat.reduceAdd, Nat.reduceLT, Nat.reduceMul, Nat.reduceLeDiff, reduceCtorEq, Int.reduceNeg, Int.reduceToNat]
        · obtain rfl : k = js.length := by omega
          have hjl2 := JJ_len (js := js)
          cases hthk2 : th js.length with
          | true =>
            have hsm := hsome hthk2
            (have we1 := hNi; have we2 := hLi; have we3 := hIv; have we4 := hjl2; have we5 := hthk2; refine xwalk5 ?_)
            obtain ⟨x, hx⟩ : ∃ x, s = ⟨#[]⟩ ∨ (nm v (pz L Ns js) = some x ∧ x ≠ ⟨#[]⟩) := by
              rcases hsm with h | ⟨x, h⟩
              · exact ⟨s, .inl h⟩
              · exact ⟨x, .inr h⟩
            have hpg := pcg_put2 (G := G) (ver := ver) (pz_all8 hL hinv hi) (by rw [pz_len]; omega) hv8 hx
            rw [pz_len] at hpg
            refine xcr [0, 1, 5] hpg (by simp only [List.map_cons, List.map_nil, renB, D.ren, rens_map, ren_kv, ren_strs, ren_I, List.getD_cons_zero, List.getD_cons_succ]; rfl) (by simp [kb, kbs_I]) (by simp only [hv, List.map_cons, List.map_nil, renB, D.ren, rens_map, ren_kv, ren_strs, ren_I, List.getD_cons_zero, List.getD_cons_succ]; rfl) (by simp [kbH, kb.kbs, kb, kbs_kv, kbs_strs]) (by simp only [List.map_cons, List.map_nil, renB, D.ren, rens_map, ren_kv, ren_strs, ren_I, List.getD_cons_zero, List.getD_cons_succ]; rfl) (by simp only [List.map_cons, List.map_nil, renB, D.ren, rens_map, ren_kv, ren_strs, ren_I, List.getD_cons_zero, List.getD_cons_succ]; rfl) ?_
            (refine xwalk ?_)
            refine ⟨L.length - (i + 1), _, by omega, Ent.env (less_put (less_put (less_put (less_put (less_put (less_un0 _) ?_) ?_) ?_) ?_) ?_), i + 1, js, by omega, rfl, hinv.skip, .inr ⟨hne, ver, pv, rfl⟩⟩
            iterate 4 (· exact xlq)
            · simp only [go_sem, Nat.reduceEqDiff, Nat.reduceAdd, Nat.reduceLT, Nat.reduceMul, Nat.reduceLeDiff, reduceCtorEq, Int.reduceNeg, Int.reduceToNat]
          | false =>
            obtain ⟨hn1, hn2⟩ := hnone hthk2
            have hiv := hput hn1 hn2
            have hpz := pz_app L Ns js i
            rw [hvv, hss] at hpz
            have hpg := pcg_put1 (G := G) (ver := ver) (pz_all8 hL hinv hi) (by rw [pz_len]; omega) hv8 hn1 hn2
            rw [pz_len, ← hpz] at hpg
            have hjo := JJ_one (js := js)
            have hja := JJ_app (js := js) (i := i)
            (have we1 := hNi; have we2 := hLi; have we3 := hIv; have we4 := hjl2; have we5 := hthk2; refine xwalk5 ?_)
            refine xcr [0, 1, 5] hpg (by simp only [List.map_cons, List.map_nil, renB, D.ren, rens_map, ren_kv, ren_strs, ren_I, List.getD_cons_zero, List.getD_cons_succ]; rfl) (by simp [kb, kbs_I]) (by simp only [hv, List.map_cons, List.map_nil, renB, D.ren, rens_map, ren_kv, ren_strs, ren_I, List.getD_cons_zero, List.getD_cons_succ]; rfl) (by simp [kbH, kb.kbs, kb, kbs_kv, kbs_strs]) (by simp only [List.map_cons, List.map_nil, renB, D.ren, rens_map, ren_kv, ren_strs, ren_I, List.getD_cons_zero, List.getD_cons_succ]; rfl) (by simp only [List.map_cons, List.map_nil, renB, D.ren, rens_map, ren_kv, ren_strs, ren_I, List.getD_cons_zero, List.getD_cons_succ]; rfl) ?_
            (have we1 := hthk2; have we2 := hjo; have we3 := hja; have we4 := hjl2; refine xwalk4 ?_)
            refine ⟨L.length - (i + 1), ⟨(putE (putE (putE (putE (putE un0 (some 0) (.sl L.length (LL L))) (some 1) (.sl Ns.length (NN Ns))) (some 5) (.ptr 1 0 0)) (some 6) (.own 2 (pv + 1) 0 (js.length + 1))) (some 7) (.int .i64 ((i + 1 : Nat) : Int))), [some (0, 38, 0, [.mp (kv (pz L Ns (js ++ [i])))]), some (0, 40, 2, [.mo 0 0, .own 5 (ver + 1) 0 (js.length + 1)]), some (pv + 1, 3, 1, JJ (js ++ [i])), none, none, some (ver + 1, 9, 1, strs (pz L Ns (js ++ [i])))]⟩, by omega, (Ent.cutk 6 (less_put (less_put (less_put (less_put (less_put (less_un0 _) ?_) ?_) ?_) ?_) ?_) (by exact ⟨.inr rfl, .inr rfl, .inr rfl, .inr rfl, .inr rfl, .inr rfl, trivial⟩) (by exact kb_put (kb_put (kb_put (kb_put (kb_put (kb_un0 _) (by simp [kb])) (by simp [kb])) (by simp [kb])) (by simp [kb])) (by simp [kb])) (by simp [kbH, kb.kbs, kb, kbs_I, kbs_kv, kbs_strs, kbs_JJ])), i + 1, js ++ [i], by omega, rfl, hiv, .inr ⟨by simp, ver + 1, pv + 1, by rw [List.length_append, List.length_singleton]⟩⟩
            iterate 4 (· exact xlq)
            · simp only [go_sem, Nat.reduceEqDiff, Nat.reduceAdd, Nat.reduceLT, Nat.reduceMul, Nat.reduceLeDiff, reduceCtorEq, Int.reduceNeg, Int.reduceToNat]
    · obtain rfl : i = L.length := by omega
      have h8 := pz_all8 hL hinv hi
      have hpg := pcg_all1 (G := G) (ps := pz L Ns js) (ver := ver) (by rw [pz_len]; omega)
      rw [pz_len] at hpg
      have hsl := strs_len (ps := pz L Ns js)
      rw [pz_len] at hsl
      have hjl2 := JJ_len (js := js)
      (have we1 := hsl; have we2 := hjl2; refine xwalk2 ?_)
      refine xcr [0, 1, 5] hpg (by simp only [List.map_cons, List.map_nil, renB, D.ren, rens_map, ren_kv, ren_strs, ren_I, List.getD_cons_zero, List.getD_cons_succ]; rfl) (by simp [kb]) (by simp only [hv, List.map_cons, List.map_nil, renB, D.ren, rens_map, ren_kv, ren_strs, ren_I, List.getD_cons_zero, List.getD_cons_succ]; rfl) (by simp [kbH, kb.kbs, kb, kbs_kv, kbs_strs]) (by simp only [List.map_cons, List.map_nil, renB, D.ren, rens_map, ren_kv, ren_strs, ren_I, List.getD_cons_zero, List.getD_cons_succ]; rfl) (by simp only [List.map_cons, List.map_nil, renB, D.ren, rens_map, ren_kv, ren_strs, ren_I, List.getD_cons_zero, List.getD_cons_succ]; rfl) ?_
      (have we1 := hsl; have we2 := hjl2; refine xwalk2 ?_)
      refine awp_loop (fun m σ => ∃ k, k ≤ js.length ∧ m = js.length - k ∧ σ = ⟨(putE (putE (putE (putE (putE (putE un0 (some 0) (.sl L.length (LL L))) (some 1) (.sl Ns.length (NN Ns))) (some 5) (.ptr 1 0 0)) (some 6) (.own 2 pv 0 js.length)) (some 10) (.sl js.length (strs (pz L Ns js)))) (some 11) (.int .i64 (k : Int))), [some (0, 38, 0, [.mp (kv (pz L Ns js))]), some (0, 40, 2, [.mo 0 0, .own 5 ver 0 js.length]), some (pv, 3, 1, JJ js), none, none, none]⟩) js.length
        (Ent.env (less_put (less_put (less_put (less_put (less_put (less_put (less_un0 _) ?_) ?_) ?_) ?_) ?_) ?_)) ⟨0, Nat.zero_le _, rfl, rfl⟩ ?_
      iterate 5 (· exact xlq)
      · show _ = D.int .i64 ((0 : Nat) : Int)
        exact xlq
      · rintro m σ1 ⟨k, hk, rfl, rfl⟩
        by_cases hkl : k < js.length
        · have hjk := JJ_get hkl
          have hj := hjs k hkl
          have hLj := LL_get hL (i := js.getD k 0) (by omega)
          have hj8 := LL_8 hL (i := js.getD k 0) (by omega)
          have hNj := NN_get (Ns := Ns) (i := js.getD k 0) (by omega)
          have hsk := strs_get (ps := pz L Ns js) (k := k) (by rw [pz_len]; exact hkl)
          rw [pz_get hkl] at hsk
          have hget := pcg_get (G := G) (b := none) (d := .own 2 ver 0 js.length) h8 hj8 (hinv.get k hkl) (by simp [kb]) trivial
          generalize js.getD k 0 = j at *
          have hIj : (I (L.getD j [])).length = 8 := by rw [I_len, hj8]
          generalize L.getD j [] = vj at *
          generalize Ns.getD j ByteArray.empty = sj at *
          (have we1 := hjk; have we2 := hLj; have we3 := hIj; have we4 := hjl2; have we5 := hNj; have we6 := hsk; have we7 := hsl; refine xwalk7 ?_)
          refine xcr [0, 1, 5] hget (by simp only [List.map_cons, List.map_nil, renB, D.ren, rens_map, ren_kv, ren_strs, ren_I, List.getD_cons_zero, List.getD_cons_succ]; rfl) (by simp [kb, kbs_I]) (by simp only [hv, List.map_cons, List.map_nil, renB, D.ren, rens_map, ren_kv, ren_strs, ren_I, List.getD_cons_zero, List.getD_cons_succ]; rfl) (by simp [kbH, kb.kbs, kb, kbs_kv, kbs_strs]) (by simp only [List.map_cons, List.map_nil, renB, D.ren, rens_map, ren_kv, ren_strs, ren_I, List.getD_cons_zero, List.getD_cons_succ]; rfl) (by simp only [List.map_cons, List.map_nil, renB, D.ren, rens_map, ren_kv, ren_strs, ren_I, List.getD_cons_zero, List.getD_cons_succ]; rfl) ?_
          (have we1 := hjk; have we2 := hLj; have we3 := hIj; have we4 := hjl2; have we5 := hNj; have we6 := hsk; have we7 := hsl; refine xwalk7 ?_)
          refine ⟨js.length - (k + 1), _, by omega, Ent.env (less_put (less_put (less_put (less_put (less_put (less_put (less_un0 _) ?_) ?_) ?_) ?_) ?_) ?_), k + 1, by omega, rfl, rfl⟩
          iterate 5 (· exact xlq)
          · simp only [go_sem, Nat.reduceEqDiff, Nat.reduceAdd, Nat.reduceLT, Nat.reduceMul, Nat.reduceLeDiff, reduceCtorEq, Int.reduceNeg, Int.reduceToNat]
        · obtain rfl : k = js.length := by omega
          (have we1 := hjl2; exact xwalkd1)
end Go.Proofs.YtapgmfahdpopnaaDoorK.LawT8
