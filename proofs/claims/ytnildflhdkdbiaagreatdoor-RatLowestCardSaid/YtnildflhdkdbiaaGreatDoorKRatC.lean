/-
  Package rat: Good, Parse: what they compute.
-/
import Derived.Test.YtnildflhdkdbiaaGreatDoorKIrRat
import Derived.Test.YtnildflhdkdbiaaGreatDoorKRatB
set_option linter.all false
set_option linter.unusedVariables false
set_option linter.unusedSimpArgs false
set_option maxHeartbeats 4000000
namespace Go.Proofs.YtnildflhdkdbiaaGreatDoorK.RatT
open Go.Proofs.YtnildflhdkdbiaaGreatDoorK.AI Go.Proofs.YtnildflhdkdbiaaGreatDoorK.NatIr Go.Proofs.YtnildflhdkdbiaaGreatDoorK.Dig Go.Proofs.YtnildflhdkdbiaaGreatDoorK.NatT Go.Proofs.YtnildflhdkdbiaaGreatDoorK.NumT Go.Proofs.YtnildflhdkdbiaaGreatDoorK.LibT
set_option linter.unusedSimpArgs false
attribute [local irreducible] awp awpOps
attribute [local go_sem] getO putE_same putE_ne putE_none un0_at ini_zero ini_one ini_two ini_three ne_eq not_false_eq_true Nat.zero_ne_one Nat.one_ne_zero zero_ne_succ succ_ne_zero sym_nil sym_cons symG_call symG_op symG_skip IOp.isCall gd st_mv st_pick st_new st_box st_build st_lit st_load st_store st_faddr st_fld st_iaddrS st_iaddrA st_idxs st_bin st_beq st_neg st_not st_conv st_slcS st_slcL st_make st_app st_lenS st_lenL st_mx st_mn st_ext st_nilck pureC loadC setH hv boundO D.cells D.one D.boxable fillD putD rowD binC intBinC decT decF dec_true dec_false bne_self_eq_false beq_self_eq_true beq_true_false beq_false_true bne_iff_ne List.length_nil List.length_cons List.getD_cons_zero List.getD_cons_succ List.set_cons_zero List.set_cons_succ List.all_cons List.all_nil Bool.and_true Bool.true_and Nat.lt_irrefl Nat.sub_self Nat.zero_add Nat.add_zero Nat.mul_one Nat.lt_add_one if_true if_false List.replicate_zero List.nil_append List.cons_append List.append_nil List.map_cons List.map_nil Bool.false_eq_true or_self or_true true_or or_false false_or true_and and_true and_self Int.ofNat_zero wrap_i64 wrap_u32 wrap_u64 wrap_u8 wrap_u32_mod wrap_u64_mod Nat.zero_lt_one Int.toNat_natCast Int.sub_zero toNat_pred List.take_succ_cons List.take_zero List.drop_succ_cons List.drop_zero List.take_nil List.drop_nil Nat.le_refl List.length_singleton rvDs rvD ldD one? Option.bind_some Option.map_some resD_int resD_bool resD_str resD_sl resD_rp resD_nils resD_null resD_agg resD_tup resD_own rdOwn resD_ptr rdPtr rd_ite resL_eq go_nil go_cons D.imm resArgs shr32 shl32 Nat.zero_mul Bool.and_self Bool.and_false Bool.false_and strBin_eql strBin_neq Bool.not_true Bool.not_false i64max List.length_reverse List.length_set SS_length SS_getD SS_set SS_take SS_drop SS_imm SS_one SS_app1 W_get1 W_len1 W_getD W_set W_take W_drop W_app W_length W_imm W_one W_repl N mx_nat toNat_succ toNat_add toNat_pred2 tdiv_nn tmod_nn List.take_of_length_le cast_succ and_one or_shl32 min64 shr32b shl32b IntKind.bits
attribute [local go_sem] nl ZD
attribute [local go_sem] QD
variable {G : World → Prop} {L M X Y : Nat} {x y q : Rat} {d e : D}
/-- Whatever is handed in: an answer. -/
theorem pcr_goodX (hG : Stable G) (b : Bool) (a : List Int) (n : Nat) (hn : n = a.length) (ha : ok 4294967296 a) (hl : a.length < 100000) (c : List Int) (m : Nat) (hm : m = c.length) (hc : ok 4294967296 c) (hl2 : c.length < 100000) :
    ∃ g, PCr Tryz.prog G 57 [.agg [.bool b, .sl n (W a), .sl m (W c)]] (.bool g) := by
  have h1 := NumT.pcr_goodR hG b a n hn ha (by omega)
  have h2 := NatT.pcr_good hG c m hm (by omega)
  have hx : Nm 100000 (vl 4294967296 a) (.agg [.sl n (W a)]) := nm_in hn ha (by omega)
  have hy : Nm 100000 (vl 4294967296 c) (.agg [.sl m (W c)]) := nm_in hm hc (by omega)
  have h3 := pcr_rzero hG hy (by omega)
  generalize ((decide (a = []) || decide (a.getD (a.length - 1) 0 ≠ 0)) && !(b && decide (vl 4294967296 a = 0))) = g1 at *
  generalize (decide (c = []) || decide (c.getD (c.length - 1) 0 ≠ 0)) = g2 at *
  cases g1
  · refine ⟨false, ?_⟩
    refine pcr_by hG (fn := Tryz.f57) (n := 28) (rv := [.tmp 2]) (by kernel_rfl) ok57 (by kernel_rfl) (by decide) (by kernel_rfl) (by simp) (by kernel_rfl) (fun r hr => ?_); unfold c57 st0
    refine xctl ?_
    refine xrg ?_
    refine xctl ?_
    refine xrg ?_; (refine xcf1 ?_; refine xcf (h1) rfl ?_)
    refine xrg ?_
    refine xctl ?_
    refine xrt ?_
    exact hr.symm
  · cases g2
    · refine ⟨false, ?_⟩
      refine pcr_by hG (fn := Tryz.f57) (n := 28) (rv := [.tmp 2]) (by kernel_rfl) ok57 (by kernel_rfl) (by decide) (by kernel_rfl) (by simp) (by kernel_rfl) (fun r hr => ?_); unfold c57 st0
      refine xctl ?_
      refine xrg ?_
      refine xctl ?_
      refine xrg ?_; (refine xcf1 ?_; refine xcf (h1) rfl ?_)
      refine xrg ?_; (refine xcgf1 ?_; refine xcf (h2) rfl ?_)
      refine xrg ?_
      refine xctl ?_
      refine xrt ?_
      exact hr.symm
    · by_cases hz : vl 4294967296 c = 0
      · rw [decide_eq_true hz] at h3
        refine ⟨false, ?_⟩
        refine pcr_by hG (fn := Tryz.f57) (n := 28) (rv := [.tmp 2]) (by kernel_rfl) ok57 (by kernel_rfl) (by decide) (by kernel_rfl) (by simp) (by kernel_rfl) (fun r hr => ?_); unfold c57 st0
        refine xctl ?_
        refine xrg ?_
        refine xctl ?_
        refine xrg ?_; (refine xcf1 ?_; refine xcf (h1) rfl ?_)
        refine xrg ?_; (refine xcgf1 ?_; refine xcf (h2) rfl ?_)
        refine xrg ?_; (refine xcgf1 ?_; refine xcf (h3) rfl ?_)
        refine xrg ?_
        refine xctl ?_
        refine xrt ?_
        exact hr.symm
      · rw [decide_eq_false hz] at h3
        have h4 := pcr_gcdN hG hx hy (by omega) (by omega)
        have h5 := pcr_one hG
        have h6 := pcr_cmpN hG (nm_le (Y := vl 4294967296 c) (X := Nat.gcd (vl 4294967296 a) (vl 4294967296 c)) hy (Nat.gcd_le_right _ (by omega))) nm1 (by omega) (by omega)
        refine ⟨decide (cmpN (Nat.gcd (vl 4294967296 a) (vl 4294967296 c)) 1 = 0), ?_⟩
        refine pcr_by hG (fn := Tryz.f57) (n := 28) (rv := [.tmp 2]) (by kernel_rfl) ok57 (by kernel_rfl) (by decide) (by kernel_rfl) (by simp) (by kernel_rfl) (fun r hr => ?_); unfold c57 st0
        refine xctl ?_
        refine xrg ?_
        refine xctl ?_
        refine xrg ?_; (refine xcf1 ?_; refine xcf (h1) rfl ?_)
        refine xrg ?_; (refine xcgf1 ?_; refine xcf (h2) rfl ?_)
        refine xrg ?_; (refine xcgf1 ?_; refine xcf (h3) rfl ?_)
        refine xrg ?_; (refine xcga1 ?_; refine xca (h4) ?_)
        refine xrg ?_; (refine xcga1 ?_; refine xca (h5) ?_)
        refine xrg ?_; (refine xcgf1 ?_; refine xcf (h6) rfl ?_)
        refine xrg ?_
        refine xctl ?_
        refine xrt ?_
        exact hr.symm
theorem mk_one (z : Int) : mkRat z 1 = (z : Rat) := by
  apply Rat.ext
  · rw [Rat.num_mkRat]; simp
  · rw [Rat.den_mkRat]; simp
theorem cmpN_self (X : Nat) : cmpN X X = 0 := by unfold cmpN; rw [if_neg (Nat.lt_irrefl _), if_pos rfl]
theorem pcr_good (hG : Stable G) (hx : Qm L x d) (h : L < 100000) : PCr Tryz.prog G 57 [QD x] (.bool true) := by
  have h1 := NumT.pcr_good hG (z := x.num) hx.lt.1 (by omega)
  have h2 := NatT.pcr_goodN hG hx.lt.2 (by omega)
  have h3 := pcr_rzero hG (nm_den hx) (by omega)
  rw [decide_eq_false x.den_nz] at h3
  have h4 := pcr_gcdN hG (nm_N hx.lt.1) (nm_den hx) (by omega) (by omega)
  have h5 := pcr_one hG
  have h6 := pcr_cmpN hG nm1 nm1 (by omega) (by omega)
  rw [show Nat.gcd x.num.natAbs x.den = 1 from x.reduced] at h4
  rw [cmpN_self] at h6
  refine pcr_by hG (fn := Tryz.f57) (n := 28) (rv := [.tmp 2]) (by kernel_rfl) ok57 (by kernel_rfl) (by decide) (by kernel_rfl) (by simp) (by kernel_rfl) (fun r hr => ?_); unfold c57 st0
  refine xctl ?_
  refine xrg ?_
  refine xctl ?_
  refine xrg ?_; (refine xcf1 ?_; refine xcf (h1) rfl ?_)
  refine xrg ?_; (refine xcgf1 ?_; refine xcf (h2) rfl ?_)
  refine xrg ?_; (refine xcgf1 ?_; refine xcf (h3) rfl ?_)
  refine xrg ?_; (refine xcga1 ?_; refine xca (h4) ?_)
  refine xrg ?_; (refine xcga1 ?_; refine xca (h5) ?_)
  refine xrg ?_; (refine xcgf1 ?_; refine xcf (h6) rfl ?_)
  refine xrg ?_
  refine xctl ?_
  refine xrt ?_
  exact hr.symm
/-- What a text tells, if anything. -/
def pQ (l : List UInt8) : Option Rat := match pZ (cut1 47 l).1 with
  | none => none
  | some z => if (cut1 47 l).2.2 = true then (if (cut1 47 l).2.1 ≠ [] ∧ (cut1 47 l).2.1.all isD = true ∧ decV (cut1 47 l).2.1 ≠ 0 then some (mkRat z (decV (cut1 47 l).2.1)) else none) else some z
def qR : Option Rat → D
  | some r => .tup [QD r, .bool true]
  | none => .tup [QD 0, .bool false]
theorem pZ_lt {l : List UInt8} {z : Int} (h : pZ l = some z) : z.natAbs < 4294967296 ^ l.length := by
  unfold pZ at h
  split at h
  · rename_i hc
    cases h
    rw [sg_abs]
    have h1 := decV_lt _ (List.all_eq_true.1 hc.2)
    have h2 := trim_le l [45]
    exact Nat.lt_of_lt_of_le h1 (Nat.le_trans (Nat.pow_le_pow_left (by decide) _) (Nat.pow_le_pow_right (by omega) h2))
  · cases h
theorem dV_lt {l : List UInt8} (h : l.all isD = true) : decV l < 4294967296 ^ l.length := Nat.lt_of_lt_of_le (decV_lt _ (List.all_eq_true.1 h)) (Nat.pow_le_pow_left (by decide) _)
set_option maxHeartbeats 4000000 in
theorem pcr_parse (hG : Stable G) (hM : ∀ w, G w → gMax w) (s : ByteArray) (hs : s.size < 100000) : PCr Tryz.prog G 68 [.str s] (qR (pQ s.data.toList)) := by
  have hcu := lib_cut hM s ⟨#[47]⟩ (by omega)
  rw [show (⟨#[47]⟩ : ByteArray).data.toList = [47] from rfl, cut_cut1] at hcu
  have hcl := cut1_len 47 s.data.toList
  have hbl := ba_len s
  have hone := pcr_one hG
  have hnone := pcr_none hG
  unfold pQ
  generalize (cut1 47 s.data.toList).1 = u at *
  generalize (cut1 47 s.data.toList).2.1 = v at *
  generalize (cut1 47 s.data.toList).2.2 = two at *
  have hus := ba_size u
  have hvs := ba_size v
  have hpu := NumT.pcr_parse hG ⟨u.toArray⟩ (by omega)
  rw [show (⟨u.toArray⟩ : ByteArray).data.toList = u from rfl] at hpu
  cases hz : pZ u with
  | none =>
    rw [hz, zR, ZD_zero] at hpu
    cases two
    · refine pcr_by hG (fn := Tryz.f68) (n := 39) (rv := [.cell 2 true 3, .tmp 3]) (by kernel_rfl) ok68 (by kernel_rfl) (by decide) (by kernel_rfl) (by simp) (by kernel_rfl) (fun r hr => ?_); unfold c68 st0
      refine xctl ?_
      refine xrg ?_
      refine xctl ?_
      refine xrg ?_; (refine xca1 ?_; refine xca (hcu) ?_)
      refine xrg ?_
      refine xctl ?_
      refine xrg ?_; (refine xca1 ?_; refine xca (hpu) ?_)
      refine xrg ?_
      refine xctl ?_
      refine xrg ?_; (refine xca1 ?_; refine xca (hone) ?_)
      refine xrg ?_
      refine xctl ?_
      refine xrg ?_
      refine xctl ?_
      refine xcF ?_
      refine xctl ?_
      refine xrg ?_
      refine xctl ?_
      refine xct ?_
      refine xctl ?_
      refine xrg ?_; (refine xca1 ?_; refine xca (hnone) ?_)
      refine xrg ?_
      refine xctl ?_
      refine xrt ?_
      exact hr.symm
    · refine pcr_by hG (fn := Tryz.f68) (n := 39) (rv := [.cell 2 true 3, .tmp 3]) (by kernel_rfl) ok68 (by kernel_rfl) (by decide) (by kernel_rfl) (by simp) (by kernel_rfl) (fun r hr => ?_); unfold c68 st0
      refine xctl ?_
      refine xrg ?_
      refine xctl ?_
      refine xrg ?_; (refine xca1 ?_; refine xca (hcu) ?_)
      refine xrg ?_
      refine xctl ?_
      refine xrg ?_; (refine xca1 ?_; refine xca (hpu) ?_)
      refine xrg ?_
      refine xctl ?_
      refine xrg ?_; (refine xca1 ?_; refine xca (hone) ?_)
      refine xrg ?_
      refine xctl ?_
      refine xrg ?_
      refine xctl ?_
      refine xcF ?_
      refine xctl ?_
      refine xrg ?_
      refine xctl ?_
      refine xct ?_
      refine xctl ?_
      refine xrg ?_; (refine xca1 ?_; refine xca (hnone) ?_)
      refine xrg ?_
      refine xctl ?_
      refine xrt ?_
      exact hr.symm
  | some z =>
    rw [hz, zR] at hpu
    have hzl := pZ_lt hz
    have hzm : Nm u.length z.natAbs (.agg [nl z.natAbs]) := nm_N hzl
    cases two
    · have hof := pcr_of hG (b := ng z) hzm nm1 (by omega) (by omega) (by omega)
      rw [sg_self, mk_one] at hof
      simp only [Bool.false_eq_true, if_false, qR]
      refine pcr_by hG (fn := Tryz.f68) (n := 39) (rv := [.cell 2 true 3, .tmp 3]) (by kernel_rfl) ok68 (by kernel_rfl) (by decide) (by kernel_rfl) (by simp) (by kernel_rfl) (fun r hr => ?_); unfold c68 st0
      refine xctl ?_
      refine xrg ?_
      refine xctl ?_
      refine xrg ?_; (refine xca1 ?_; refine xca (hcu) ?_)
      refine xrg ?_
      refine xctl ?_
      refine xrg ?_; (refine xca1 ?_; refine xca (hpu) ?_)
      refine xrg ?_
      refine xctl ?_
      refine xrg ?_; (refine xca1 ?_; refine xca (hone) ?_)
      refine xrg ?_
      refine xctl ?_
      refine xrg ?_
      refine xctl ?_
      refine xcF ?_
      refine xctl ?_
      refine xrg ?_
      refine xctl ?_
      refine xcF ?_
      refine xctl ?_
      refine xrg ?_; (refine xca1 ?_; refine xca (hof) ?_)
      refine xrg ?_
      refine xctl ?_
      refine xrt ?_
      exact hr.symm
    · simp only [if_true]
      by_cases hv : v ≠ [] ∧ v.all isD = true
      · have hpv := NatT.pcr_parse hG ⟨v.toArray⟩ (by omega) (by rw [hvs]; exact fun h => hv.1 (List.eq_nil_of_length_eq_zero h)) hv.2
        rw [show (⟨v.toArray⟩ : ByteArray).data.toList = v from rfl] at hpv
        have hvm : Nm v.length (decV v) (.agg [nl (decV v)]) := nm_N (dV_lt hv.2)
        by_cases h0 : decV v = 0
        · rw [if_neg (fun h => h.2.2 h0), qR]
          rw [h0] at hvm hpv
          have hof := pcr_of0 hG (b := ng z) hzm hvm (by omega) (by omega)
          refine pcr_by hG (fn := Tryz.f68) (n := 39) (rv := [.cell 2 true 3, .tmp 3]) (by kernel_rfl) ok68 (by kernel_rfl) (by decide) (by kernel_rfl) (by simp) (by kernel_rfl) (fun r hr => ?_); unfold c68 st0
          refine xctl ?_
          refine xrg ?_
          refine xctl ?_
          refine xrg ?_; (refine xca1 ?_; refine xca (hcu) ?_)
          refine xrg ?_
          refine xctl ?_
          refine xrg ?_; (refine xca1 ?_; refine xca (hpu) ?_)
          refine xrg ?_
          refine xctl ?_
          refine xrg ?_; (refine xca1 ?_; refine xca (hone) ?_)
          refine xrg ?_
          refine xctl ?_
          refine xrg ?_
          refine xctl ?_
          refine xct ?_
          refine xctl ?_
          refine xrg ?_; (refine xca1 ?_; refine xca (hpv) ?_)
          refine xrg ?_
          refine xctl ?_
          refine xrg ?_
          refine xctl ?_
          refine xcF ?_
          refine xctl ?_
          refine xrg ?_; (refine xca1 ?_; refine xca (hof) ?_)
          refine xrg ?_
          refine xctl ?_
          refine xrt ?_
          exact hr.symm
        · rw [if_pos ⟨hv.1, hv.2, h0⟩, qR]
          have hof := pcr_of hG (b := ng z) hzm hvm h0 (by omega) (by omega)
          rw [sg_self] at hof
          generalize decV v = V at *
          refine pcr_by hG (fn := Tryz.f68) (n := 39) (rv := [.cell 2 true 3, .tmp 3]) (by kernel_rfl) ok68 (by kernel_rfl) (by decide) (by kernel_rfl) (by simp) (by kernel_rfl) (fun r hr => ?_); unfold c68 st0
          refine xctl ?_
          refine xrg ?_
          refine xctl ?_
          refine xrg ?_; (refine xca1 ?_; refine xca (hcu) ?_)
          refine xrg ?_
          refine xctl ?_
          refine xrg ?_; (refine xca1 ?_; refine xca (hpu) ?_)
          refine xrg ?_
          refine xctl ?_
          refine xrg ?_; (refine xca1 ?_; refine xca (hone) ?_)
          refine xrg ?_
          refine xctl ?_
          refine xrg ?_
          refine xctl ?_
          refine xct ?_
          refine xctl ?_
          refine xrg ?_; (refine xca1 ?_; refine xca (hpv) ?_)
          refine xrg ?_
          refine xctl ?_
          refine xrg ?_
          refine xctl ?_
          refine xcF ?_
          refine xctl ?_
          refine xrg ?_; (refine xca1 ?_; refine xca (hof) ?_)
          refine xrg ?_
          refine xctl ?_
          refine xrt ?_
          exact hr.symm
      · have hpv := NatT.pcr_parse_not hG ⟨v.toArray⟩ (by omega) (by
          by_cases h0 : v = []
          · subst h0; exact .inl rfl
          · right
            have : ¬ v.all isD = true := fun h => hv ⟨h0, h⟩
            exact Bool.eq_false_iff.2 this)
        rw [if_neg (fun h => hv ⟨h.1, h.2.1⟩), qR]
        refine pcr_by hG (fn := Tryz.f68) (n := 39) (rv := [.cell 2 true 3, .tmp 3]) (by kernel_rfl) ok68 (by kernel_rfl) (by decide) (by kernel_rfl) (by simp) (by kernel_rfl) (fun r hr => ?_); unfold c68 st0
        refine xctl ?_
        refine xrg ?_
        refine xctl ?_
        refine xrg ?_; (refine xca1 ?_; refine xca (hcu) ?_)
        refine xrg ?_
        refine xctl ?_
        refine xrg ?_; (refine xca1 ?_; refine xca (hpu) ?_)
        refine xrg ?_
        refine xctl ?_
        refine xrg ?_; (refine xca1 ?_; refine xca (hone) ?_)
        refine xrg ?_
        refine xctl ?_
        refine xrg ?_
        refine xctl ?_
        refine xct ?_
        refine xctl ?_
        refine xrg ?_; (refine xca1 ?_; refine xca (hpv) ?_)
        refine xrg ?_
        refine xctl ?_
        refine xrg ?_
        refine xctl ?_
        refine xct ?_
        refine xctl ?_
        refine xrg ?_; (refine xca1 ?_; refine xca (hnone) ?_)
        refine xrg ?_
        refine xctl ?_
        refine xrt ?_
        exact hr.symm
theorem zT_no (z : Int) : 47 ∉ zT z := by
  intro h
  have hd : ∀ X, (47 : UInt8) ∉ Lib.decDigits X := fun X h => absurd (dec_isD X _ h) (by decide)
  unfold zT at h
  split at h
  · rcases List.mem_cons.1 h with h | h
    · exact absurd h (by decide)
    · exact hd _ h
  · exact hd _ h
theorem pQ_qT (q : Rat) : pQ (qT q) = some q := by
  unfold qT
  split
  · rename_i h
    rw [pQ, cut1_none 47 _ (zT_no _), pZ_zT]
    simp only [Bool.false_eq_true, if_false, Option.some.injEq]
    exact Rat.ext rfl h.symm
  · rw [pQ, cut1_at 47 _ _ (zT_no _), pZ_zT]
    simp only [if_true]
    rw [if_pos ⟨dec_ne _, dec_all _, by rw [dec_val]; exact q.den_nz⟩, dec_val, Rat.mkRat_self]
theorem qT_len (hx : Qm L x d) : (qT x).length ≤ 20 * L + 4 := by
  have h1 := zT_len (zm_num hx)
  have h2 := nm_dlen (nm_den hx)
  unfold qT
  split
  · omega
  · rw [List.length_append, List.length_cons]; omega
theorem pcr_parse_qT (hG : Stable G) (hM : ∀ w, G w → gMax w) (hx : Qm L x d) (h : L < 4000) : PCr Tryz.prog G 68 [.str ⟨(qT x).toArray⟩] (.tup [QD x, .bool true]) := by
  have hl := qT_len hx
  have h1 := pcr_parse hG hM ⟨(qT x).toArray⟩ (by rw [ba_size]; omega)
  rwa [show (⟨(qT x).toArray⟩ : ByteArray).data.toList = qT x from rfl, pQ_qT] at h1
end Go.Proofs.YtnildflhdkdbiaaGreatDoorK.RatT
