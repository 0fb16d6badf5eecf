/-
  Atoms, as abstract data.
-/
import Derived.Test.YtgimaioeifnajaaGreatDoorKAc
set_option linter.all false
set_option maxHeartbeats 4000000
namespace Go.Proofs.YtgimaioeifnajaaGreatDoorK.TabT
open AI
structure At where
  pre : ByteArray
  name : ByteArray
  pw : Int
def At.D (a : At) : D := .agg [.str a.pre, .str a.name, .int .i64 a.pw]
def atsC (l : List At) : List D := l.flatMap fun a => [.str a.pre, .str a.name, .int .i64 a.pw]
theorem atsC_len (l : List At) : (atsC l).length = l.length * 3 := by
  induction l with
  | nil => rfl
  | cons a l ih =>
    show (atsC l).length + 1 + 1 + 1 = _
    rw [ih, List.length_cons]; omega
theorem atsC_app (l m : List At) : atsC (l ++ m) = atsC l ++ atsC m := by simp [atsC]
theorem atsC_one (l : List At) : (atsC l).all D.one = true := by
  induction l with
  | nil => rfl
  | cons a l ih =>
    show (D.one (.str a.pre) && (D.one (.str a.name) && (D.one (.int .i64 a.pw) && (atsC l).all D.one))) = true
    rw [ih]; rfl
theorem atsC_imm (l : List At) : (atsC l).all D.imm = true := by
  induction l with
  | nil => rfl
  | cons a l ih =>
    show (D.imm (.str a.pre) && (D.imm (.str a.name) && (D.imm (.int .i64 a.pw) && (atsC l).all D.imm))) = true
    rw [ih]; rfl
theorem atsC_get : ∀ {l : List At} {i : Nat} (h : i < l.length), ((atsC l).drop (i * 3)).take 3 = [.str l[i].pre, .str l[i].name, .int .i64 l[i].pw]
  | a :: l, 0, h => rfl
  | a :: l, i + 1, h => by
    have := atsC_get (l := l) (i := i) (by simpa using h)
    rw [show (i + 1) * 3 = i * 3 + 3 by omega]
    exact this
end Go.Proofs.YtgimaioeifnajaaGreatDoorK.TabT
