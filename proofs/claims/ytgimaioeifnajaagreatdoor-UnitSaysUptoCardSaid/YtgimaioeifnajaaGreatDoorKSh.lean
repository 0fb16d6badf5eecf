/-
  Short words for operations that are often met.
-/
import Derived.Test.YtgimaioeifnajaaGreatDoorKAb
set_option linter.all false
set_option maxHeartbeats 4000000
namespace Go.Proofs.YtgimaioeifnajaaGreatDoorK.NatIr
open AI
abbrev xm (d x : Nat) : IOper := ⟨some d, .mv (.t x), none⟩
abbrev xmg (d x g : Nat) (b : Bool) : IOper := ⟨some d, .mv (.t x), some (some g, b)⟩
abbrev xk (d : Nat) (n : Int) : IOper := ⟨some d, .mv (.c (.int .i64 n)), none⟩
abbrev xkb (d : Nat) (b : Bool) : IOper := ⟨some d, .mv (.c (.bool b)), none⟩
abbrev xl (d x : Nat) : IOper := ⟨some d, .load false 1 (.t x), none⟩
abbrev xlg (d x g : Nat) (b : Bool) : IOper := ⟨some d, .load false 1 (.t x), some (some g, b)⟩
abbrev xg (d s x : Nat) : IOper := ⟨some d, .load true s (.t x), none⟩
abbrev xf (d o x : Nat) : IOper := ⟨some d, .faddr o (.t x), none⟩
abbrev xfg (d o x g : Nat) (b : Bool) : IOper := ⟨some d, .faddr o (.t x), some (some g, b)⟩
abbrev xe (d x i : Nat) : IOper := ⟨some d, .ext (.t x) i, none⟩
abbrev xs (s x y : Nat) : IOper := ⟨none, .store s (.t x) (.t y), none⟩
abbrev xn (d x : Nat) : IOper := ⟨some d, .not (.t x), none⟩
abbrev xng (d x g : Nat) (b : Bool) : IOper := ⟨some d, .not (.t x), some (some g, b)⟩
abbrev xS (d x : Nat) : IOper := ⟨some d, .lenS (.t x), none⟩
abbrev xL (d x : Nat) : IOper := ⟨some d, .lenL (.t x), none⟩
abbrev xi (d s x i : Nat) : IOper := ⟨some d, .iaddrS s (.t x) (.t i), none⟩
abbrev xb (d : Nat) (op : BinOp) (x y : Nat) : IOper := ⟨some d, .bin op (.t x) (.t y), none⟩
abbrev xbk (d : Nat) (op : BinOp) (x : Nat) (n : Int) : IOper := ⟨some d, .bin op (.t x) (.c (.int .i64 n)), none⟩
abbrev xbg (d : Nat) (op : BinOp) (x : Nat) (n : Int) (g : Nat) (b : Bool) : IOper := ⟨some d, .bin op (.t x) (.c (.int .i64 n)), some (some g, b)⟩
abbrev xc0 (d f : Nat) : IOper := ⟨some d, .call f [], none⟩
abbrev xc1 (d f x : Nat) : IOper := ⟨some d, .call f [.t x], none⟩
abbrev xc2 (d f x y : Nat) : IOper := ⟨some d, .call f [.t x, .t y], none⟩
abbrev xc3 (d f x y z : Nat) : IOper := ⟨some d, .call f [.t x, .t y, .t z], none⟩
abbrev xp (d c x : Nat) (b : Bool) : IOper := ⟨some d, .pick (.t c) (.t x) (.c (.bool b)), none⟩
abbrev xpb (d c : Nat) (b : Bool) (x : Nat) : IOper := ⟨some d, .pick (.t c) (.c (.bool b)) (.t x), none⟩
abbrev xr (l : List IOper) (b : IR) : IR := .seq (.reg false l []) b
abbrev xR (l : List IOper) : IR := .reg false l []
abbrev xd (c : Nat) (a b : IR) : IR := .cond (.t c) a b
end Go.Proofs.YtgimaioeifnajaaGreatDoorK.NatIr
