/- Variables of terms, texts in order. No condition. -/
import Derived.Test.YthlbadfickhkfaaGreatzfG8
import Derived.Test.YthlbadfickhkfaaGreatzfS1
import Derived.Test.YthlbadfickhkfaaGreathBwtzf
namespace Go.Aw
open Go.Proofs
attribute [local irreducible] aft blk lpK retK AW A0l
set_option linter.unusedVariables false
set_option linter.unusedSimpArgs false
set_option maxRecDepth 100000
abbrev sLt : List UInt8 → List UInt8 → Bool := Op.bytesLess
theorem put_len {α : Type} [DecidableEq α] (lt : α → α → Bool) (l : List α) (s : α) : (b3F lt l s).length ≤ l.length + 1 := by
 unfold b3F
 split
 ·omega
 ·have e := congrArg List.length (List.takeWhile_append_dropWhile (p := fun x => !lt s x) (l := l))
  simp only [List.length_append] at e
  simp only [List.length_append, List.length_cons]
  omega
theorem c0i {α : Type} [DecidableEq α] (lt : α → α → Bool) : ∀ (r l : List α), (a4K lt l r).length ≤ l.length + r.length := by
 intro r
 induction r with
 | nil => intro l; exact Nat.le_refl _
 | cons a r ih =>
   intro l
   have := ih (b3F lt l a)
   have := put_len lt l a
   simp only [a4K, List.foldl_cons, List.length_cons] at *
   omega
def b1B (t : c4) : Bool := !(t.Var == [])
def b5N (l : List c4) : List (List UInt8) := (l.filter b1B).map c4.Var
end Go.Aw
