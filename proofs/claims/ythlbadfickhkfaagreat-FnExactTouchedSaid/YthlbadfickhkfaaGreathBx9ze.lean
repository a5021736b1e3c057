/- The arithmetic of numerals among the reading laws; families of contracts out of their proofs. No condition. -/
import Derived.Test.YthlbadfickhkfaaGreathBwtze
namespace Go.Aw
set_option linter.unusedVariables false
theorem c4t (a b c : Prop) : (a ∧ b ∧ c) = ((a ∧ b) ∧ c) := propext and_assoc.symm
attribute [go_sem] reduceIte reduceCtorEq Nat.reduceEqDiff Int.reduceToNat Nat.reduceAdd Nat.reduceLeDiff Nat.reduceMul Nat.reduceSub Nat.reduceMod Nat.reduceDiv Nat.reduceLT Nat.reduceBEq List.reduceReplicate c4t
noncomputable def l9 {P : Program} {f : FuncId} {α : Type} {args : α → List V} {pre : α → Prop} {outs : α → List (Nat × V)} {res : α → R} (k : ∀ x, pre x → A0n P f (args x) (outs x) (res x)) : List V → Option (Prop × List (Nat × V) × R) := A4m args pre outs res
noncomputable def d7 {P : Program} {f : FuncId} {α : Type} {args : α → List V} {outs : α → List (Nat × V)} {res : α → R} (k : ∀ x, A0n P f (args x) (outs x) (res x)) : List V → Option (Prop × List (Nat × V) × R) := A4m args (fun _ => True) outs res
theorem d5 {P : Program} {f : FuncId} {α : Type} {args : α → List V} {pre : α → Prop} {outs : α → List (Nat × V)} {res : α → R} (k : ∀ x, pre x → A0n P f (args x) (outs x) (res x)) (inj : ∀ x y, args x = args y → x = y) (x : α) : l9 k (args x) = some (pre x, outs x, res x) := famCt_eq inj x
theorem c4 {P : Program} {f : FuncId} {α : Type} {args : α → List V} {outs : α → List (Nat × V)} {res : α → R} (k : ∀ x, A0n P f (args x) (outs x) (res x)) (inj : ∀ x y, args x = args y → x = y) (x : α) : d7 k (args x) = some (True, outs x, res x) := famCt_eq inj x
theorem d6 {P : Program} {f : FuncId} {α : Type} {args : α → List V} {pre : α → Prop} {outs : α → List (Nat × V)} {res : α → R} (k : ∀ x, pre x → A0n P f (args x) (outs x) (res x)) : ∀ vs q o r, l9 k vs = some (q, o, r) → q → A0n P f vs o r := famCt_ok k
theorem c5 {P : Program} {f : FuncId} {α : Type} {args : α → List V} {outs : α → List (Nat × V)} {res : α → R} (k : ∀ x, A0n P f (args x) (outs x) (res x)) : ∀ vs q o r, d7 k vs = some (q, o, r) → q → A0n P f vs o r := famCt_ok fun x _ => k x
theorem b1a {P : Program} {f : FuncId} {α : Type} {args : α → List V} {outs : α → List (Nat × V)} {res : α → R} {k : ∀ x, A0n P f (args x) (outs x) (res x)} {vs : List V} (h : ∀ x, args x = vs → False) : d7 k vs = none := c0N h
end Go.Aw
