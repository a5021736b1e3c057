/- The arithmetic of numerals among the reading laws; families of contracts out of their proofs. No condition. -/
import Derived.Test.YthlbadfickhkfaaGreathBwtzg
namespace Go.Aw
set_option linter.unusedVariables false
theorem c8d (a b c : Prop) : (a ∧ b ∧ c) = ((a ∧ b) ∧ c) := propext and_assoc.symm
attribute [go_sem] reduceIte reduceCtorEq Nat.reduceEqDiff Int.reduceToNat Nat.reduceAdd Nat.reduceLeDiff Nat.reduceMul Nat.reduceSub Nat.reduceMod Nat.reduceDiv Nat.reduceLT Nat.reduceBEq List.reduceReplicate c8d
noncomputable def o6 {P : Program} {f : FuncId} {α : Type} {args : α → List V} {pre : α → Prop} {outs : α → List (Nat × V)} {res : α → R} (k : ∀ x, pre x → A0l P f (args x) (outs x) (res x)) : List V → Option (Prop × List (Nat × V) × R) := A4k args pre outs res
noncomputable def i5 {P : Program} {f : FuncId} {α : Type} {args : α → List V} {outs : α → List (Nat × V)} {res : α → R} (k : ∀ x, A0l P f (args x) (outs x) (res x)) : List V → Option (Prop × List (Nat × V) × R) := A4k args (fun _ => True) outs res
theorem i6 {P : Program} {f : FuncId} {α : Type} {args : α → List V} {pre : α → Prop} {outs : α → List (Nat × V)} {res : α → R} (k : ∀ x, pre x → A0l P f (args x) (outs x) (res x)) (inj : ∀ x y, args x = args y → x = y) (x : α) : o6 k (args x) = some (pre x, outs x, res x) := famCt_eq inj x
theorem f7 {P : Program} {f : FuncId} {α : Type} {args : α → List V} {outs : α → List (Nat × V)} {res : α → R} (k : ∀ x, A0l P f (args x) (outs x) (res x)) (inj : ∀ x y, args x = args y → x = y) (x : α) : i5 k (args x) = some (True, outs x, res x) := famCt_eq inj x
theorem i7 {P : Program} {f : FuncId} {α : Type} {args : α → List V} {pre : α → Prop} {outs : α → List (Nat × V)} {res : α → R} (k : ∀ x, pre x → A0l P f (args x) (outs x) (res x)) : ∀ vs q o r, o6 k vs = some (q, o, r) → q → A0l P f vs o r := famCt_ok k
theorem f8 {P : Program} {f : FuncId} {α : Type} {args : α → List V} {outs : α → List (Nat × V)} {res : α → R} (k : ∀ x, A0l P f (args x) (outs x) (res x)) : ∀ vs q o r, i5 k vs = some (q, o, r) → q → A0l P f vs o r := famCt_ok fun x _ => k x
theorem b2M {P : Program} {f : FuncId} {α : Type} {args : α → List V} {outs : α → List (Nat × V)} {res : α → R} {k : ∀ x, A0l P f (args x) (outs x) (res x)} {vs : List V} (h : ∀ x, args x = vs → False) : i5 k vs = none := c3W h
end Go.Aw
