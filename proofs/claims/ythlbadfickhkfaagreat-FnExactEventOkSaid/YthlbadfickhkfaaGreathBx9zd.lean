/- The arithmetic of numerals among the reading laws; families of contracts out of their proofs. No condition. -/
import Derived.Test.YthlbadfickhkfaaGreathBwtzd
namespace Go.Aw
set_option linter.unusedVariables false
theorem c3x (a b c : Prop) : (a ∧ b ∧ c) = ((a ∧ b) ∧ c) := propext and_assoc.symm
attribute [go_sem] reduceIte reduceCtorEq Nat.reduceEqDiff Int.reduceToNat Nat.reduceAdd Nat.reduceLeDiff Nat.reduceMul Nat.reduceSub Nat.reduceMod Nat.reduceDiv Nat.reduceLT Nat.reduceBEq List.reduceReplicate c3x
noncomputable def n8 {P : Program} {f : FuncId} {α : Type} {args : α → List V} {pre : α → Prop} {outs : α → List (Nat × V)} {res : α → R} (k : ∀ x, pre x → A0l P f (args x) (outs x) (res x)) : List V → Option (Prop × List (Nat × V) × R) := A4k args pre outs res
noncomputable def c8 {P : Program} {f : FuncId} {α : Type} {args : α → List V} {outs : α → List (Nat × V)} {res : α → R} (k : ∀ x, A0l P f (args x) (outs x) (res x)) : List V → Option (Prop × List (Nat × V) × R) := A4k args (fun _ => True) outs res
theorem d3 {P : Program} {f : FuncId} {α : Type} {args : α → List V} {pre : α → Prop} {outs : α → List (Nat × V)} {res : α → R} (k : ∀ x, pre x → A0l P f (args x) (outs x) (res x)) (inj : ∀ x y, args x = args y → x = y) (x : α) : n8 k (args x) = some (pre x, outs x, res x) := famCt_eq inj x
theorem c4 {P : Program} {f : FuncId} {α : Type} {args : α → List V} {outs : α → List (Nat × V)} {res : α → R} (k : ∀ x, A0l P f (args x) (outs x) (res x)) (inj : ∀ x y, args x = args y → x = y) (x : α) : c8 k (args x) = some (True, outs x, res x) := famCt_eq inj x
theorem d4 {P : Program} {f : FuncId} {α : Type} {args : α → List V} {pre : α → Prop} {outs : α → List (Nat × V)} {res : α → R} (k : ∀ x, pre x → A0l P f (args x) (outs x) (res x)) : ∀ vs q o r, n8 k vs = some (q, o, r) → q → A0l P f vs o r := famCt_ok k
theorem c5 {P : Program} {f : FuncId} {α : Type} {args : α → List V} {outs : α → List (Nat × V)} {res : α → R} (k : ∀ x, A0l P f (args x) (outs x) (res x)) : ∀ vs q o r, c8 k vs = some (q, o, r) → q → A0l P f vs o r := famCt_ok fun x _ => k x
theorem b0j {P : Program} {f : FuncId} {α : Type} {args : α → List V} {outs : α → List (Nat × V)} {res : α → R} {k : ∀ x, A0l P f (args x) (outs x) (res x)} {vs : List V} (h : ∀ x, args x = vs → False) : c8 k vs = none := b9R h
end Go.Aw
