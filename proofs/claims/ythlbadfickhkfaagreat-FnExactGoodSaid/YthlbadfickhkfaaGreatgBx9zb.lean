/- The arithmetic of numerals among the reading laws; families of contracts out of their proofs. No condition. -/
import Derived.Test.YthlbadfickhkfaaGreatgBwtzb
namespace Go.Aw
set_option linter.unusedVariables false
theorem and_left (a b c : Prop) : (a ∧ b ∧ c) = ((a ∧ b) ∧ c) := propext and_assoc.symm
attribute [go_sem] reduceIte reduceCtorEq Nat.reduceEqDiff Int.reduceToNat Nat.reduceAdd Nat.reduceLeDiff Nat.reduceMul Nat.reduceSub Nat.reduceMod Nat.reduceDiv Nat.reduceLT Nat.reduceBEq List.reduceReplicate and_left
noncomputable def famP {P : Program} {f : FuncId} {α : Type} {args : α → List V} {pre : α → Prop} {outs : α → List (Nat × V)} {res : α → R} (k : ∀ x, pre x → SpecO P f (args x) (outs x) (res x)) : List V → Option (Prop × List (Nat × V) × R) := famCt args pre outs res
noncomputable def famQ {P : Program} {f : FuncId} {α : Type} {args : α → List V} {outs : α → List (Nat × V)} {res : α → R} (k : ∀ x, SpecO P f (args x) (outs x) (res x)) : List V → Option (Prop × List (Nat × V) × R) := famCt args (fun _ => True) outs res
theorem famP_eq {P : Program} {f : FuncId} {α : Type} {args : α → List V} {pre : α → Prop} {outs : α → List (Nat × V)} {res : α → R} (k : ∀ x, pre x → SpecO P f (args x) (outs x) (res x)) (inj : ∀ x y, args x = args y → x = y) (x : α) : famP k (args x) = some (pre x, outs x, res x) := famCt_eq inj x
theorem famQ_eq {P : Program} {f : FuncId} {α : Type} {args : α → List V} {outs : α → List (Nat × V)} {res : α → R} (k : ∀ x, SpecO P f (args x) (outs x) (res x)) (inj : ∀ x y, args x = args y → x = y) (x : α) : famQ k (args x) = some (True, outs x, res x) := famCt_eq inj x
theorem famP_ok {P : Program} {f : FuncId} {α : Type} {args : α → List V} {pre : α → Prop} {outs : α → List (Nat × V)} {res : α → R} (k : ∀ x, pre x → SpecO P f (args x) (outs x) (res x)) : ∀ vs q o r, famP k vs = some (q, o, r) → q → SpecO P f vs o r := famCt_ok k
theorem famQ_ok {P : Program} {f : FuncId} {α : Type} {args : α → List V} {outs : α → List (Nat × V)} {res : α → R} (k : ∀ x, SpecO P f (args x) (outs x) (res x)) : ∀ vs q o r, famQ k vs = some (q, o, r) → q → SpecO P f vs o r := famCt_ok fun x _ => k x
theorem famP_none {P : Program} {f : FuncId} {α : Type} {args : α → List V} {pre : α → Prop} {outs : α → List (Nat × V)} {res : α → R} {k : ∀ x, pre x → SpecO P f (args x) (outs x) (res x)} {vs : List V} (h : ∀ x, args x = vs → False) : famP k vs = none := famCt_none h
theorem famQ_none {P : Program} {f : FuncId} {α : Type} {args : α → List V} {outs : α → List (Nat × V)} {res : α → R} {k : ∀ x, SpecO P f (args x) (outs x) (res x)} {vs : List V} (h : ∀ x, args x = vs → False) : famQ k vs = none := famCt_none h
end Go.Aw
