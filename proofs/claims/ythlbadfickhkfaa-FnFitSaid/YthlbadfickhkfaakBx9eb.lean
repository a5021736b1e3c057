/- The arithmetic of numerals among the reading laws; families of contracts out of their proofs. No condition. -/
import Derived.Test.YthlbadfickhkfaakBwteb
namespace Go.Aw
set_option linter.unusedVariables false
theorem b1T (a b c : Prop) : (a ∧ b ∧ c) = ((a ∧ b) ∧ c) := propext and_assoc.symm
attribute [go_sem] reduceIte reduceCtorEq Nat.reduceEqDiff Int.reduceToNat Nat.reduceAdd Nat.reduceLeDiff Nat.reduceMul Nat.reduceSub Nat.reduceMod Nat.reduceDiv Nat.reduceLT Nat.reduceBEq List.reduceReplicate b1T
noncomputable def t9 {P : Program} {f : FuncId} {α : Type} {args : α → List V} {pre : α → Prop} {outs : α → List (Nat × V)} {res : α → R} (k : ∀ x, pre x → A0m P f (args x) (outs x) (res x)) : List V → Option (Prop × List (Nat × V) × R) := A4p args pre outs res
noncomputable def p8 {P : Program} {f : FuncId} {α : Type} {args : α → List V} {outs : α → List (Nat × V)} {res : α → R} (k : ∀ x, A0m P f (args x) (outs x) (res x)) : List V → Option (Prop × List (Nat × V) × R) := A4p args (fun _ => True) outs res
theorem j8 {P : Program} {f : FuncId} {α : Type} {args : α → List V} {pre : α → Prop} {outs : α → List (Nat × V)} {res : α → R} (k : ∀ x, pre x → A0m P f (args x) (outs x) (res x)) (inj : ∀ x y, args x = args y → x = y) (x : α) : t9 k (args x) = some (pre x, outs x, res x) := famCt_eq inj x
theorem i9 {P : Program} {f : FuncId} {α : Type} {args : α → List V} {outs : α → List (Nat × V)} {res : α → R} (k : ∀ x, A0m P f (args x) (outs x) (res x)) (inj : ∀ x y, args x = args y → x = y) (x : α) : p8 k (args x) = some (True, outs x, res x) := famCt_eq inj x
theorem k9 {P : Program} {f : FuncId} {α : Type} {args : α → List V} {pre : α → Prop} {outs : α → List (Nat × V)} {res : α → R} (k : ∀ x, pre x → A0m P f (args x) (outs x) (res x)) : ∀ vs q o r, t9 k vs = some (q, o, r) → q → A0m P f vs o r := famCt_ok k
theorem j3 {P : Program} {f : FuncId} {α : Type} {args : α → List V} {outs : α → List (Nat × V)} {res : α → R} (k : ∀ x, A0m P f (args x) (outs x) (res x)) : ∀ vs q o r, p8 k vs = some (q, o, r) → q → A0m P f vs o r := famCt_ok fun x _ => k x
end Go.Aw
