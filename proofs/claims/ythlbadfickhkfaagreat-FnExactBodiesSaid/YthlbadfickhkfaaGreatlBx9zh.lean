/- The arithmetic of numerals among the reading laws; families of contracts out of their proofs. No condition. -/
import Derived.Test.YthlbadfickhkfaaGreatlBwtzh
namespace Go.Aw
set_option linter.unusedVariables false
theorem c7w (a b c : Prop) : (a ∧ b ∧ c) = ((a ∧ b) ∧ c) := propext and_assoc.symm
attribute [go_sem] reduceIte reduceCtorEq Nat.reduceEqDiff Int.reduceToNat Nat.reduceAdd Nat.reduceLeDiff Nat.reduceMul Nat.reduceSub Nat.reduceMod Nat.reduceDiv Nat.reduceLT Nat.reduceBEq List.reduceReplicate c7w
noncomputable def l8 {P : Program} {f : FuncId} {α : Type} {args : α → List V} {pre : α → Prop} {outs : α → List (Nat × V)} {res : α → R} (k : ∀ x, pre x → A0m P f (args x) (outs x) (res x)) : List V → Option (Prop × List (Nat × V) × R) := A4p args pre outs res
noncomputable def j7 {P : Program} {f : FuncId} {α : Type} {args : α → List V} {outs : α → List (Nat × V)} {res : α → R} (k : ∀ x, A0m P f (args x) (outs x) (res x)) : List V → Option (Prop × List (Nat × V) × R) := A4p args (fun _ => True) outs res
theorem f9 {P : Program} {f : FuncId} {α : Type} {args : α → List V} {pre : α → Prop} {outs : α → List (Nat × V)} {res : α → R} (k : ∀ x, pre x → A0m P f (args x) (outs x) (res x)) (inj : ∀ x y, args x = args y → x = y) (x : α) : l8 k (args x) = some (pre x, outs x, res x) := famCt_eq inj x
theorem f7 {P : Program} {f : FuncId} {α : Type} {args : α → List V} {outs : α → List (Nat × V)} {res : α → R} (k : ∀ x, A0m P f (args x) (outs x) (res x)) (inj : ∀ x y, args x = args y → x = y) (x : α) : j7 k (args x) = some (True, outs x, res x) := famCt_eq inj x
theorem i3 {P : Program} {f : FuncId} {α : Type} {args : α → List V} {pre : α → Prop} {outs : α → List (Nat × V)} {res : α → R} (k : ∀ x, pre x → A0m P f (args x) (outs x) (res x)) : ∀ vs q o r, l8 k vs = some (q, o, r) → q → A0m P f vs o r := famCt_ok k
theorem f8 {P : Program} {f : FuncId} {α : Type} {args : α → List V} {outs : α → List (Nat × V)} {res : α → R} (k : ∀ x, A0m P f (args x) (outs x) (res x)) : ∀ vs q o r, j7 k vs = some (q, o, r) → q → A0m P f vs o r := famCt_ok fun x _ => k x
end Go.Aw
