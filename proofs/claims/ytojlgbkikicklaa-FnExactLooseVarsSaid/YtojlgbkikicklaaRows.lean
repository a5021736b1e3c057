/-
  No cell of these rows narrows 'for every input' (looked for: loops, veiled, ifaces, maps, wideKeys, modest, calm, conditions, laid).
  DERIVED. THE GIVEN ROWS OF THIS SEAT. 9 by the template 'for every input the law returns true; each argument reads behind the call as it read before'; 0 by the template 'total and deterministic' (their statements: YtojlgbkikicklaaTotals.lean).
  GIVEN WITH THE SEED: the statements are not yours to turn. If you find one false, say at which input.
  Laid BY PROGRAM, IN A SANDBOX (cutbox-rows.mjs): the forced cells as the released guide's own fill.sh prints them over the translation def6480f08ddaa69… (all of the seat's roots in one cut). By AI agents, Wed Nov 11 2026. No macro, syntax, notation, axiom, sorry.
-/
import Derived.Test.YtojlgbkikicklaaChecked
import GoSem.Claim
import GoSem.ClaimJoined
import GoSem.ClaimMapViews
import Derived.JoinedTies
import Derived.KernelRfl
namespace Go.Proofs.Ytojlgbkikicklaa
/- THE CELL 'sum', in the pinned program and in every row, IS THE sha256 OF THE DUMP (.gsa) THAT YtojlgbkikicklaaProg.lean LOADS. Nothing in Lean hashes anything: it is a label: what it is worth is what the hold of that sum in a sandbox is worth. -/
noncomputable def Try.pinned : Pinned := { name := "ytojlgbkikicklaa", sum := "def6480f08ddaa69c907b552c1800025b6600709002d1511d93cecf93bbc1b14", checked := Try.checked }
namespace Rows
def none {H : Type} : Left H := { results := [], args := [] }

/-- 'laws.FnExactSendsTo': WHATEVER THE INPUT: true; the input reads as it did. -/
def fnExactSendsToSpec : ChangeSpec := { name := "fnExactSendsTo", fn := fun _ => fun
  | [d] => { results := [.lit (.bool true)], args := [d] }
  | _ => none }
def fnExactSendsToRow : OpenClaim := { program := "ytojlgbkikicklaa", sum := "def6480f08ddaa69c907b552c1800025b6600709002d1511d93cecf93bbc1b14", func := "loop.example/g00391/laws.FnExactSendsTo", spec := "fnExactSendsTo", recurses := true, apart := false }
def FnExactSendsToSaid : Prop := fnExactSendsToRow.holds Try.pinned (OpenSpec.ofChange fnExactSendsToSpec)

/-- ITS FALSE NEIGHBOUR: 'it returns false'. Refute it at one input. -/
def fnExactSendsToWrong : ChangeSpec := { name := "fnExactSendsTo", fn := fun _ => fun
  | [d] => { results := [.lit (.bool false)], args := [d] }
  | _ => none }
def FnExactSendsToWrongFalsely : Prop := fnExactSendsToRow.holds Try.pinned (OpenSpec.ofChange fnExactSendsToWrong)

/-- 'laws.FnExactDeclOf': WHATEVER THE INPUT: true; the input reads as it did. -/
def fnExactDeclOfSpec : ChangeSpec := { name := "fnExactDeclOf", fn := fun _ => fun
  | [d1, d2] => { results := [.lit (.bool true)], args := [d1, d2] }
  | _ => none }
def fnExactDeclOfRow : OpenClaim := { program := "ytojlgbkikicklaa", sum := "def6480f08ddaa69c907b552c1800025b6600709002d1511d93cecf93bbc1b14", func := "loop.example/g00391/laws.FnExactDeclOf", spec := "fnExactDeclOf", unfollowed := true, recurses := true, apart := false }
def FnExactDeclOfSaid : Prop := fnExactDeclOfRow.holds Try.pinned (OpenSpec.ofChange fnExactDeclOfSpec)

/-- ITS FALSE NEIGHBOUR: 'it returns false'. Refute it at one input. -/
def fnExactDeclOfWrong : ChangeSpec := { name := "fnExactDeclOf", fn := fun _ => fun
  | [d1, d2] => { results := [.lit (.bool false)], args := [d1, d2] }
  | _ => none }
def FnExactDeclOfWrongFalsely : Prop := fnExactDeclOfRow.holds Try.pinned (OpenSpec.ofChange fnExactDeclOfWrong)

/-- 'laws.FnFit': WHATEVER THE INPUT: true; the input reads as it did. -/
def fnFitSpec : ChangeSpec := { name := "fnFit", fn := fun _ => fun
  | [d] => { results := [.lit (.bool true)], args := [d] }
  | _ => none }
def fnFitRow : OpenClaim := { program := "ytojlgbkikicklaa", sum := "def6480f08ddaa69c907b552c1800025b6600709002d1511d93cecf93bbc1b14", func := "loop.example/g00391/laws.FnFit", spec := "fnFit", inPlace := ["slices.overlaps[loop.example/g00391/impl.Bind]"], unfollowed := true, recurses := true, apart := false }
def FnFitSaid : Prop := fnFitRow.holds Try.pinned (OpenSpec.ofChange fnFitSpec)

/-- ITS FALSE NEIGHBOUR: 'it returns false'. Refute it at one input. -/
def fnFitWrong : ChangeSpec := { name := "fnFit", fn := fun _ => fun
  | [d] => { results := [.lit (.bool false)], args := [d] }
  | _ => none }
def FnFitWrongFalsely : Prop := fnFitRow.holds Try.pinned (OpenSpec.ofChange fnFitWrong)

/-- 'laws.FnExactFit': WHATEVER THE INPUT: true; the input reads as it did. -/
def fnExactFitSpec : ChangeSpec := { name := "fnExactFit", fn := fun _ => fun
  | [d1, d2, d3] => { results := [.lit (.bool true)], args := [d1, d2, d3] }
  | _ => none }
def fnExactFitRow : OpenClaim := { program := "ytojlgbkikicklaa", sum := "def6480f08ddaa69c907b552c1800025b6600709002d1511d93cecf93bbc1b14", func := "loop.example/g00391/laws.FnExactFit", spec := "fnExactFit", inPlace := ["slices.overlaps[loop.example/g00391/impl.Bind]"], unfollowed := true, recurses := true, apart := false }
def FnExactFitSaid : Prop := fnExactFitRow.holds Try.pinned (OpenSpec.ofChange fnExactFitSpec)

/-- ITS FALSE NEIGHBOUR: 'it returns false'. Refute it at one input. -/
def fnExactFitWrong : ChangeSpec := { name := "fnExactFit", fn := fun _ => fun
  | [d1, d2, d3] => { results := [.lit (.bool false)], args := [d1, d2, d3] }
  | _ => none }
def FnExactFitWrongFalsely : Prop := fnExactFitRow.holds Try.pinned (OpenSpec.ofChange fnExactFitWrong)

/-- 'laws.FnExactCovered': WHATEVER THE INPUT: true; the input reads as it did. -/
def fnExactCoveredSpec : ChangeSpec := { name := "fnExactCovered", fn := fun _ => fun
  | [d1, d2] => { results := [.lit (.bool true)], args := [d1, d2] }
  | _ => none }
def fnExactCoveredRow : OpenClaim := { program := "ytojlgbkikicklaa", sum := "def6480f08ddaa69c907b552c1800025b6600709002d1511d93cecf93bbc1b14", func := "loop.example/g00391/laws.FnExactCovered", spec := "fnExactCovered", inPlace := ["internal/bytealg.abigen_runtime_cmpstring"], unfollowed := true, recurses := true, apart := false }
def FnExactCoveredSaid : Prop := fnExactCoveredRow.holds Try.pinned (OpenSpec.ofChange fnExactCoveredSpec)

/-- ITS FALSE NEIGHBOUR: 'it returns false'. Refute it at one input. -/
def fnExactCoveredWrong : ChangeSpec := { name := "fnExactCovered", fn := fun _ => fun
  | [d1, d2] => { results := [.lit (.bool false)], args := [d1, d2] }
  | _ => none }
def FnExactCoveredWrongFalsely : Prop := fnExactCoveredRow.holds Try.pinned (OpenSpec.ofChange fnExactCoveredWrong)

/-- 'laws.FnExactCheckNames': WHATEVER THE INPUT: true; the input reads as it did. -/
def fnExactCheckNamesSpec : ChangeSpec := { name := "fnExactCheckNames", fn := fun _ => fun
  | [d] => { results := [.lit (.bool true)], args := [d] }
  | _ => none }
def fnExactCheckNamesRow : OpenClaim := { program := "ytojlgbkikicklaa", sum := "def6480f08ddaa69c907b552c1800025b6600709002d1511d93cecf93bbc1b14", func := "loop.example/g00391/laws.FnExactCheckNames", spec := "fnExactCheckNames", unfollowed := true, recurses := true, apart := false }
def FnExactCheckNamesSaid : Prop := fnExactCheckNamesRow.holds Try.pinned (OpenSpec.ofChange fnExactCheckNamesSpec)

/-- ITS FALSE NEIGHBOUR: 'it returns false'. Refute it at one input. -/
def fnExactCheckNamesWrong : ChangeSpec := { name := "fnExactCheckNames", fn := fun _ => fun
  | [d] => { results := [.lit (.bool false)], args := [d] }
  | _ => none }
def FnExactCheckNamesWrongFalsely : Prop := fnExactCheckNamesRow.holds Try.pinned (OpenSpec.ofChange fnExactCheckNamesWrong)

/-- 'laws.FnExactPlainRule': WHATEVER THE INPUT: true; the input reads as it did. -/
def fnExactPlainRuleSpec : ChangeSpec := { name := "fnExactPlainRule", fn := fun _ => fun
  | [d] => { results := [.lit (.bool true)], args := [d] }
  | _ => none }
def fnExactPlainRuleRow : OpenClaim := { program := "ytojlgbkikicklaa", sum := "def6480f08ddaa69c907b552c1800025b6600709002d1511d93cecf93bbc1b14", func := "loop.example/g00391/laws.FnExactPlainRule", spec := "fnExactPlainRule", unfollowed := true, recurses := true, apart := false }
def FnExactPlainRuleSaid : Prop := fnExactPlainRuleRow.holds Try.pinned (OpenSpec.ofChange fnExactPlainRuleSpec)

/-- ITS FALSE NEIGHBOUR: 'it returns false'. Refute it at one input. -/
def fnExactPlainRuleWrong : ChangeSpec := { name := "fnExactPlainRule", fn := fun _ => fun
  | [d] => { results := [.lit (.bool false)], args := [d] }
  | _ => none }
def FnExactPlainRuleWrongFalsely : Prop := fnExactPlainRuleRow.holds Try.pinned (OpenSpec.ofChange fnExactPlainRuleWrong)

/-- 'laws.FnExactBoundVars': WHATEVER THE INPUT: true; the input reads as it did. -/
def fnExactBoundVarsSpec : ChangeSpec := { name := "fnExactBoundVars", fn := fun _ => fun
  | [d] => { results := [.lit (.bool true)], args := [d] }
  | _ => none }
def fnExactBoundVarsRow : OpenClaim := { program := "ytojlgbkikicklaa", sum := "def6480f08ddaa69c907b552c1800025b6600709002d1511d93cecf93bbc1b14", func := "loop.example/g00391/laws.FnExactBoundVars", spec := "fnExactBoundVars", unfollowed := true, recurses := true, apart := false }
def FnExactBoundVarsSaid : Prop := fnExactBoundVarsRow.holds Try.pinned (OpenSpec.ofChange fnExactBoundVarsSpec)

/-- ITS FALSE NEIGHBOUR: 'it returns false'. Refute it at one input. -/
def fnExactBoundVarsWrong : ChangeSpec := { name := "fnExactBoundVars", fn := fun _ => fun
  | [d] => { results := [.lit (.bool false)], args := [d] }
  | _ => none }
def FnExactBoundVarsWrongFalsely : Prop := fnExactBoundVarsRow.holds Try.pinned (OpenSpec.ofChange fnExactBoundVarsWrong)

/-- 'laws.FnExactLooseVars': WHATEVER THE INPUT: true; the input reads as it did. -/
def fnExactLooseVarsSpec : ChangeSpec := { name := "fnExactLooseVars", fn := fun _ => fun
  | [d] => { results := [.lit (.bool true)], args := [d] }
  | _ => none }
def fnExactLooseVarsRow : OpenClaim := { program := "ytojlgbkikicklaa", sum := "def6480f08ddaa69c907b552c1800025b6600709002d1511d93cecf93bbc1b14", func := "loop.example/g00391/laws.FnExactLooseVars", spec := "fnExactLooseVars", unfollowed := true, recurses := true, apart := false }
def FnExactLooseVarsSaid : Prop := fnExactLooseVarsRow.holds Try.pinned (OpenSpec.ofChange fnExactLooseVarsSpec)

/-- ITS FALSE NEIGHBOUR: 'it returns false'. Refute it at one input. -/
def fnExactLooseVarsWrong : ChangeSpec := { name := "fnExactLooseVars", fn := fun _ => fun
  | [d] => { results := [.lit (.bool false)], args := [d] }
  | _ => none }
def FnExactLooseVarsWrongFalsely : Prop := fnExactLooseVarsRow.holds Try.pinned (OpenSpec.ofChange fnExactLooseVarsWrong)

/- THE SECOND FORM. 'bulk': how many values and letters a reading holds, each counted each time it is reached (what is shared counts as often as it is met; a slice's spare places count too). A statement '..UptoSaid' is the law's where the arguments, and the package variables that the reading takes, are together of bulk at most 1048576: NARROWER than '..Said'. Prove '..Said' where nothing that the law and all that it calls make is longer than what came in: it says more and counts as full. Else prove '..UptoSaid'. A law counts once. -/
mutual
def uptoBulk {H : Type} : DataW H → Nat
  | .lit (.string bytes) => bytes.length + 1
  | .lit _ => 1
  | .nil => 1
  | .ptr d => uptoBulk d + 1
  | .slice elems spare => uptoBulkAll elems + uptoBulkAll spare + 1
  | .agg parts => uptoBulkAll parts + 1
  | .iface _ d => uptoBulk d + 1
  | .map entries => uptoBulkEntries entries + 1
  | .held _ => 1
def uptoBulkAll {H : Type} : List (DataW H) → Nat
  | [] => 0
  | d :: r => uptoBulk d + uptoBulkAll r
def uptoBulkEntries {H : Type} : List (Lit × DataW H) → Nat
  | [] => 0
  | x :: r => uptoBulkEntry x + uptoBulkEntries r
def uptoBulkEntry {H : Type} : Lit × DataW H → Nat
  | (.string bytes, d) => bytes.length + uptoBulk d + 1
  | (_, d) => uptoBulk d + 1
 end
def uptoSmall : (H : Type) → List (DataW H) → Bool := fun _ ds => decide (uptoBulkAll ds ≤ 1048576)
def OpenSpec.upto (s : _root_.Go.ChangeSpec) : _root_.Go.OpenSpec := { _root_.Go.OpenSpec.ofChange s with cond := some uptoSmall }

/-- 'laws.FnExactSendsTo', WHERE WHAT IT READS IS OF BULK AT MOST 1048576: true; the input reads as it did. -/
def fnExactSendsToUptoRow : OpenClaim := { program := "ytojlgbkikicklaa", sum := "def6480f08ddaa69c907b552c1800025b6600709002d1511d93cecf93bbc1b14", func := "loop.example/g00391/laws.FnExactSendsTo", spec := "fnExactSendsTo", recurses := true, apart := false, narrowed := true }
def FnExactSendsToUptoSaid : Prop := fnExactSendsToUptoRow.holds Try.pinned (OpenSpec.upto fnExactSendsToSpec)

/-- 'laws.FnExactDeclOf', WHERE WHAT IT READS IS OF BULK AT MOST 1048576: true; the input reads as it did. -/
def fnExactDeclOfUptoRow : OpenClaim := { program := "ytojlgbkikicklaa", sum := "def6480f08ddaa69c907b552c1800025b6600709002d1511d93cecf93bbc1b14", func := "loop.example/g00391/laws.FnExactDeclOf", spec := "fnExactDeclOf", unfollowed := true, recurses := true, apart := false, narrowed := true }
def FnExactDeclOfUptoSaid : Prop := fnExactDeclOfUptoRow.holds Try.pinned (OpenSpec.upto fnExactDeclOfSpec)

/-- 'laws.FnFit', WHERE WHAT IT READS IS OF BULK AT MOST 1048576: true; the input reads as it did. -/
def fnFitUptoRow : OpenClaim := { program := "ytojlgbkikicklaa", sum := "def6480f08ddaa69c907b552c1800025b6600709002d1511d93cecf93bbc1b14", func := "loop.example/g00391/laws.FnFit", spec := "fnFit", inPlace := ["slices.overlaps[loop.example/g00391/impl.Bind]"], unfollowed := true, recurses := true, apart := false, narrowed := true }
def FnFitUptoSaid : Prop := fnFitUptoRow.holds Try.pinned (OpenSpec.upto fnFitSpec)

/-- 'laws.FnExactFit', WHERE WHAT IT READS IS OF BULK AT MOST 1048576: true; the input reads as it did. -/
def fnExactFitUptoRow : OpenClaim := { program := "ytojlgbkikicklaa", sum := "def6480f08ddaa69c907b552c1800025b6600709002d1511d93cecf93bbc1b14", func := "loop.example/g00391/laws.FnExactFit", spec := "fnExactFit", inPlace := ["slices.overlaps[loop.example/g00391/impl.Bind]"], unfollowed := true, recurses := true, apart := false, narrowed := true }
def FnExactFitUptoSaid : Prop := fnExactFitUptoRow.holds Try.pinned (OpenSpec.upto fnExactFitSpec)

/-- 'laws.FnExactCovered', WHERE WHAT IT READS IS OF BULK AT MOST 1048576: true; the input reads as it did. -/
def fnExactCoveredUptoRow : OpenClaim := { program := "ytojlgbkikicklaa", sum := "def6480f08ddaa69c907b552c1800025b6600709002d1511d93cecf93bbc1b14", func := "loop.example/g00391/laws.FnExactCovered", spec := "fnExactCovered", inPlace := ["internal/bytealg.abigen_runtime_cmpstring"], unfollowed := true, recurses := true, apart := false, narrowed := true }
def FnExactCoveredUptoSaid : Prop := fnExactCoveredUptoRow.holds Try.pinned (OpenSpec.upto fnExactCoveredSpec)

/-- 'laws.FnExactCheckNames', WHERE WHAT IT READS IS OF BULK AT MOST 1048576: true; the input reads as it did. -/
def fnExactCheckNamesUptoRow : OpenClaim := { program := "ytojlgbkikicklaa", sum := "def6480f08ddaa69c907b552c1800025b6600709002d1511d93cecf93bbc1b14", func := "loop.example/g00391/laws.FnExactCheckNames", spec := "fnExactCheckNames", unfollowed := true, recurses := true, apart := false, narrowed := true }
def FnExactCheckNamesUptoSaid : Prop := fnExactCheckNamesUptoRow.holds Try.pinned (OpenSpec.upto fnExactCheckNamesSpec)

/-- 'laws.FnExactPlainRule', WHERE WHAT IT READS IS OF BULK AT MOST 1048576: true; the input reads as it did. -/
def fnExactPlainRuleUptoRow : OpenClaim := { program := "ytojlgbkikicklaa", sum := "def6480f08ddaa69c907b552c1800025b6600709002d1511d93cecf93bbc1b14", func := "loop.example/g00391/laws.FnExactPlainRule", spec := "fnExactPlainRule", unfollowed := true, recurses := true, apart := false, narrowed := true }
def FnExactPlainRuleUptoSaid : Prop := fnExactPlainRuleUptoRow.holds Try.pinned (OpenSpec.upto fnExactPlainRuleSpec)

/-- 'laws.FnExactBoundVars', WHERE WHAT IT READS IS OF BULK AT MOST 1048576: true; the input reads as it did. -/
def fnExactBoundVarsUptoRow : OpenClaim := { program := "ytojlgbkikicklaa", sum := "def6480f08ddaa69c907b552c1800025b6600709002d1511d93cecf93bbc1b14", func := "loop.example/g00391/laws.FnExactBoundVars", spec := "fnExactBoundVars", unfollowed := true, recurses := true, apart := false, narrowed := true }
def FnExactBoundVarsUptoSaid : Prop := fnExactBoundVarsUptoRow.holds Try.pinned (OpenSpec.upto fnExactBoundVarsSpec)

/-- 'laws.FnExactLooseVars', WHERE WHAT IT READS IS OF BULK AT MOST 1048576: true; the input reads as it did. -/
def fnExactLooseVarsUptoRow : OpenClaim := { program := "ytojlgbkikicklaa", sum := "def6480f08ddaa69c907b552c1800025b6600709002d1511d93cecf93bbc1b14", func := "loop.example/g00391/laws.FnExactLooseVars", spec := "fnExactLooseVars", unfollowed := true, recurses := true, apart := false, narrowed := true }
def FnExactLooseVarsUptoSaid : Prop := fnExactLooseVarsUptoRow.holds Try.pinned (OpenSpec.upto fnExactLooseVarsSpec)

end Rows
end Go.Proofs.Ytojlgbkikicklaa
