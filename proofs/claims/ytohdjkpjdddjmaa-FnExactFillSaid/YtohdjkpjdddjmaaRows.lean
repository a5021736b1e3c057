/-
  No cell of these rows narrows 'for every input' (looked for: loops, veiled, ifaces, maps, wideKeys, modest, calm, conditions, laid).
  DERIVED. THE GIVEN ROWS OF THIS SEAT. 7 by the template 'for every input the law returns true; each argument reads behind the call as it read before'; 0 by the template 'total and deterministic' (their statements: YtohdjkpjdddjmaaTotals.lean).
  GIVEN WITH THE SEED: the statements are not yours to turn. If you find one false, say at which input.
  Laid BY PROGRAM, IN A SANDBOX (cutbox-rows.mjs): the forced cells as the released guide's own fill.sh prints them over the translation 82c81889033673d1… (all of the seat's roots in one cut). By AI agents, Wed Nov 11 2026. No macro, syntax, notation, axiom, sorry.
-/
import Derived.Test.YtohdjkpjdddjmaaChecked
import GoSem.Claim
import GoSem.ClaimJoined
import GoSem.ClaimMapViews
import Derived.JoinedTies
import Derived.KernelRfl
namespace Go.Proofs.Ytohdjkpjdddjmaa
/- THE CELL 'sum', in the pinned program and in every row, IS THE sha256 OF THE DUMP (.gsa) THAT YtohdjkpjdddjmaaProg.lean LOADS. Nothing in Lean hashes anything: it is a label: what it is worth is what the hold of that sum in a sandbox is worth. -/
noncomputable def Try.pinned : Pinned := { name := "ytohdjkpjdddjmaa", sum := "82c81889033673d1c4464f54093068d9af24300de195f392318bcc98e5c0a407", checked := Try.checked }
namespace Rows
def none {H : Type} : Left H := { results := [], args := [] }

/-- 'laws.FnExactCompares': WHATEVER THE INPUT: true; the input reads as it did. -/
def fnExactComparesSpec : ChangeSpec := { name := "fnExactCompares", fn := fun _ => fun
  | [d1, d2, d3] => { results := [.lit (.bool true)], args := [d1, d2, d3] }
  | _ => none }
def fnExactComparesRow : OpenClaim := { program := "ytohdjkpjdddjmaa", sum := "82c81889033673d1c4464f54093068d9af24300de195f392318bcc98e5c0a407", func := "loop.example/g00391/laws.FnExactCompares", spec := "fnExactCompares", inPlace := ["internal/bytealg.abigen_runtime_cmpstring"], apart := false }
def FnExactComparesSaid : Prop := fnExactComparesRow.holds Try.pinned (OpenSpec.ofChange fnExactComparesSpec)

/-- ITS FALSE NEIGHBOUR: 'it returns false'. Refute it at one input. -/
def fnExactComparesWrong : ChangeSpec := { name := "fnExactCompares", fn := fun _ => fun
  | [d1, d2, d3] => { results := [.lit (.bool false)], args := [d1, d2, d3] }
  | _ => none }
def FnExactComparesWrongFalsely : Prop := fnExactComparesRow.holds Try.pinned (OpenSpec.ofChange fnExactComparesWrong)

/-- 'laws.FnExactEnvOk': WHATEVER THE INPUT: true; the input reads as it did. -/
def fnExactEnvOkSpec : ChangeSpec := { name := "fnExactEnvOk", fn := fun _ => fun
  | [d] => { results := [.lit (.bool true)], args := [d] }
  | _ => none }
def fnExactEnvOkRow : OpenClaim := { program := "ytohdjkpjdddjmaa", sum := "82c81889033673d1c4464f54093068d9af24300de195f392318bcc98e5c0a407", func := "loop.example/g00391/laws.FnExactEnvOk", spec := "fnExactEnvOk", apart := false }
def FnExactEnvOkSaid : Prop := fnExactEnvOkRow.holds Try.pinned (OpenSpec.ofChange fnExactEnvOkSpec)

/-- ITS FALSE NEIGHBOUR: 'it returns false'. Refute it at one input. -/
def fnExactEnvOkWrong : ChangeSpec := { name := "fnExactEnvOk", fn := fun _ => fun
  | [d] => { results := [.lit (.bool false)], args := [d] }
  | _ => none }
def FnExactEnvOkWrongFalsely : Prop := fnExactEnvOkRow.holds Try.pinned (OpenSpec.ofChange fnExactEnvOkWrong)

/-- 'laws.FnExactEnvGet': WHATEVER THE INPUT: true; the input reads as it did. -/
def fnExactEnvGetSpec : ChangeSpec := { name := "fnExactEnvGet", fn := fun _ => fun
  | [d1, d2] => { results := [.lit (.bool true)], args := [d1, d2] }
  | _ => none }
def fnExactEnvGetRow : OpenClaim := { program := "ytohdjkpjdddjmaa", sum := "82c81889033673d1c4464f54093068d9af24300de195f392318bcc98e5c0a407", func := "loop.example/g00391/laws.FnExactEnvGet", spec := "fnExactEnvGet", apart := false }
def FnExactEnvGetSaid : Prop := fnExactEnvGetRow.holds Try.pinned (OpenSpec.ofChange fnExactEnvGetSpec)

/-- ITS FALSE NEIGHBOUR: 'it returns false'. Refute it at one input. -/
def fnExactEnvGetWrong : ChangeSpec := { name := "fnExactEnvGet", fn := fun _ => fun
  | [d1, d2] => { results := [.lit (.bool false)], args := [d1, d2] }
  | _ => none }
def FnExactEnvGetWrongFalsely : Prop := fnExactEnvGetRow.holds Try.pinned (OpenSpec.ofChange fnExactEnvGetWrong)

/-- 'laws.FnExactEnvOrder': WHATEVER THE INPUT: true; the input reads as it did. -/
def fnExactEnvOrderSpec : ChangeSpec := { name := "fnExactEnvOrder", fn := fun _ => fun
  | [d1, d2] => { results := [.lit (.bool true)], args := [d1, d2] }
  | _ => none }
def fnExactEnvOrderRow : OpenClaim := { program := "ytohdjkpjdddjmaa", sum := "82c81889033673d1c4464f54093068d9af24300de195f392318bcc98e5c0a407", func := "loop.example/g00391/laws.FnExactEnvOrder", spec := "fnExactEnvOrder", inPlace := ["internal/bytealg.abigen_runtime_cmpstring"], unfollowed := true, recurses := true, apart := false }
def FnExactEnvOrderSaid : Prop := fnExactEnvOrderRow.holds Try.pinned (OpenSpec.ofChange fnExactEnvOrderSpec)

/-- ITS FALSE NEIGHBOUR: 'it returns false'. Refute it at one input. -/
def fnExactEnvOrderWrong : ChangeSpec := { name := "fnExactEnvOrder", fn := fun _ => fun
  | [d1, d2] => { results := [.lit (.bool false)], args := [d1, d2] }
  | _ => none }
def FnExactEnvOrderWrongFalsely : Prop := fnExactEnvOrderRow.holds Try.pinned (OpenSpec.ofChange fnExactEnvOrderWrong)

/-- 'laws.FnExactFlowsOk': WHATEVER THE INPUT: true; the input reads as it did. -/
def fnExactFlowsOkSpec : ChangeSpec := { name := "fnExactFlowsOk", fn := fun _ => fun
  | [d] => { results := [.lit (.bool true)], args := [d] }
  | _ => none }
def fnExactFlowsOkRow : OpenClaim := { program := "ytohdjkpjdddjmaa", sum := "82c81889033673d1c4464f54093068d9af24300de195f392318bcc98e5c0a407", func := "loop.example/g00391/laws.FnExactFlowsOk", spec := "fnExactFlowsOk", unfollowed := true, recurses := true, apart := false }
def FnExactFlowsOkSaid : Prop := fnExactFlowsOkRow.holds Try.pinned (OpenSpec.ofChange fnExactFlowsOkSpec)

/-- ITS FALSE NEIGHBOUR: 'it returns false'. Refute it at one input. -/
def fnExactFlowsOkWrong : ChangeSpec := { name := "fnExactFlowsOk", fn := fun _ => fun
  | [d] => { results := [.lit (.bool false)], args := [d] }
  | _ => none }
def FnExactFlowsOkWrongFalsely : Prop := fnExactFlowsOkRow.holds Try.pinned (OpenSpec.ofChange fnExactFlowsOkWrong)

/-- 'laws.FnExactFlowFind': WHATEVER THE INPUT: true; the input reads as it did. -/
def fnExactFlowFindSpec : ChangeSpec := { name := "fnExactFlowFind", fn := fun _ => fun
  | [d1, d2] => { results := [.lit (.bool true)], args := [d1, d2] }
  | _ => none }
def fnExactFlowFindRow : OpenClaim := { program := "ytohdjkpjdddjmaa", sum := "82c81889033673d1c4464f54093068d9af24300de195f392318bcc98e5c0a407", func := "loop.example/g00391/laws.FnExactFlowFind", spec := "fnExactFlowFind", unfollowed := true, recurses := true, apart := false }
def FnExactFlowFindSaid : Prop := fnExactFlowFindRow.holds Try.pinned (OpenSpec.ofChange fnExactFlowFindSpec)

/-- ITS FALSE NEIGHBOUR: 'it returns false'. Refute it at one input. -/
def fnExactFlowFindWrong : ChangeSpec := { name := "fnExactFlowFind", fn := fun _ => fun
  | [d1, d2] => { results := [.lit (.bool false)], args := [d1, d2] }
  | _ => none }
def FnExactFlowFindWrongFalsely : Prop := fnExactFlowFindRow.holds Try.pinned (OpenSpec.ofChange fnExactFlowFindWrong)

/-- 'laws.FnExactFill': WHATEVER THE INPUT: true; the input reads as it did. -/
def fnExactFillSpec : ChangeSpec := { name := "fnExactFill", fn := fun _ => fun
  | [d1, d2] => { results := [.lit (.bool true)], args := [d1, d2] }
  | _ => none }
def fnExactFillRow : OpenClaim := { program := "ytohdjkpjdddjmaa", sum := "82c81889033673d1c4464f54093068d9af24300de195f392318bcc98e5c0a407", func := "loop.example/g00391/laws.FnExactFill", spec := "fnExactFill", unfollowed := true, recurses := true, apart := false }
def FnExactFillSaid : Prop := fnExactFillRow.holds Try.pinned (OpenSpec.ofChange fnExactFillSpec)

/-- ITS FALSE NEIGHBOUR: 'it returns false'. Refute it at one input. -/
def fnExactFillWrong : ChangeSpec := { name := "fnExactFill", fn := fun _ => fun
  | [d1, d2] => { results := [.lit (.bool false)], args := [d1, d2] }
  | _ => none }
def FnExactFillWrongFalsely : Prop := fnExactFillRow.holds Try.pinned (OpenSpec.ofChange fnExactFillWrong)

/- THE SECOND FORM. 'bulk': how many values and letters a reading holds, each counted each time it is reached (what is shared counts as often as it is met; a slice's spare places count too). A statement '..UptoSaid' is the law's where the arguments, and the package variables that the reading takes, are together of bulk at most 1048576: NARROWER than '..Said'. Prove '..Said' where nothing that the law and all that it calls make is longer than what came in: it says more and counts as full. Else prove '..UptoSaid'. A law counts once. -/
mutual
def uptoBulk {H : Type} : DataW H → Nat
  | .lit (.string bytes) => bytes.length + 1
  | .lit _ => 1
  | .nil => 1
  | .ptr d => uptoBulk d + 1
  | .slice elems spare => uptoBulkAll elems + uptoBulkAll spare + 1
  | .agg parts => uptoBulkAll parts + 1
  | .iface _ d => uptoBulk d + 1
  | .map entries => uptoBulkEntries entries + 1
  | .held _ => 1
def uptoBulkAll {H : Type} : List (DataW H) → Nat
  | [] => 0
  | d :: r => uptoBulk d + uptoBulkAll r
def uptoBulkEntries {H : Type} : List (Lit × DataW H) → Nat
  | [] => 0
  | x :: r => uptoBulkEntry x + uptoBulkEntries r
def uptoBulkEntry {H : Type} : Lit × DataW H → Nat
  | (.string bytes, d) => bytes.length + uptoBulk d + 1
  | (_, d) => uptoBulk d + 1
 end
def uptoSmall : (H : Type) → List (DataW H) → Bool := fun _ ds => decide (uptoBulkAll ds ≤ 1048576)
def OpenSpec.upto (s : _root_.Go.ChangeSpec) : _root_.Go.OpenSpec := { _root_.Go.OpenSpec.ofChange s with cond := some uptoSmall }

/-- 'laws.FnExactCompares', WHERE WHAT IT READS IS OF BULK AT MOST 1048576: true; the input reads as it did. -/
def fnExactComparesUptoRow : OpenClaim := { program := "ytohdjkpjdddjmaa", sum := "82c81889033673d1c4464f54093068d9af24300de195f392318bcc98e5c0a407", func := "loop.example/g00391/laws.FnExactCompares", spec := "fnExactCompares", inPlace := ["internal/bytealg.abigen_runtime_cmpstring"], apart := false, narrowed := true }
def FnExactComparesUptoSaid : Prop := fnExactComparesUptoRow.holds Try.pinned (OpenSpec.upto fnExactComparesSpec)

/-- 'laws.FnExactEnvOk', WHERE WHAT IT READS IS OF BULK AT MOST 1048576: true; the input reads as it did. -/
def fnExactEnvOkUptoRow : OpenClaim := { program := "ytohdjkpjdddjmaa", sum := "82c81889033673d1c4464f54093068d9af24300de195f392318bcc98e5c0a407", func := "loop.example/g00391/laws.FnExactEnvOk", spec := "fnExactEnvOk", apart := false, narrowed := true }
def FnExactEnvOkUptoSaid : Prop := fnExactEnvOkUptoRow.holds Try.pinned (OpenSpec.upto fnExactEnvOkSpec)

/-- 'laws.FnExactEnvGet', WHERE WHAT IT READS IS OF BULK AT MOST 1048576: true; the input reads as it did. -/
def fnExactEnvGetUptoRow : OpenClaim := { program := "ytohdjkpjdddjmaa", sum := "82c81889033673d1c4464f54093068d9af24300de195f392318bcc98e5c0a407", func := "loop.example/g00391/laws.FnExactEnvGet", spec := "fnExactEnvGet", apart := false, narrowed := true }
def FnExactEnvGetUptoSaid : Prop := fnExactEnvGetUptoRow.holds Try.pinned (OpenSpec.upto fnExactEnvGetSpec)

/-- 'laws.FnExactEnvOrder', WHERE WHAT IT READS IS OF BULK AT MOST 1048576: true; the input reads as it did. -/
def fnExactEnvOrderUptoRow : OpenClaim := { program := "ytohdjkpjdddjmaa", sum := "82c81889033673d1c4464f54093068d9af24300de195f392318bcc98e5c0a407", func := "loop.example/g00391/laws.FnExactEnvOrder", spec := "fnExactEnvOrder", inPlace := ["internal/bytealg.abigen_runtime_cmpstring"], unfollowed := true, recurses := true, apart := false, narrowed := true }
def FnExactEnvOrderUptoSaid : Prop := fnExactEnvOrderUptoRow.holds Try.pinned (OpenSpec.upto fnExactEnvOrderSpec)

/-- 'laws.FnExactFlowsOk', WHERE WHAT IT READS IS OF BULK AT MOST 1048576: true; the input reads as it did. -/
def fnExactFlowsOkUptoRow : OpenClaim := { program := "ytohdjkpjdddjmaa", sum := "82c81889033673d1c4464f54093068d9af24300de195f392318bcc98e5c0a407", func := "loop.example/g00391/laws.FnExactFlowsOk", spec := "fnExactFlowsOk", unfollowed := true, recurses := true, apart := false, narrowed := true }
def FnExactFlowsOkUptoSaid : Prop := fnExactFlowsOkUptoRow.holds Try.pinned (OpenSpec.upto fnExactFlowsOkSpec)

/-- 'laws.FnExactFlowFind', WHERE WHAT IT READS IS OF BULK AT MOST 1048576: true; the input reads as it did. -/
def fnExactFlowFindUptoRow : OpenClaim := { program := "ytohdjkpjdddjmaa", sum := "82c81889033673d1c4464f54093068d9af24300de195f392318bcc98e5c0a407", func := "loop.example/g00391/laws.FnExactFlowFind", spec := "fnExactFlowFind", unfollowed := true, recurses := true, apart := false, narrowed := true }
def FnExactFlowFindUptoSaid : Prop := fnExactFlowFindUptoRow.holds Try.pinned (OpenSpec.upto fnExactFlowFindSpec)

/-- 'laws.FnExactFill', WHERE WHAT IT READS IS OF BULK AT MOST 1048576: true; the input reads as it did. -/
def fnExactFillUptoRow : OpenClaim := { program := "ytohdjkpjdddjmaa", sum := "82c81889033673d1c4464f54093068d9af24300de195f392318bcc98e5c0a407", func := "loop.example/g00391/laws.FnExactFill", spec := "fnExactFill", unfollowed := true, recurses := true, apart := false, narrowed := true }
def FnExactFillUptoSaid : Prop := fnExactFillUptoRow.holds Try.pinned (OpenSpec.upto fnExactFillSpec)

end Rows
end Go.Proofs.Ytohdjkpjdddjmaa
