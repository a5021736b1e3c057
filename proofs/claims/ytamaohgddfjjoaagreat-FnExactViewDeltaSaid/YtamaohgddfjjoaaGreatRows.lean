/-
  No cell of these rows narrows 'for every input' (looked for: loops, veiled, ifaces, maps, wideKeys, modest, calm, conditions, laid).
  DERIVED. THE GIVEN ROWS OF THIS SEAT. 5 by the template 'for every input the law returns true; each argument reads behind the call as it read before'; 0 by the template 'total and deterministic' (their statements: YtamaohgddfjjoaaGreatTotals.lean).
  GIVEN WITH THE SEED: the statements are not yours to turn. If you find one false, say at which input.
  Laid BY PROGRAM, IN A SANDBOX (cutbox-rows.mjs): the forced cells as the released guide's own fill.sh prints them over the translation a430e6cbe8eb05bc… (all of the seat's roots in one cut). By AI agents, Wed Nov 11 2026. No macro, syntax, notation, axiom, sorry.
-/
import Derived.Test.YtamaohgddfjjoaaGreatChecked
import GoSem.Claim
import GoSem.ClaimJoined
import GoSem.ClaimMapViews
import Derived.JoinedTies
import Derived.KernelRfl
namespace Go.Proofs.YtamaohgddfjjoaaGreat
/- THE CELL 'sum', in the pinned program and in every row, IS THE sha256 OF THE DUMP (.gsa) THAT YtamaohgddfjjoaaGreatProg.lean LOADS. Nothing in Lean hashes anything: it is a label: what it is worth is what the hold of that sum in a sandbox is worth. -/
noncomputable def Tryz.pinned : Pinned := { name := "ytamaohgddfjjoaagreat", sum := "a430e6cbe8eb05bc967e5d98c79e4495e8bc7f1de21430cac42db4779076c6ee", checked := Tryz.checked }
namespace Rows
def none {H : Type} : Left H := { results := [], args := [] }

/-- 'laws.FnExactViewDelta': WHATEVER THE INPUT: true; the input reads as it did. -/
def fnExactViewDeltaSpec : ChangeSpec := { name := "fnExactViewDelta", fn := fun _ => fun
  | [d1, d2, d3] => { results := [.lit (.bool true)], args := [d1, d2, d3] }
  | _ => none }
def fnExactViewDeltaRow : OpenClaim := { program := "ytamaohgddfjjoaagreat", sum := "a430e6cbe8eb05bc967e5d98c79e4495e8bc7f1de21430cac42db4779076c6ee", func := "loop.example/g00391/laws.FnExactViewDelta", spec := "fnExactViewDelta", inPlace := ["internal/bytealg.abigen_runtime_cmpstring", "slices.overlaps[loop.example/g00391/impl.Named]", "slices.overlaps[loop.example/g00391/impl.Bind]"], unfollowed := true, recurses := true, apart := false }
def FnExactViewDeltaSaid : Prop := fnExactViewDeltaRow.holds Tryz.pinned (OpenSpec.ofChange fnExactViewDeltaSpec)

/-- ITS FALSE NEIGHBOUR: 'it returns false'. Refute it at one input. -/
def fnExactViewDeltaWrong : ChangeSpec := { name := "fnExactViewDelta", fn := fun _ => fun
  | [d1, d2, d3] => { results := [.lit (.bool false)], args := [d1, d2, d3] }
  | _ => none }
def FnExactViewDeltaWrongFalsely : Prop := fnExactViewDeltaRow.holds Tryz.pinned (OpenSpec.ofChange fnExactViewDeltaWrong)

/-- 'laws.FnExactFire': WHATEVER THE INPUT: true; the input reads as it did. -/
def fnExactFireSpec : ChangeSpec := { name := "fnExactFire", fn := fun _ => fun
  | [d1, d2, d3] => { results := [.lit (.bool true)], args := [d1, d2, d3] }
  | _ => none }
def fnExactFireRow : OpenClaim := { program := "ytamaohgddfjjoaagreat", sum := "a430e6cbe8eb05bc967e5d98c79e4495e8bc7f1de21430cac42db4779076c6ee", func := "loop.example/g00391/laws.FnExactFire", spec := "fnExactFire", inPlace := ["internal/bytealg.abigen_runtime_cmpstring", "slices.overlaps[loop.example/g00391/impl.Named]", "slices.overlaps[loop.example/g00391/impl.Bind]"], unfollowed := true, recurses := true, apart := false }
def FnExactFireSaid : Prop := fnExactFireRow.holds Tryz.pinned (OpenSpec.ofChange fnExactFireSpec)

/-- ITS FALSE NEIGHBOUR: 'it returns false'. Refute it at one input. -/
def fnExactFireWrong : ChangeSpec := { name := "fnExactFire", fn := fun _ => fun
  | [d1, d2, d3] => { results := [.lit (.bool false)], args := [d1, d2, d3] }
  | _ => none }
def FnExactFireWrongFalsely : Prop := fnExactFireRow.holds Tryz.pinned (OpenSpec.ofChange fnExactFireWrong)

/-- 'laws.FnExactForwardActs': WHATEVER THE INPUT: true; the input reads as it did. -/
def fnExactForwardActsSpec : ChangeSpec := { name := "fnExactForwardActs", fn := fun _ => fun
  | [d1, d2, d3, d4, d5, d6, d7] => { results := [.lit (.bool true)], args := [d1, d2, d3, d4, d5, d6, d7] }
  | _ => none }
def fnExactForwardActsRow : OpenClaim := { program := "ytamaohgddfjjoaagreat", sum := "a430e6cbe8eb05bc967e5d98c79e4495e8bc7f1de21430cac42db4779076c6ee", func := "loop.example/g00391/laws.FnExactForwardActs", spec := "fnExactForwardActs", inPlace := ["internal/bytealg.abigen_runtime_cmpstring", "slices.overlaps[loop.example/g00391/impl.Named]", "slices.overlaps[loop.example/g00391/impl.Bind]"], unfollowed := true, recurses := true, apart := false }
def FnExactForwardActsSaid : Prop := fnExactForwardActsRow.holds Tryz.pinned (OpenSpec.ofChange fnExactForwardActsSpec)

/-- ITS FALSE NEIGHBOUR: 'it returns false'. Refute it at one input. -/
def fnExactForwardActsWrong : ChangeSpec := { name := "fnExactForwardActs", fn := fun _ => fun
  | [d1, d2, d3, d4, d5, d6, d7] => { results := [.lit (.bool false)], args := [d1, d2, d3, d4, d5, d6, d7] }
  | _ => none }
def FnExactForwardActsWrongFalsely : Prop := fnExactForwardActsRow.holds Tryz.pinned (OpenSpec.ofChange fnExactForwardActsWrong)

/-- 'laws.FnExactNext': WHATEVER THE INPUT: true; the input reads as it did. -/
def fnExactNextSpec : ChangeSpec := { name := "fnExactNext", fn := fun _ => fun
  | [d1, d2, d3] => { results := [.lit (.bool true)], args := [d1, d2, d3] }
  | _ => none }
def fnExactNextRow : OpenClaim := { program := "ytamaohgddfjjoaagreat", sum := "a430e6cbe8eb05bc967e5d98c79e4495e8bc7f1de21430cac42db4779076c6ee", func := "loop.example/g00391/laws.FnExactNext", spec := "fnExactNext", inPlace := ["internal/bytealg.abigen_runtime_cmpstring", "slices.overlaps[loop.example/g00391/impl.Named]", "slices.overlaps[loop.example/g00391/impl.Bind]"], unfollowed := true, recurses := true, apart := false }
def FnExactNextSaid : Prop := fnExactNextRow.holds Tryz.pinned (OpenSpec.ofChange fnExactNextSpec)

/-- ITS FALSE NEIGHBOUR: 'it returns false'. Refute it at one input. -/
def fnExactNextWrong : ChangeSpec := { name := "fnExactNext", fn := fun _ => fun
  | [d1, d2, d3] => { results := [.lit (.bool false)], args := [d1, d2, d3] }
  | _ => none }
def FnExactNextWrongFalsely : Prop := fnExactNextRow.holds Tryz.pinned (OpenSpec.ofChange fnExactNextWrong)

/-- 'laws.FnExactReplay': WHATEVER THE INPUT: true; the input reads as it did. -/
def fnExactReplaySpec : ChangeSpec := { name := "fnExactReplay", fn := fun _ => fun
  | [d1, d2, d3] => { results := [.lit (.bool true)], args := [d1, d2, d3] }
  | _ => none }
def fnExactReplayRow : OpenClaim := { program := "ytamaohgddfjjoaagreat", sum := "a430e6cbe8eb05bc967e5d98c79e4495e8bc7f1de21430cac42db4779076c6ee", func := "loop.example/g00391/laws.FnExactReplay", spec := "fnExactReplay", inPlace := ["internal/bytealg.abigen_runtime_cmpstring", "slices.overlaps[loop.example/g00391/impl.Named]", "slices.overlaps[loop.example/g00391/impl.Bind]"], unfollowed := true, recurses := true, apart := false }
def FnExactReplaySaid : Prop := fnExactReplayRow.holds Tryz.pinned (OpenSpec.ofChange fnExactReplaySpec)

/-- ITS FALSE NEIGHBOUR: 'it returns false'. Refute it at one input. -/
def fnExactReplayWrong : ChangeSpec := { name := "fnExactReplay", fn := fun _ => fun
  | [d1, d2, d3] => { results := [.lit (.bool false)], args := [d1, d2, d3] }
  | _ => none }
def FnExactReplayWrongFalsely : Prop := fnExactReplayRow.holds Tryz.pinned (OpenSpec.ofChange fnExactReplayWrong)

/- THE SECOND FORM. 'bulk': how many values and letters a reading holds, each counted each time it is reached (what is shared counts as often as it is met; a slice's spare places count too). A statement '..UptoSaid' is the law's where the arguments, and the package variables that the reading takes, are together of bulk at most 1048576: NARROWER than '..Said'. Prove '..Said' where nothing that the law and all that it calls make is longer than what came in: it says more and counts as full. Else prove '..UptoSaid'. A law counts once. -/
mutual
def uptoBulk {H : Type} : DataW H → Nat
  | .lit (.string bytes) => bytes.length + 1
  | .lit _ => 1
  | .nil => 1
  | .ptr d => uptoBulk d + 1
  | .slice elems spare => uptoBulkAll elems + uptoBulkAll spare + 1
  | .agg parts => uptoBulkAll parts + 1
  | .iface _ d => uptoBulk d + 1
  | .map entries => uptoBulkEntries entries + 1
  | .held _ => 1
def uptoBulkAll {H : Type} : List (DataW H) → Nat
  | [] => 0
  | d :: r => uptoBulk d + uptoBulkAll r
def uptoBulkEntries {H : Type} : List (Lit × DataW H) → Nat
  | [] => 0
  | x :: r => uptoBulkEntry x + uptoBulkEntries r
def uptoBulkEntry {H : Type} : Lit × DataW H → Nat
  | (.string bytes, d) => bytes.length + uptoBulk d + 1
  | (_, d) => uptoBulk d + 1
 end
def uptoSmall : (H : Type) → List (DataW H) → Bool := fun _ ds => decide (uptoBulkAll ds ≤ 1048576)
def OpenSpec.upto (s : _root_.Go.ChangeSpec) : _root_.Go.OpenSpec := { _root_.Go.OpenSpec.ofChange s with cond := some uptoSmall }

/-- 'laws.FnExactViewDelta', WHERE WHAT IT READS IS OF BULK AT MOST 1048576: true; the input reads as it did. -/
def fnExactViewDeltaUptoRow : OpenClaim := { program := "ytamaohgddfjjoaagreat", sum := "a430e6cbe8eb05bc967e5d98c79e4495e8bc7f1de21430cac42db4779076c6ee", func := "loop.example/g00391/laws.FnExactViewDelta", spec := "fnExactViewDelta", inPlace := ["internal/bytealg.abigen_runtime_cmpstring", "slices.overlaps[loop.example/g00391/impl.Named]", "slices.overlaps[loop.example/g00391/impl.Bind]"], unfollowed := true, recurses := true, apart := false, narrowed := true }
def FnExactViewDeltaUptoSaid : Prop := fnExactViewDeltaUptoRow.holds Tryz.pinned (OpenSpec.upto fnExactViewDeltaSpec)

/-- 'laws.FnExactFire', WHERE WHAT IT READS IS OF BULK AT MOST 1048576: true; the input reads as it did. -/
def fnExactFireUptoRow : OpenClaim := { program := "ytamaohgddfjjoaagreat", sum := "a430e6cbe8eb05bc967e5d98c79e4495e8bc7f1de21430cac42db4779076c6ee", func := "loop.example/g00391/laws.FnExactFire", spec := "fnExactFire", inPlace := ["internal/bytealg.abigen_runtime_cmpstring", "slices.overlaps[loop.example/g00391/impl.Named]", "slices.overlaps[loop.example/g00391/impl.Bind]"], unfollowed := true, recurses := true, apart := false, narrowed := true }
def FnExactFireUptoSaid : Prop := fnExactFireUptoRow.holds Tryz.pinned (OpenSpec.upto fnExactFireSpec)

/-- 'laws.FnExactForwardActs', WHERE WHAT IT READS IS OF BULK AT MOST 1048576: true; the input reads as it did. -/
def fnExactForwardActsUptoRow : OpenClaim := { program := "ytamaohgddfjjoaagreat", sum := "a430e6cbe8eb05bc967e5d98c79e4495e8bc7f1de21430cac42db4779076c6ee", func := "loop.example/g00391/laws.FnExactForwardActs", spec := "fnExactForwardActs", inPlace := ["internal/bytealg.abigen_runtime_cmpstring", "slices.overlaps[loop.example/g00391/impl.Named]", "slices.overlaps[loop.example/g00391/impl.Bind]"], unfollowed := true, recurses := true, apart := false, narrowed := true }
def FnExactForwardActsUptoSaid : Prop := fnExactForwardActsUptoRow.holds Tryz.pinned (OpenSpec.upto fnExactForwardActsSpec)

/-- 'laws.FnExactNext', WHERE WHAT IT READS IS OF BULK AT MOST 1048576: true; the input reads as it did. -/
def fnExactNextUptoRow : OpenClaim := { program := "ytamaohgddfjjoaagreat", sum := "a430e6cbe8eb05bc967e5d98c79e4495e8bc7f1de21430cac42db4779076c6ee", func := "loop.example/g00391/laws.FnExactNext", spec := "fnExactNext", inPlace := ["internal/bytealg.abigen_runtime_cmpstring", "slices.overlaps[loop.example/g00391/impl.Named]", "slices.overlaps[loop.example/g00391/impl.Bind]"], unfollowed := true, recurses := true, apart := false, narrowed := true }
def FnExactNextUptoSaid : Prop := fnExactNextUptoRow.holds Tryz.pinned (OpenSpec.upto fnExactNextSpec)

/-- 'laws.FnExactReplay', WHERE WHAT IT READS IS OF BULK AT MOST 1048576: true; the input reads as it did. -/
def fnExactReplayUptoRow : OpenClaim := { program := "ytamaohgddfjjoaagreat", sum := "a430e6cbe8eb05bc967e5d98c79e4495e8bc7f1de21430cac42db4779076c6ee", func := "loop.example/g00391/laws.FnExactReplay", spec := "fnExactReplay", inPlace := ["internal/bytealg.abigen_runtime_cmpstring", "slices.overlaps[loop.example/g00391/impl.Named]", "slices.overlaps[loop.example/g00391/impl.Bind]"], unfollowed := true, recurses := true, apart := false, narrowed := true }
def FnExactReplayUptoSaid : Prop := fnExactReplayUptoRow.holds Tryz.pinned (OpenSpec.upto fnExactReplaySpec)

end Rows
end Go.Proofs.YtamaohgddfjjoaaGreat
