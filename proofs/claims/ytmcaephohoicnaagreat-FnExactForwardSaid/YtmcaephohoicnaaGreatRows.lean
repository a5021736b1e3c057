/-
  No cell of these rows narrows 'for every input' (looked for: loops, veiled, ifaces, maps, wideKeys, modest, calm, conditions, laid).
  DERIVED. THE GIVEN ROWS OF THIS SEAT. 5 by the template 'for every input the law returns true; each argument reads behind the call as it read before'; 0 by the template 'total and deterministic' (their statements: YtmcaephohoicnaaGreatTotals.lean).
  GIVEN WITH THE SEED: the statements are not yours to turn. If you find one false, say at which input.
  Laid BY PROGRAM, IN A SANDBOX (cutbox-rows.mjs): the forced cells as the released guide's own fill.sh prints them over the translation 004d53caa12a7c5a… (all of the seat's roots in one cut). By AI agents, Wed Nov 11 2026. No macro, syntax, notation, axiom, sorry.
-/
import Derived.Test.YtmcaephohoicnaaGreatChecked
import GoSem.Claim
import GoSem.ClaimJoined
import GoSem.ClaimMapViews
import Derived.JoinedTies
import Derived.KernelRfl
namespace Go.Proofs.YtmcaephohoicnaaGreat
/- THE CELL 'sum', in the pinned program and in every row, IS THE sha256 OF THE DUMP (.gsa) THAT YtmcaephohoicnaaGreatProg.lean LOADS. Nothing in Lean hashes anything: it is a label: what it is worth is what the hold of that sum in a sandbox is worth. -/
noncomputable def Tryz.pinned : Pinned := { name := "ytmcaephohoicnaagreat", sum := "004d53caa12a7c5ac6f296af8464b67022e4f9ee5367e536b9f3c6214801cc9a", checked := Tryz.checked }
namespace Rows
def none {H : Type} : Left H := { results := [], args := [] }

/-- 'laws.FnExactHeads': WHATEVER THE INPUT: true; the input reads as it did. -/
def fnExactHeadsSpec : ChangeSpec := { name := "fnExactHeads", fn := fun _ => fun
  | [d1, d2] => { results := [.lit (.bool true)], args := [d1, d2] }
  | _ => none }
def fnExactHeadsRow : OpenClaim := { program := "ytmcaephohoicnaagreat", sum := "004d53caa12a7c5ac6f296af8464b67022e4f9ee5367e536b9f3c6214801cc9a", func := "loop.example/g00391/laws.FnExactHeads", spec := "fnExactHeads", inPlace := ["internal/bytealg.abigen_runtime_cmpstring", "slices.overlaps[loop.example/g00391/impl.Bind]"], unfollowed := true, recurses := true, apart := false }
def FnExactHeadsSaid : Prop := fnExactHeadsRow.holds Tryz.pinned (OpenSpec.ofChange fnExactHeadsSpec)

/-- ITS FALSE NEIGHBOUR: 'it returns false'. Refute it at one input. -/
def fnExactHeadsWrong : ChangeSpec := { name := "fnExactHeads", fn := fun _ => fun
  | [d1, d2] => { results := [.lit (.bool false)], args := [d1, d2] }
  | _ => none }
def FnExactHeadsWrongFalsely : Prop := fnExactHeadsRow.holds Tryz.pinned (OpenSpec.ofChange fnExactHeadsWrong)

/-- 'laws.FnExactIsViews': WHATEVER THE INPUT: true; the input reads as it did. -/
def fnExactIsViewsSpec : ChangeSpec := { name := "fnExactIsViews", fn := fun _ => fun
  | [d1, d2, d3] => { results := [.lit (.bool true)], args := [d1, d2, d3] }
  | _ => none }
def fnExactIsViewsRow : OpenClaim := { program := "ytmcaephohoicnaagreat", sum := "004d53caa12a7c5ac6f296af8464b67022e4f9ee5367e536b9f3c6214801cc9a", func := "loop.example/g00391/laws.FnExactIsViews", spec := "fnExactIsViews", inPlace := ["internal/bytealg.abigen_runtime_cmpstring", "slices.overlaps[loop.example/g00391/impl.Named]", "slices.overlaps[loop.example/g00391/impl.Bind]"], unfollowed := true, recurses := true, apart := false }
def FnExactIsViewsSaid : Prop := fnExactIsViewsRow.holds Tryz.pinned (OpenSpec.ofChange fnExactIsViewsSpec)

/-- ITS FALSE NEIGHBOUR: 'it returns false'. Refute it at one input. -/
def fnExactIsViewsWrong : ChangeSpec := { name := "fnExactIsViews", fn := fun _ => fun
  | [d1, d2, d3] => { results := [.lit (.bool false)], args := [d1, d2, d3] }
  | _ => none }
def FnExactIsViewsWrongFalsely : Prop := fnExactIsViewsRow.holds Tryz.pinned (OpenSpec.ofChange fnExactIsViewsWrong)

/-- 'laws.FnExactWithViews': WHATEVER THE INPUT: true; the input reads as it did. -/
def fnExactWithViewsSpec : ChangeSpec := { name := "fnExactWithViews", fn := fun _ => fun
  | [d1, d2] => { results := [.lit (.bool true)], args := [d1, d2] }
  | _ => none }
def fnExactWithViewsRow : OpenClaim := { program := "ytmcaephohoicnaagreat", sum := "004d53caa12a7c5ac6f296af8464b67022e4f9ee5367e536b9f3c6214801cc9a", func := "loop.example/g00391/laws.FnExactWithViews", spec := "fnExactWithViews", inPlace := ["internal/bytealg.abigen_runtime_cmpstring", "slices.overlaps[loop.example/g00391/impl.Named]", "slices.overlaps[loop.example/g00391/impl.Bind]"], unfollowed := true, recurses := true, apart := false }
def FnExactWithViewsSaid : Prop := fnExactWithViewsRow.holds Tryz.pinned (OpenSpec.ofChange fnExactWithViewsSpec)

/-- ITS FALSE NEIGHBOUR: 'it returns false'. Refute it at one input. -/
def fnExactWithViewsWrong : ChangeSpec := { name := "fnExactWithViews", fn := fun _ => fun
  | [d1, d2] => { results := [.lit (.bool false)], args := [d1, d2] }
  | _ => none }
def FnExactWithViewsWrongFalsely : Prop := fnExactWithViewsRow.holds Tryz.pinned (OpenSpec.ofChange fnExactWithViewsWrong)

/-- 'laws.FnExactViews': WHATEVER THE INPUT: true; the input reads as it did. -/
def fnExactViewsSpec : ChangeSpec := { name := "fnExactViews", fn := fun _ => fun
  | [d1, d2] => { results := [.lit (.bool true)], args := [d1, d2] }
  | _ => none }
def fnExactViewsRow : OpenClaim := { program := "ytmcaephohoicnaagreat", sum := "004d53caa12a7c5ac6f296af8464b67022e4f9ee5367e536b9f3c6214801cc9a", func := "loop.example/g00391/laws.FnExactViews", spec := "fnExactViews", inPlace := ["internal/bytealg.abigen_runtime_cmpstring", "slices.overlaps[loop.example/g00391/impl.Named]", "slices.overlaps[loop.example/g00391/impl.Bind]"], unfollowed := true, recurses := true, apart := false }
def FnExactViewsSaid : Prop := fnExactViewsRow.holds Tryz.pinned (OpenSpec.ofChange fnExactViewsSpec)

/-- ITS FALSE NEIGHBOUR: 'it returns false'. Refute it at one input. -/
def fnExactViewsWrong : ChangeSpec := { name := "fnExactViews", fn := fun _ => fun
  | [d1, d2] => { results := [.lit (.bool false)], args := [d1, d2] }
  | _ => none }
def FnExactViewsWrongFalsely : Prop := fnExactViewsRow.holds Tryz.pinned (OpenSpec.ofChange fnExactViewsWrong)

/-- 'laws.FnExactForward': WHATEVER THE INPUT: true; the input reads as it did. -/
def fnExactForwardSpec : ChangeSpec := { name := "fnExactForward", fn := fun _ => fun
  | [d1, d2, d3, d4, d5, d6] => { results := [.lit (.bool true)], args := [d1, d2, d3, d4, d5, d6] }
  | _ => none }
def fnExactForwardRow : OpenClaim := { program := "ytmcaephohoicnaagreat", sum := "004d53caa12a7c5ac6f296af8464b67022e4f9ee5367e536b9f3c6214801cc9a", func := "loop.example/g00391/laws.FnExactForward", spec := "fnExactForward", inPlace := ["internal/bytealg.abigen_runtime_cmpstring", "slices.overlaps[loop.example/g00391/impl.Named]", "slices.overlaps[loop.example/g00391/impl.Bind]"], unfollowed := true, recurses := true, apart := false }
def FnExactForwardSaid : Prop := fnExactForwardRow.holds Tryz.pinned (OpenSpec.ofChange fnExactForwardSpec)

/-- ITS FALSE NEIGHBOUR: 'it returns false'. Refute it at one input. -/
def fnExactForwardWrong : ChangeSpec := { name := "fnExactForward", fn := fun _ => fun
  | [d1, d2, d3, d4, d5, d6] => { results := [.lit (.bool false)], args := [d1, d2, d3, d4, d5, d6] }
  | _ => none }
def FnExactForwardWrongFalsely : Prop := fnExactForwardRow.holds Tryz.pinned (OpenSpec.ofChange fnExactForwardWrong)

/- THE SECOND FORM. 'bulk': how many values and letters a reading holds, each counted each time it is reached (what is shared counts as often as it is met; a slice's spare places count too). A statement '..UptoSaid' is the law's where the arguments, and the package variables that the reading takes, are together of bulk at most 1048576: NARROWER than '..Said'. Prove '..Said' where nothing that the law and all that it calls make is longer than what came in: it says more and counts as full. Else prove '..UptoSaid'. A law counts once. -/
mutual
def uptoBulk {H : Type} : DataW H → Nat
  | .lit (.string bytes) => bytes.length + 1
  | .lit _ => 1
  | .nil => 1
  | .ptr d => uptoBulk d + 1
  | .slice elems spare => uptoBulkAll elems + uptoBulkAll spare + 1
  | .agg parts => uptoBulkAll parts + 1
  | .iface _ d => uptoBulk d + 1
  | .map entries => uptoBulkEntries entries + 1
  | .held _ => 1
def uptoBulkAll {H : Type} : List (DataW H) → Nat
  | [] => 0
  | d :: r => uptoBulk d + uptoBulkAll r
def uptoBulkEntries {H : Type} : List (Lit × DataW H) → Nat
  | [] => 0
  | x :: r => uptoBulkEntry x + uptoBulkEntries r
def uptoBulkEntry {H : Type} : Lit × DataW H → Nat
  | (.string bytes, d) => bytes.length + uptoBulk d + 1
  | (_, d) => uptoBulk d + 1
 end
def uptoSmall : (H : Type) → List (DataW H) → Bool := fun _ ds => decide (uptoBulkAll ds ≤ 1048576)
def OpenSpec.upto (s : _root_.Go.ChangeSpec) : _root_.Go.OpenSpec := { _root_.Go.OpenSpec.ofChange s with cond := some uptoSmall }

/-- 'laws.FnExactHeads', WHERE WHAT IT READS IS OF BULK AT MOST 1048576: true; the input reads as it did. -/
def fnExactHeadsUptoRow : OpenClaim := { program := "ytmcaephohoicnaagreat", sum := "004d53caa12a7c5ac6f296af8464b67022e4f9ee5367e536b9f3c6214801cc9a", func := "loop.example/g00391/laws.FnExactHeads", spec := "fnExactHeads", inPlace := ["internal/bytealg.abigen_runtime_cmpstring", "slices.overlaps[loop.example/g00391/impl.Bind]"], unfollowed := true, recurses := true, apart := false, narrowed := true }
def FnExactHeadsUptoSaid : Prop := fnExactHeadsUptoRow.holds Tryz.pinned (OpenSpec.upto fnExactHeadsSpec)

/-- 'laws.FnExactIsViews', WHERE WHAT IT READS IS OF BULK AT MOST 1048576: true; the input reads as it did. -/
def fnExactIsViewsUptoRow : OpenClaim := { program := "ytmcaephohoicnaagreat", sum := "004d53caa12a7c5ac6f296af8464b67022e4f9ee5367e536b9f3c6214801cc9a", func := "loop.example/g00391/laws.FnExactIsViews", spec := "fnExactIsViews", inPlace := ["internal/bytealg.abigen_runtime_cmpstring", "slices.overlaps[loop.example/g00391/impl.Named]", "slices.overlaps[loop.example/g00391/impl.Bind]"], unfollowed := true, recurses := true, apart := false, narrowed := true }
def FnExactIsViewsUptoSaid : Prop := fnExactIsViewsUptoRow.holds Tryz.pinned (OpenSpec.upto fnExactIsViewsSpec)

/-- 'laws.FnExactWithViews', WHERE WHAT IT READS IS OF BULK AT MOST 1048576: true; the input reads as it did. -/
def fnExactWithViewsUptoRow : OpenClaim := { program := "ytmcaephohoicnaagreat", sum := "004d53caa12a7c5ac6f296af8464b67022e4f9ee5367e536b9f3c6214801cc9a", func := "loop.example/g00391/laws.FnExactWithViews", spec := "fnExactWithViews", inPlace := ["internal/bytealg.abigen_runtime_cmpstring", "slices.overlaps[loop.example/g00391/impl.Named]", "slices.overlaps[loop.example/g00391/impl.Bind]"], unfollowed := true, recurses := true, apart := false, narrowed := true }
def FnExactWithViewsUptoSaid : Prop := fnExactWithViewsUptoRow.holds Tryz.pinned (OpenSpec.upto fnExactWithViewsSpec)

/-- 'laws.FnExactViews', WHERE WHAT IT READS IS OF BULK AT MOST 1048576: true; the input reads as it did. -/
def fnExactViewsUptoRow : OpenClaim := { program := "ytmcaephohoicnaagreat", sum := "004d53caa12a7c5ac6f296af8464b67022e4f9ee5367e536b9f3c6214801cc9a", func := "loop.example/g00391/laws.FnExactViews", spec := "fnExactViews", inPlace := ["internal/bytealg.abigen_runtime_cmpstring", "slices.overlaps[loop.example/g00391/impl.Named]", "slices.overlaps[loop.example/g00391/impl.Bind]"], unfollowed := true, recurses := true, apart := false, narrowed := true }
def FnExactViewsUptoSaid : Prop := fnExactViewsUptoRow.holds Tryz.pinned (OpenSpec.upto fnExactViewsSpec)

/-- 'laws.FnExactForward', WHERE WHAT IT READS IS OF BULK AT MOST 1048576: true; the input reads as it did. -/
def fnExactForwardUptoRow : OpenClaim := { program := "ytmcaephohoicnaagreat", sum := "004d53caa12a7c5ac6f296af8464b67022e4f9ee5367e536b9f3c6214801cc9a", func := "loop.example/g00391/laws.FnExactForward", spec := "fnExactForward", inPlace := ["internal/bytealg.abigen_runtime_cmpstring", "slices.overlaps[loop.example/g00391/impl.Named]", "slices.overlaps[loop.example/g00391/impl.Bind]"], unfollowed := true, recurses := true, apart := false, narrowed := true }
def FnExactForwardUptoSaid : Prop := fnExactForwardUptoRow.holds Tryz.pinned (OpenSpec.upto fnExactForwardSpec)

end Rows
end Go.Proofs.YtmcaephohoicnaaGreat
