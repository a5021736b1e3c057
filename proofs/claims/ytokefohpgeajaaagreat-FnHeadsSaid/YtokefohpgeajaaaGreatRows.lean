/-
  No cell of these rows narrows 'for every input' (looked for: loops, veiled, ifaces, maps, wideKeys, modest, calm, conditions, laid).
  DERIVED. THE GIVEN ROWS OF THIS SEAT. 6 by the template 'for every input the law returns true; each argument reads behind the call as it read before'; 0 by the template 'total and deterministic' (their statements: YtokefohpgeajaaaGreatTotals.lean).
  GIVEN WITH THE SEED: the statements are not yours to turn. If you find one false, say at which input.
  Laid BY PROGRAM, IN A SANDBOX (cutbox-rows.mjs): the forced cells as the released guide's own fill.sh prints them over the translation f5979f32fb4e52b1… (all of the seat's roots in one cut). By AI agents, Wed Nov 11 2026. No macro, syntax, notation, axiom, sorry.
-/
import Derived.Test.YtokefohpgeajaaaGreatChecked
import GoSem.Claim
import GoSem.ClaimJoined
import GoSem.ClaimMapViews
import Derived.JoinedTies
import Derived.KernelRfl
namespace Go.Proofs.YtokefohpgeajaaaGreat
/- THE CELL 'sum', in the pinned program and in every row, IS THE sha256 OF THE DUMP (.gsa) THAT YtokefohpgeajaaaGreatProg.lean LOADS. Nothing in Lean hashes anything: it is a label: what it is worth is what the hold of that sum in a sandbox is worth. -/
noncomputable def Tryz.pinned : Pinned := { name := "ytokefohpgeajaaagreat", sum := "f5979f32fb4e52b1f11d73469042fb731b48abe5d7cb838a7ee02c0cbce330de", checked := Tryz.checked }
namespace Rows
def none {H : Type} : Left H := { results := [], args := [] }

/-- 'laws.FnLevels': WHATEVER THE INPUT: true; the input reads as it did. -/
def fnLevelsSpec : ChangeSpec := { name := "fnLevels", fn := fun _ => fun
  | [d] => { results := [.lit (.bool true)], args := [d] }
  | _ => none }
def fnLevelsRow : OpenClaim := { program := "ytokefohpgeajaaagreat", sum := "f5979f32fb4e52b1f11d73469042fb731b48abe5d7cb838a7ee02c0cbce330de", func := "loop.example/g00391/laws.FnLevels", spec := "fnLevels", inPlace := ["internal/bytealg.abigen_runtime_cmpstring"], unfollowed := true, recurses := true, apart := false }
def FnLevelsSaid : Prop := fnLevelsRow.holds Tryz.pinned (OpenSpec.ofChange fnLevelsSpec)

/-- ITS FALSE NEIGHBOUR: 'it returns false'. Refute it at one input. -/
def fnLevelsWrong : ChangeSpec := { name := "fnLevels", fn := fun _ => fun
  | [d] => { results := [.lit (.bool false)], args := [d] }
  | _ => none }
def FnLevelsWrongFalsely : Prop := fnLevelsRow.holds Tryz.pinned (OpenSpec.ofChange fnLevelsWrong)

/-- 'laws.FnExactAccept': WHATEVER THE INPUT: true; the input reads as it did. -/
def fnExactAcceptSpec : ChangeSpec := { name := "fnExactAccept", fn := fun _ => fun
  | [d] => { results := [.lit (.bool true)], args := [d] }
  | _ => none }
def fnExactAcceptRow : OpenClaim := { program := "ytokefohpgeajaaagreat", sum := "f5979f32fb4e52b1f11d73469042fb731b48abe5d7cb838a7ee02c0cbce330de", func := "loop.example/g00391/laws.FnExactAccept", spec := "fnExactAccept", inPlace := ["internal/bytealg.IndexByteString", "internal/bytealg.abigen_runtime_cmpstring"], unfollowed := true, recurses := true, apart := false }
def FnExactAcceptSaid : Prop := fnExactAcceptRow.holds Tryz.pinned (OpenSpec.ofChange fnExactAcceptSpec)

/-- ITS FALSE NEIGHBOUR: 'it returns false'. Refute it at one input. -/
def fnExactAcceptWrong : ChangeSpec := { name := "fnExactAccept", fn := fun _ => fun
  | [d] => { results := [.lit (.bool false)], args := [d] }
  | _ => none }
def FnExactAcceptWrongFalsely : Prop := fnExactAcceptRow.holds Tryz.pinned (OpenSpec.ofChange fnExactAcceptWrong)

/-- 'laws.FnRemark': WHATEVER THE INPUT: true; the input reads as it did. -/
def fnRemarkSpec : ChangeSpec := { name := "fnRemark", fn := fun _ => fun
  | [d] => { results := [.lit (.bool true)], args := [d] }
  | _ => none }
def fnRemarkRow : OpenClaim := { program := "ytokefohpgeajaaagreat", sum := "f5979f32fb4e52b1f11d73469042fb731b48abe5d7cb838a7ee02c0cbce330de", func := "loop.example/g00391/laws.FnRemark", spec := "fnRemark", inPlace := ["internal/bytealg.IndexByteString", "internal/bytealg.abigen_runtime_cmpstring"], unfollowed := true, recurses := true, apart := false }
def FnRemarkSaid : Prop := fnRemarkRow.holds Tryz.pinned (OpenSpec.ofChange fnRemarkSpec)

/-- ITS FALSE NEIGHBOUR: 'it returns false'. Refute it at one input. -/
def fnRemarkWrong : ChangeSpec := { name := "fnRemark", fn := fun _ => fun
  | [d] => { results := [.lit (.bool false)], args := [d] }
  | _ => none }
def FnRemarkWrongFalsely : Prop := fnRemarkRow.holds Tryz.pinned (OpenSpec.ofChange fnRemarkWrong)

/-- 'laws.FnAccept': WHATEVER THE INPUT: true; the input reads as it did. -/
def fnAcceptSpec : ChangeSpec := { name := "fnAccept", fn := fun _ => fun
  | [d] => { results := [.lit (.bool true)], args := [d] }
  | _ => none }
def fnAcceptRow : OpenClaim := { program := "ytokefohpgeajaaagreat", sum := "f5979f32fb4e52b1f11d73469042fb731b48abe5d7cb838a7ee02c0cbce330de", func := "loop.example/g00391/laws.FnAccept", spec := "fnAccept", inPlace := ["internal/bytealg.IndexByteString", "internal/bytealg.abigen_runtime_cmpstring", "internal/abi.NoEscape", "internal/bytealg.MakeNoZero"], unfollowed := true, recurses := true, apart := false }
def FnAcceptSaid : Prop := fnAcceptRow.holds Tryz.pinned (OpenSpec.ofChange fnAcceptSpec)

/-- ITS FALSE NEIGHBOUR: 'it returns false'. Refute it at one input. -/
def fnAcceptWrong : ChangeSpec := { name := "fnAccept", fn := fun _ => fun
  | [d] => { results := [.lit (.bool false)], args := [d] }
  | _ => none }
def FnAcceptWrongFalsely : Prop := fnAcceptRow.holds Tryz.pinned (OpenSpec.ofChange fnAcceptWrong)

/-- 'laws.FnBodies': WHATEVER THE INPUT: true; the input reads as it did. -/
def fnBodiesSpec : ChangeSpec := { name := "fnBodies", fn := fun _ => fun
  | [d] => { results := [.lit (.bool true)], args := [d] }
  | _ => none }
def fnBodiesRow : OpenClaim := { program := "ytokefohpgeajaaagreat", sum := "f5979f32fb4e52b1f11d73469042fb731b48abe5d7cb838a7ee02c0cbce330de", func := "loop.example/g00391/laws.FnBodies", spec := "fnBodies", inPlace := ["internal/bytealg.abigen_runtime_cmpstring", "slices.overlaps[loop.example/g00391/impl.Bind]"], unfollowed := true, recurses := true, apart := false }
def FnBodiesSaid : Prop := fnBodiesRow.holds Tryz.pinned (OpenSpec.ofChange fnBodiesSpec)

/-- ITS FALSE NEIGHBOUR: 'it returns false'. Refute it at one input. -/
def fnBodiesWrong : ChangeSpec := { name := "fnBodies", fn := fun _ => fun
  | [d] => { results := [.lit (.bool false)], args := [d] }
  | _ => none }
def FnBodiesWrongFalsely : Prop := fnBodiesRow.holds Tryz.pinned (OpenSpec.ofChange fnBodiesWrong)

/-- 'laws.FnHeads': WHATEVER THE INPUT: true; the input reads as it did. -/
def fnHeadsSpec : ChangeSpec := { name := "fnHeads", fn := fun _ => fun
  | [d] => { results := [.lit (.bool true)], args := [d] }
  | _ => none }
def fnHeadsRow : OpenClaim := { program := "ytokefohpgeajaaagreat", sum := "f5979f32fb4e52b1f11d73469042fb731b48abe5d7cb838a7ee02c0cbce330de", func := "loop.example/g00391/laws.FnHeads", spec := "fnHeads", inPlace := ["internal/bytealg.abigen_runtime_cmpstring", "slices.overlaps[loop.example/g00391/impl.Bind]"], unfollowed := true, recurses := true, apart := false }
def FnHeadsSaid : Prop := fnHeadsRow.holds Tryz.pinned (OpenSpec.ofChange fnHeadsSpec)

/-- ITS FALSE NEIGHBOUR: 'it returns false'. Refute it at one input. -/
def fnHeadsWrong : ChangeSpec := { name := "fnHeads", fn := fun _ => fun
  | [d] => { results := [.lit (.bool false)], args := [d] }
  | _ => none }
def FnHeadsWrongFalsely : Prop := fnHeadsRow.holds Tryz.pinned (OpenSpec.ofChange fnHeadsWrong)

/- THE SECOND FORM. 'bulk': how many values and letters a reading holds, each counted each time it is reached (what is shared counts as often as it is met; a slice's spare places count too). A statement '..UptoSaid' is the law's where the arguments, and the package variables that the reading takes, are together of bulk at most 1048576: NARROWER than '..Said'. Prove '..Said' where nothing that the law and all that it calls make is longer than what came in: it says more and counts as full. Else prove '..UptoSaid'. A law counts once. -/
mutual
def uptoBulk {H : Type} : DataW H → Nat
  | .lit (.string bytes) => bytes.length + 1
  | .lit _ => 1
  | .nil => 1
  | .ptr d => uptoBulk d + 1
  | .slice elems spare => uptoBulkAll elems + uptoBulkAll spare + 1
  | .agg parts => uptoBulkAll parts + 1
  | .iface _ d => uptoBulk d + 1
  | .map entries => uptoBulkEntries entries + 1
  | .held _ => 1
def uptoBulkAll {H : Type} : List (DataW H) → Nat
  | [] => 0
  | d :: r => uptoBulk d + uptoBulkAll r
def uptoBulkEntries {H : Type} : List (Lit × DataW H) → Nat
  | [] => 0
  | x :: r => uptoBulkEntry x + uptoBulkEntries r
def uptoBulkEntry {H : Type} : Lit × DataW H → Nat
  | (.string bytes, d) => bytes.length + uptoBulk d + 1
  | (_, d) => uptoBulk d + 1
 end
def uptoSmall : (H : Type) → List (DataW H) → Bool := fun _ ds => decide (uptoBulkAll ds ≤ 1048576)
def OpenSpec.upto (s : _root_.Go.ChangeSpec) : _root_.Go.OpenSpec := { _root_.Go.OpenSpec.ofChange s with cond := some uptoSmall }

/-- 'laws.FnLevels', WHERE WHAT IT READS IS OF BULK AT MOST 1048576: true; the input reads as it did. -/
def fnLevelsUptoRow : OpenClaim := { program := "ytokefohpgeajaaagreat", sum := "f5979f32fb4e52b1f11d73469042fb731b48abe5d7cb838a7ee02c0cbce330de", func := "loop.example/g00391/laws.FnLevels", spec := "fnLevels", inPlace := ["internal/bytealg.abigen_runtime_cmpstring"], unfollowed := true, recurses := true, apart := false, narrowed := true }
def FnLevelsUptoSaid : Prop := fnLevelsUptoRow.holds Tryz.pinned (OpenSpec.upto fnLevelsSpec)

/-- 'laws.FnExactAccept', WHERE WHAT IT READS IS OF BULK AT MOST 1048576: true; the input reads as it did. -/
def fnExactAcceptUptoRow : OpenClaim := { program := "ytokefohpgeajaaagreat", sum := "f5979f32fb4e52b1f11d73469042fb731b48abe5d7cb838a7ee02c0cbce330de", func := "loop.example/g00391/laws.FnExactAccept", spec := "fnExactAccept", inPlace := ["internal/bytealg.IndexByteString", "internal/bytealg.abigen_runtime_cmpstring"], unfollowed := true, recurses := true, apart := false, narrowed := true }
def FnExactAcceptUptoSaid : Prop := fnExactAcceptUptoRow.holds Tryz.pinned (OpenSpec.upto fnExactAcceptSpec)

/-- 'laws.FnRemark', WHERE WHAT IT READS IS OF BULK AT MOST 1048576: true; the input reads as it did. -/
def fnRemarkUptoRow : OpenClaim := { program := "ytokefohpgeajaaagreat", sum := "f5979f32fb4e52b1f11d73469042fb731b48abe5d7cb838a7ee02c0cbce330de", func := "loop.example/g00391/laws.FnRemark", spec := "fnRemark", inPlace := ["internal/bytealg.IndexByteString", "internal/bytealg.abigen_runtime_cmpstring"], unfollowed := true, recurses := true, apart := false, narrowed := true }
def FnRemarkUptoSaid : Prop := fnRemarkUptoRow.holds Tryz.pinned (OpenSpec.upto fnRemarkSpec)

/-- 'laws.FnAccept', WHERE WHAT IT READS IS OF BULK AT MOST 1048576: true; the input reads as it did. -/
def fnAcceptUptoRow : OpenClaim := { program := "ytokefohpgeajaaagreat", sum := "f5979f32fb4e52b1f11d73469042fb731b48abe5d7cb838a7ee02c0cbce330de", func := "loop.example/g00391/laws.FnAccept", spec := "fnAccept", inPlace := ["internal/bytealg.IndexByteString", "internal/bytealg.abigen_runtime_cmpstring", "internal/abi.NoEscape", "internal/bytealg.MakeNoZero"], unfollowed := true, recurses := true, apart := false, narrowed := true }
def FnAcceptUptoSaid : Prop := fnAcceptUptoRow.holds Tryz.pinned (OpenSpec.upto fnAcceptSpec)

/-- 'laws.FnBodies', WHERE WHAT IT READS IS OF BULK AT MOST 1048576: true; the input reads as it did. -/
def fnBodiesUptoRow : OpenClaim := { program := "ytokefohpgeajaaagreat", sum := "f5979f32fb4e52b1f11d73469042fb731b48abe5d7cb838a7ee02c0cbce330de", func := "loop.example/g00391/laws.FnBodies", spec := "fnBodies", inPlace := ["internal/bytealg.abigen_runtime_cmpstring", "slices.overlaps[loop.example/g00391/impl.Bind]"], unfollowed := true, recurses := true, apart := false, narrowed := true }
def FnBodiesUptoSaid : Prop := fnBodiesUptoRow.holds Tryz.pinned (OpenSpec.upto fnBodiesSpec)

/-- 'laws.FnHeads', WHERE WHAT IT READS IS OF BULK AT MOST 1048576: true; the input reads as it did. -/
def fnHeadsUptoRow : OpenClaim := { program := "ytokefohpgeajaaagreat", sum := "f5979f32fb4e52b1f11d73469042fb731b48abe5d7cb838a7ee02c0cbce330de", func := "loop.example/g00391/laws.FnHeads", spec := "fnHeads", inPlace := ["internal/bytealg.abigen_runtime_cmpstring", "slices.overlaps[loop.example/g00391/impl.Bind]"], unfollowed := true, recurses := true, apart := false, narrowed := true }
def FnHeadsUptoSaid : Prop := fnHeadsUptoRow.holds Tryz.pinned (OpenSpec.upto fnHeadsSpec)

end Rows
end Go.Proofs.YtokefohpgeajaaaGreat
