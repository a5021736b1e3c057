/-
  No cell of these rows narrows 'for every input' (looked for: loops, veiled, ifaces, maps, wideKeys, modest, calm, conditions, laid).
  DERIVED. THE GIVEN ROWS OF THIS SEAT. 9 by the template 'for every input the law returns true; each argument reads behind the call as it read before'; 0 by the template 'total and deterministic' (their statements: YthlbadfickhkfaaGreatTotals.lean).
  GIVEN WITH THE SEED: the statements are not yours to turn. If you find one false, say at which input.
  Laid BY PROGRAM, IN A SANDBOX (cutbox-rows.mjs): the forced cells as the released guide's own fill.sh prints them over the translation a7a55575bbce13e4… (all of the seat's roots in one cut). By AI agents, Wed Nov 11 2026. No macro, syntax, notation, axiom, sorry.
-/
import Derived.Test.YthlbadfickhkfaaGreatChecked
import GoSem.Claim
import GoSem.ClaimJoined
import GoSem.ClaimMapViews
import Derived.JoinedTies
import Derived.KernelRfl
namespace Go.Proofs.YthlbadfickhkfaaGreat
/- THE CELL 'sum', in the pinned program and in every row, IS THE sha256 OF THE DUMP (.gsa) THAT YthlbadfickhkfaaGreatProg.lean LOADS. Nothing in Lean hashes anything: it is a label: what it is worth is what the hold of that sum in a sandbox is worth. -/
noncomputable def Tryz.pinned : Pinned := { name := "ythlbadfickhkfaagreat", sum := "a7a55575bbce13e4e12c4dee46db177a0c3c122ec08000523044fa3c49ede0a5", checked := Tryz.checked }
namespace Rows
def none {H : Type} : Left H := { results := [], args := [] }

/-- 'laws.FnExactEmptyStore': WHATEVER THE INPUT: true; the input reads as it did. -/
def fnExactEmptyStoreSpec : ChangeSpec := { name := "fnExactEmptyStore", fn := fun _ => fun
  | [d1, d2] => { results := [.lit (.bool true)], args := [d1, d2] }
  | _ => none }
def fnExactEmptyStoreRow : OpenClaim := { program := "ythlbadfickhkfaagreat", sum := "a7a55575bbce13e4e12c4dee46db177a0c3c122ec08000523044fa3c49ede0a5", func := "loop.example/g00391/laws.FnExactEmptyStore", spec := "fnExactEmptyStore", inPlace := ["slices.overlaps[loop.example/g00391/impl.Named]"], unfollowed := true, recurses := true, apart := false }
def FnExactEmptyStoreSaid : Prop := fnExactEmptyStoreRow.holds Tryz.pinned (OpenSpec.ofChange fnExactEmptyStoreSpec)

/-- ITS FALSE NEIGHBOUR: 'it returns false'. Refute it at one input. -/
def fnExactEmptyStoreWrong : ChangeSpec := { name := "fnExactEmptyStore", fn := fun _ => fun
  | [d1, d2] => { results := [.lit (.bool false)], args := [d1, d2] }
  | _ => none }
def FnExactEmptyStoreWrongFalsely : Prop := fnExactEmptyStoreRow.holds Tryz.pinned (OpenSpec.ofChange fnExactEmptyStoreWrong)

/-- 'laws.FnExactLevels': WHATEVER THE INPUT: true; the input reads as it did. -/
def fnExactLevelsSpec : ChangeSpec := { name := "fnExactLevels", fn := fun _ => fun
  | [d] => { results := [.lit (.bool true)], args := [d] }
  | _ => none }
def fnExactLevelsRow : OpenClaim := { program := "ythlbadfickhkfaagreat", sum := "a7a55575bbce13e4e12c4dee46db177a0c3c122ec08000523044fa3c49ede0a5", func := "loop.example/g00391/laws.FnExactLevels", spec := "fnExactLevels", inPlace := ["internal/bytealg.abigen_runtime_cmpstring"], unfollowed := true, recurses := true, apart := false }
def FnExactLevelsSaid : Prop := fnExactLevelsRow.holds Tryz.pinned (OpenSpec.ofChange fnExactLevelsSpec)

/-- ITS FALSE NEIGHBOUR: 'it returns false'. Refute it at one input. -/
def fnExactLevelsWrong : ChangeSpec := { name := "fnExactLevels", fn := fun _ => fun
  | [d] => { results := [.lit (.bool false)], args := [d] }
  | _ => none }
def FnExactLevelsWrongFalsely : Prop := fnExactLevelsRow.holds Tryz.pinned (OpenSpec.ofChange fnExactLevelsWrong)

/-- 'laws.FnExactGood': WHATEVER THE INPUT: true; the input reads as it did. -/
def fnExactGoodSpec : ChangeSpec := { name := "fnExactGood", fn := fun _ => fun
  | [d] => { results := [.lit (.bool true)], args := [d] }
  | _ => none }
def fnExactGoodRow : OpenClaim := { program := "ythlbadfickhkfaagreat", sum := "a7a55575bbce13e4e12c4dee46db177a0c3c122ec08000523044fa3c49ede0a5", func := "loop.example/g00391/laws.FnExactGood", spec := "fnExactGood", inPlace := ["internal/bytealg.abigen_runtime_cmpstring"], unfollowed := true, recurses := true, apart := false }
def FnExactGoodSaid : Prop := fnExactGoodRow.holds Tryz.pinned (OpenSpec.ofChange fnExactGoodSpec)

/-- ITS FALSE NEIGHBOUR: 'it returns false'. Refute it at one input. -/
def fnExactGoodWrong : ChangeSpec := { name := "fnExactGood", fn := fun _ => fun
  | [d] => { results := [.lit (.bool false)], args := [d] }
  | _ => none }
def FnExactGoodWrongFalsely : Prop := fnExactGoodRow.holds Tryz.pinned (OpenSpec.ofChange fnExactGoodWrong)

/-- 'laws.FnExactPlain': WHATEVER THE INPUT: true; the input reads as it did. -/
def fnExactPlainSpec : ChangeSpec := { name := "fnExactPlain", fn := fun _ => fun
  | [d] => { results := [.lit (.bool true)], args := [d] }
  | _ => none }
def fnExactPlainRow : OpenClaim := { program := "ythlbadfickhkfaagreat", sum := "a7a55575bbce13e4e12c4dee46db177a0c3c122ec08000523044fa3c49ede0a5", func := "loop.example/g00391/laws.FnExactPlain", spec := "fnExactPlain", inPlace := ["internal/bytealg.abigen_runtime_cmpstring"], unfollowed := true, recurses := true, apart := false }
def FnExactPlainSaid : Prop := fnExactPlainRow.holds Tryz.pinned (OpenSpec.ofChange fnExactPlainSpec)

/-- ITS FALSE NEIGHBOUR: 'it returns false'. Refute it at one input. -/
def fnExactPlainWrong : ChangeSpec := { name := "fnExactPlain", fn := fun _ => fun
  | [d] => { results := [.lit (.bool false)], args := [d] }
  | _ => none }
def FnExactPlainWrongFalsely : Prop := fnExactPlainRow.holds Tryz.pinned (OpenSpec.ofChange fnExactPlainWrong)

/-- 'laws.FnExactEventOk': WHATEVER THE INPUT: true; the input reads as it did. -/
def fnExactEventOkSpec : ChangeSpec := { name := "fnExactEventOk", fn := fun _ => fun
  | [d1, d2] => { results := [.lit (.bool true)], args := [d1, d2] }
  | _ => none }
def fnExactEventOkRow : OpenClaim := { program := "ythlbadfickhkfaagreat", sum := "a7a55575bbce13e4e12c4dee46db177a0c3c122ec08000523044fa3c49ede0a5", func := "loop.example/g00391/laws.FnExactEventOk", spec := "fnExactEventOk", inPlace := ["internal/bytealg.abigen_runtime_cmpstring"], unfollowed := true, recurses := true, apart := false }
def FnExactEventOkSaid : Prop := fnExactEventOkRow.holds Tryz.pinned (OpenSpec.ofChange fnExactEventOkSpec)

/-- ITS FALSE NEIGHBOUR: 'it returns false'. Refute it at one input. -/
def fnExactEventOkWrong : ChangeSpec := { name := "fnExactEventOk", fn := fun _ => fun
  | [d1, d2] => { results := [.lit (.bool false)], args := [d1, d2] }
  | _ => none }
def FnExactEventOkWrongFalsely : Prop := fnExactEventOkRow.holds Tryz.pinned (OpenSpec.ofChange fnExactEventOkWrong)

/-- 'laws.FnExactTouched': WHATEVER THE INPUT: true; the input reads as it did. -/
def fnExactTouchedSpec : ChangeSpec := { name := "fnExactTouched", fn := fun _ => fun
  | [d1, d2] => { results := [.lit (.bool true)], args := [d1, d2] }
  | _ => none }
def fnExactTouchedRow : OpenClaim := { program := "ythlbadfickhkfaagreat", sum := "a7a55575bbce13e4e12c4dee46db177a0c3c122ec08000523044fa3c49ede0a5", func := "loop.example/g00391/laws.FnExactTouched", spec := "fnExactTouched", inPlace := ["internal/bytealg.abigen_runtime_cmpstring"], unfollowed := true, recurses := true, apart := false }
def FnExactTouchedSaid : Prop := fnExactTouchedRow.holds Tryz.pinned (OpenSpec.ofChange fnExactTouchedSpec)

/-- ITS FALSE NEIGHBOUR: 'it returns false'. Refute it at one input. -/
def fnExactTouchedWrong : ChangeSpec := { name := "fnExactTouched", fn := fun _ => fun
  | [d1, d2] => { results := [.lit (.bool false)], args := [d1, d2] }
  | _ => none }
def FnExactTouchedWrongFalsely : Prop := fnExactTouchedRow.holds Tryz.pinned (OpenSpec.ofChange fnExactTouchedWrong)

/-- 'laws.FnExactStateOk': WHATEVER THE INPUT: true; the input reads as it did. -/
def fnExactStateOkSpec : ChangeSpec := { name := "fnExactStateOk", fn := fun _ => fun
  | [d1, d2] => { results := [.lit (.bool true)], args := [d1, d2] }
  | _ => none }
def fnExactStateOkRow : OpenClaim := { program := "ythlbadfickhkfaagreat", sum := "a7a55575bbce13e4e12c4dee46db177a0c3c122ec08000523044fa3c49ede0a5", func := "loop.example/g00391/laws.FnExactStateOk", spec := "fnExactStateOk", inPlace := ["internal/bytealg.abigen_runtime_cmpstring", "slices.overlaps[loop.example/g00391/impl.Named]"], unfollowed := true, recurses := true, apart := false }
def FnExactStateOkSaid : Prop := fnExactStateOkRow.holds Tryz.pinned (OpenSpec.ofChange fnExactStateOkSpec)

/-- ITS FALSE NEIGHBOUR: 'it returns false'. Refute it at one input. -/
def fnExactStateOkWrong : ChangeSpec := { name := "fnExactStateOk", fn := fun _ => fun
  | [d1, d2] => { results := [.lit (.bool false)], args := [d1, d2] }
  | _ => none }
def FnExactStateOkWrongFalsely : Prop := fnExactStateOkRow.holds Tryz.pinned (OpenSpec.ofChange fnExactStateOkWrong)

/-- 'laws.FnExactBodies': WHATEVER THE INPUT: true; the input reads as it did. -/
def fnExactBodiesSpec : ChangeSpec := { name := "fnExactBodies", fn := fun _ => fun
  | [d1, d2] => { results := [.lit (.bool true)], args := [d1, d2] }
  | _ => none }
def fnExactBodiesRow : OpenClaim := { program := "ythlbadfickhkfaagreat", sum := "a7a55575bbce13e4e12c4dee46db177a0c3c122ec08000523044fa3c49ede0a5", func := "loop.example/g00391/laws.FnExactBodies", spec := "fnExactBodies", inPlace := ["internal/bytealg.abigen_runtime_cmpstring", "slices.overlaps[loop.example/g00391/impl.Bind]"], unfollowed := true, recurses := true, apart := false }
def FnExactBodiesSaid : Prop := fnExactBodiesRow.holds Tryz.pinned (OpenSpec.ofChange fnExactBodiesSpec)

/-- ITS FALSE NEIGHBOUR: 'it returns false'. Refute it at one input. -/
def fnExactBodiesWrong : ChangeSpec := { name := "fnExactBodies", fn := fun _ => fun
  | [d1, d2] => { results := [.lit (.bool false)], args := [d1, d2] }
  | _ => none }
def FnExactBodiesWrongFalsely : Prop := fnExactBodiesRow.holds Tryz.pinned (OpenSpec.ofChange fnExactBodiesWrong)

/-- 'laws.FnExactHeads': WHATEVER THE INPUT: true; the input reads as it did. -/
def fnExactHeadsSpec : ChangeSpec := { name := "fnExactHeads", fn := fun _ => fun
  | [d1, d2] => { results := [.lit (.bool true)], args := [d1, d2] }
  | _ => none }
def fnExactHeadsRow : OpenClaim := { program := "ythlbadfickhkfaagreat", sum := "a7a55575bbce13e4e12c4dee46db177a0c3c122ec08000523044fa3c49ede0a5", func := "loop.example/g00391/laws.FnExactHeads", spec := "fnExactHeads", inPlace := ["internal/bytealg.abigen_runtime_cmpstring", "slices.overlaps[loop.example/g00391/impl.Bind]"], unfollowed := true, recurses := true, apart := false }
def FnExactHeadsSaid : Prop := fnExactHeadsRow.holds Tryz.pinned (OpenSpec.ofChange fnExactHeadsSpec)

/-- ITS FALSE NEIGHBOUR: 'it returns false'. Refute it at one input. -/
def fnExactHeadsWrong : ChangeSpec := { name := "fnExactHeads", fn := fun _ => fun
  | [d1, d2] => { results := [.lit (.bool false)], args := [d1, d2] }
  | _ => none }
def FnExactHeadsWrongFalsely : Prop := fnExactHeadsRow.holds Tryz.pinned (OpenSpec.ofChange fnExactHeadsWrong)

/- THE SECOND FORM. 'bulk': how many values and letters a reading holds, each counted each time it is reached (what is shared counts as often as it is met; a slice's spare places count too). A statement '..UptoSaid' is the law's where the arguments, and the package variables that the reading takes, are together of bulk at most 1048576: NARROWER than '..Said'. Prove '..Said' where nothing that the law and all that it calls make is longer than what came in: it says more and counts as full. Else prove '..UptoSaid'. A law counts once. -/
mutual
def uptoBulk {H : Type} : DataW H → Nat
  | .lit (.string bytes) => bytes.length + 1
  | .lit _ => 1
  | .nil => 1
  | .ptr d => uptoBulk d + 1
  | .slice elems spare => uptoBulkAll elems + uptoBulkAll spare + 1
  | .agg parts => uptoBulkAll parts + 1
  | .iface _ d => uptoBulk d + 1
  | .map entries => uptoBulkEntries entries + 1
  | .held _ => 1
def uptoBulkAll {H : Type} : List (DataW H) → Nat
  | [] => 0
  | d :: r => uptoBulk d + uptoBulkAll r
def uptoBulkEntries {H : Type} : List (Lit × DataW H) → Nat
  | [] => 0
  | x :: r => uptoBulkEntry x + uptoBulkEntries r
def uptoBulkEntry {H : Type} : Lit × DataW H → Nat
  | (.string bytes, d) => bytes.length + uptoBulk d + 1
  | (_, d) => uptoBulk d + 1
 end
def uptoSmall : (H : Type) → List (DataW H) → Bool := fun _ ds => decide (uptoBulkAll ds ≤ 1048576)
def OpenSpec.upto (s : _root_.Go.ChangeSpec) : _root_.Go.OpenSpec := { _root_.Go.OpenSpec.ofChange s with cond := some uptoSmall }

/-- 'laws.FnExactEmptyStore', WHERE WHAT IT READS IS OF BULK AT MOST 1048576: true; the input reads as it did. -/
def fnExactEmptyStoreUptoRow : OpenClaim := { program := "ythlbadfickhkfaagreat", sum := "a7a55575bbce13e4e12c4dee46db177a0c3c122ec08000523044fa3c49ede0a5", func := "loop.example/g00391/laws.FnExactEmptyStore", spec := "fnExactEmptyStore", inPlace := ["slices.overlaps[loop.example/g00391/impl.Named]"], unfollowed := true, recurses := true, apart := false, narrowed := true }
def FnExactEmptyStoreUptoSaid : Prop := fnExactEmptyStoreUptoRow.holds Tryz.pinned (OpenSpec.upto fnExactEmptyStoreSpec)

/-- 'laws.FnExactLevels', WHERE WHAT IT READS IS OF BULK AT MOST 1048576: true; the input reads as it did. -/
def fnExactLevelsUptoRow : OpenClaim := { program := "ythlbadfickhkfaagreat", sum := "a7a55575bbce13e4e12c4dee46db177a0c3c122ec08000523044fa3c49ede0a5", func := "loop.example/g00391/laws.FnExactLevels", spec := "fnExactLevels", inPlace := ["internal/bytealg.abigen_runtime_cmpstring"], unfollowed := true, recurses := true, apart := false, narrowed := true }
def FnExactLevelsUptoSaid : Prop := fnExactLevelsUptoRow.holds Tryz.pinned (OpenSpec.upto fnExactLevelsSpec)

/-- 'laws.FnExactGood', WHERE WHAT IT READS IS OF BULK AT MOST 1048576: true; the input reads as it did. -/
def fnExactGoodUptoRow : OpenClaim := { program := "ythlbadfickhkfaagreat", sum := "a7a55575bbce13e4e12c4dee46db177a0c3c122ec08000523044fa3c49ede0a5", func := "loop.example/g00391/laws.FnExactGood", spec := "fnExactGood", inPlace := ["internal/bytealg.abigen_runtime_cmpstring"], unfollowed := true, recurses := true, apart := false, narrowed := true }
def FnExactGoodUptoSaid : Prop := fnExactGoodUptoRow.holds Tryz.pinned (OpenSpec.upto fnExactGoodSpec)

/-- 'laws.FnExactPlain', WHERE WHAT IT READS IS OF BULK AT MOST 1048576: true; the input reads as it did. -/
def fnExactPlainUptoRow : OpenClaim := { program := "ythlbadfickhkfaagreat", sum := "a7a55575bbce13e4e12c4dee46db177a0c3c122ec08000523044fa3c49ede0a5", func := "loop.example/g00391/laws.FnExactPlain", spec := "fnExactPlain", inPlace := ["internal/bytealg.abigen_runtime_cmpstring"], unfollowed := true, recurses := true, apart := false, narrowed := true }
def FnExactPlainUptoSaid : Prop := fnExactPlainUptoRow.holds Tryz.pinned (OpenSpec.upto fnExactPlainSpec)

/-- 'laws.FnExactEventOk', WHERE WHAT IT READS IS OF BULK AT MOST 1048576: true; the input reads as it did. -/
def fnExactEventOkUptoRow : OpenClaim := { program := "ythlbadfickhkfaagreat", sum := "a7a55575bbce13e4e12c4dee46db177a0c3c122ec08000523044fa3c49ede0a5", func := "loop.example/g00391/laws.FnExactEventOk", spec := "fnExactEventOk", inPlace := ["internal/bytealg.abigen_runtime_cmpstring"], unfollowed := true, recurses := true, apart := false, narrowed := true }
def FnExactEventOkUptoSaid : Prop := fnExactEventOkUptoRow.holds Tryz.pinned (OpenSpec.upto fnExactEventOkSpec)

/-- 'laws.FnExactTouched', WHERE WHAT IT READS IS OF BULK AT MOST 1048576: true; the input reads as it did. -/
def fnExactTouchedUptoRow : OpenClaim := { program := "ythlbadfickhkfaagreat", sum := "a7a55575bbce13e4e12c4dee46db177a0c3c122ec08000523044fa3c49ede0a5", func := "loop.example/g00391/laws.FnExactTouched", spec := "fnExactTouched", inPlace := ["internal/bytealg.abigen_runtime_cmpstring"], unfollowed := true, recurses := true, apart := false, narrowed := true }
def FnExactTouchedUptoSaid : Prop := fnExactTouchedUptoRow.holds Tryz.pinned (OpenSpec.upto fnExactTouchedSpec)

/-- 'laws.FnExactStateOk', WHERE WHAT IT READS IS OF BULK AT MOST 1048576: true; the input reads as it did. -/
def fnExactStateOkUptoRow : OpenClaim := { program := "ythlbadfickhkfaagreat", sum := "a7a55575bbce13e4e12c4dee46db177a0c3c122ec08000523044fa3c49ede0a5", func := "loop.example/g00391/laws.FnExactStateOk", spec := "fnExactStateOk", inPlace := ["internal/bytealg.abigen_runtime_cmpstring", "slices.overlaps[loop.example/g00391/impl.Named]"], unfollowed := true, recurses := true, apart := false, narrowed := true }
def FnExactStateOkUptoSaid : Prop := fnExactStateOkUptoRow.holds Tryz.pinned (OpenSpec.upto fnExactStateOkSpec)

/-- 'laws.FnExactBodies', WHERE WHAT IT READS IS OF BULK AT MOST 1048576: true; the input reads as it did. -/
def fnExactBodiesUptoRow : OpenClaim := { program := "ythlbadfickhkfaagreat", sum := "a7a55575bbce13e4e12c4dee46db177a0c3c122ec08000523044fa3c49ede0a5", func := "loop.example/g00391/laws.FnExactBodies", spec := "fnExactBodies", inPlace := ["internal/bytealg.abigen_runtime_cmpstring", "slices.overlaps[loop.example/g00391/impl.Bind]"], unfollowed := true, recurses := true, apart := false, narrowed := true }
def FnExactBodiesUptoSaid : Prop := fnExactBodiesUptoRow.holds Tryz.pinned (OpenSpec.upto fnExactBodiesSpec)

/-- 'laws.FnExactHeads', WHERE WHAT IT READS IS OF BULK AT MOST 1048576: true; the input reads as it did. -/
def fnExactHeadsUptoRow : OpenClaim := { program := "ythlbadfickhkfaagreat", sum := "a7a55575bbce13e4e12c4dee46db177a0c3c122ec08000523044fa3c49ede0a5", func := "loop.example/g00391/laws.FnExactHeads", spec := "fnExactHeads", inPlace := ["internal/bytealg.abigen_runtime_cmpstring", "slices.overlaps[loop.example/g00391/impl.Bind]"], unfollowed := true, recurses := true, apart := false, narrowed := true }
def FnExactHeadsUptoSaid : Prop := fnExactHeadsUptoRow.holds Tryz.pinned (OpenSpec.upto fnExactHeadsSpec)

end Rows
end Go.Proofs.YthlbadfickhkfaaGreat
