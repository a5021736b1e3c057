/-
  No cell of these rows narrows 'for every input' (looked for: loops, veiled, ifaces, maps, wideKeys, modest, calm, conditions, laid).
  DERIVED. THE GIVEN ROWS OF THIS SEAT. 10 by the template 'for every input the law returns true; each argument reads behind the call as it read before'; 0 by the template 'total and deterministic' (their statements: YtojlgbkikicklaaGreatTotals.lean).
  GIVEN WITH THE SEED: the statements are not yours to turn. If you find one false, say at which input.
  Laid BY PROGRAM, IN A SANDBOX (cutbox-rows.mjs): the forced cells as the released guide's own fill.sh prints them over the translation 3b3789efd74a8479… (all of the seat's roots in one cut). By AI agents, Wed Nov 11 2026. No macro, syntax, notation, axiom, sorry.
-/
import Derived.Test.YtojlgbkikicklaaGreatChecked
import GoSem.Claim
import GoSem.ClaimJoined
import GoSem.ClaimMapViews
import Derived.JoinedTies
import Derived.KernelRfl
namespace Go.Proofs.YtojlgbkikicklaaGreat
/- THE CELL 'sum', in the pinned program and in every row, IS THE sha256 OF THE DUMP (.gsa) THAT YtojlgbkikicklaaGreatProg.lean LOADS. Nothing in Lean hashes anything: it is a label: what it is worth is what the hold of that sum in a sandbox is worth. -/
noncomputable def Tryz.pinned : Pinned := { name := "ytojlgbkikicklaagreat", sum := "3b3789efd74a8479172f085a6d52fd8a88b8301dcc2d39da0a4ae9067ff1932e", checked := Tryz.checked }
namespace Rows
def none {H : Type} : Left H := { results := [], args := [] }

/-- 'laws.FnExactLeans': WHATEVER THE INPUT: true; the input reads as it did. -/
def fnExactLeansSpec : ChangeSpec := { name := "fnExactLeans", fn := fun _ => fun
  | [d1, d2, d3] => { results := [.lit (.bool true)], args := [d1, d2, d3] }
  | _ => none }
def fnExactLeansRow : OpenClaim := { program := "ytojlgbkikicklaagreat", sum := "3b3789efd74a8479172f085a6d52fd8a88b8301dcc2d39da0a4ae9067ff1932e", func := "loop.example/g00391/laws.FnExactLeans", spec := "fnExactLeans", unfollowed := true, recurses := true, apart := false }
def FnExactLeansSaid : Prop := fnExactLeansRow.holds Tryz.pinned (OpenSpec.ofChange fnExactLeansSpec)

/-- ITS FALSE NEIGHBOUR: 'it returns false'. Refute it at one input. -/
def fnExactLeansWrong : ChangeSpec := { name := "fnExactLeans", fn := fun _ => fun
  | [d1, d2, d3] => { results := [.lit (.bool false)], args := [d1, d2, d3] }
  | _ => none }
def FnExactLeansWrongFalsely : Prop := fnExactLeansRow.holds Tryz.pinned (OpenSpec.ofChange fnExactLeansWrong)

/-- 'laws.FnExactCheckSafe': WHATEVER THE INPUT: true; the input reads as it did. -/
def fnExactCheckSafeSpec : ChangeSpec := { name := "fnExactCheckSafe", fn := fun _ => fun
  | [d] => { results := [.lit (.bool true)], args := [d] }
  | _ => none }
def fnExactCheckSafeRow : OpenClaim := { program := "ytojlgbkikicklaagreat", sum := "3b3789efd74a8479172f085a6d52fd8a88b8301dcc2d39da0a4ae9067ff1932e", func := "loop.example/g00391/laws.FnExactCheckSafe", spec := "fnExactCheckSafe", unfollowed := true, recurses := true, apart := false }
def FnExactCheckSafeSaid : Prop := fnExactCheckSafeRow.holds Tryz.pinned (OpenSpec.ofChange fnExactCheckSafeSpec)

/-- ITS FALSE NEIGHBOUR: 'it returns false'. Refute it at one input. -/
def fnExactCheckSafeWrong : ChangeSpec := { name := "fnExactCheckSafe", fn := fun _ => fun
  | [d] => { results := [.lit (.bool false)], args := [d] }
  | _ => none }
def FnExactCheckSafeWrongFalsely : Prop := fnExactCheckSafeRow.holds Tryz.pinned (OpenSpec.ofChange fnExactCheckSafeWrong)

/-- 'laws.FnExactEmptyStore': WHATEVER THE INPUT: true; the input reads as it did. -/
def fnExactEmptyStoreSpec : ChangeSpec := { name := "fnExactEmptyStore", fn := fun _ => fun
  | [d1, d2] => { results := [.lit (.bool true)], args := [d1, d2] }
  | _ => none }
def fnExactEmptyStoreRow : OpenClaim := { program := "ytojlgbkikicklaagreat", sum := "3b3789efd74a8479172f085a6d52fd8a88b8301dcc2d39da0a4ae9067ff1932e", func := "loop.example/g00391/laws.FnExactEmptyStore", spec := "fnExactEmptyStore", inPlace := ["slices.overlaps[loop.example/g00391/impl.Named]"], unfollowed := true, recurses := true, apart := false }
def FnExactEmptyStoreSaid : Prop := fnExactEmptyStoreRow.holds Tryz.pinned (OpenSpec.ofChange fnExactEmptyStoreSpec)

/-- ITS FALSE NEIGHBOUR: 'it returns false'. Refute it at one input. -/
def fnExactEmptyStoreWrong : ChangeSpec := { name := "fnExactEmptyStore", fn := fun _ => fun
  | [d1, d2] => { results := [.lit (.bool false)], args := [d1, d2] }
  | _ => none }
def FnExactEmptyStoreWrongFalsely : Prop := fnExactEmptyStoreRow.holds Tryz.pinned (OpenSpec.ofChange fnExactEmptyStoreWrong)

/-- 'laws.FnExactLevels': WHATEVER THE INPUT: true; the input reads as it did. -/
def fnExactLevelsSpec : ChangeSpec := { name := "fnExactLevels", fn := fun _ => fun
  | [d] => { results := [.lit (.bool true)], args := [d] }
  | _ => none }
def fnExactLevelsRow : OpenClaim := { program := "ytojlgbkikicklaagreat", sum := "3b3789efd74a8479172f085a6d52fd8a88b8301dcc2d39da0a4ae9067ff1932e", func := "loop.example/g00391/laws.FnExactLevels", spec := "fnExactLevels", inPlace := ["internal/bytealg.abigen_runtime_cmpstring"], unfollowed := true, recurses := true, apart := false }
def FnExactLevelsSaid : Prop := fnExactLevelsRow.holds Tryz.pinned (OpenSpec.ofChange fnExactLevelsSpec)

/-- ITS FALSE NEIGHBOUR: 'it returns false'. Refute it at one input. -/
def fnExactLevelsWrong : ChangeSpec := { name := "fnExactLevels", fn := fun _ => fun
  | [d] => { results := [.lit (.bool false)], args := [d] }
  | _ => none }
def FnExactLevelsWrongFalsely : Prop := fnExactLevelsRow.holds Tryz.pinned (OpenSpec.ofChange fnExactLevelsWrong)

/-- 'laws.FnLevels': WHATEVER THE INPUT: true; the input reads as it did. -/
def fnLevelsSpec : ChangeSpec := { name := "fnLevels", fn := fun _ => fun
  | [d] => { results := [.lit (.bool true)], args := [d] }
  | _ => none }
def fnLevelsRow : OpenClaim := { program := "ytojlgbkikicklaagreat", sum := "3b3789efd74a8479172f085a6d52fd8a88b8301dcc2d39da0a4ae9067ff1932e", func := "loop.example/g00391/laws.FnLevels", spec := "fnLevels", inPlace := ["internal/bytealg.abigen_runtime_cmpstring"], unfollowed := true, recurses := true, apart := false }
def FnLevelsSaid : Prop := fnLevelsRow.holds Tryz.pinned (OpenSpec.ofChange fnLevelsSpec)

/-- ITS FALSE NEIGHBOUR: 'it returns false'. Refute it at one input. -/
def fnLevelsWrong : ChangeSpec := { name := "fnLevels", fn := fun _ => fun
  | [d] => { results := [.lit (.bool false)], args := [d] }
  | _ => none }
def FnLevelsWrongFalsely : Prop := fnLevelsRow.holds Tryz.pinned (OpenSpec.ofChange fnLevelsWrong)

/-- 'laws.FnExactConsts': WHATEVER THE INPUT: true; the input reads as it did. -/
def fnExactConstsSpec : ChangeSpec := { name := "fnExactConsts", fn := fun _ => fun
  | [d1, d2] => { results := [.lit (.bool true)], args := [d1, d2] }
  | _ => none }
def fnExactConstsRow : OpenClaim := { program := "ytojlgbkikicklaagreat", sum := "3b3789efd74a8479172f085a6d52fd8a88b8301dcc2d39da0a4ae9067ff1932e", func := "loop.example/g00391/laws.FnExactConsts", spec := "fnExactConsts", inPlace := ["internal/bytealg.abigen_runtime_cmpstring"], unfollowed := true, recurses := true, apart := false }
def FnExactConstsSaid : Prop := fnExactConstsRow.holds Tryz.pinned (OpenSpec.ofChange fnExactConstsSpec)

/-- ITS FALSE NEIGHBOUR: 'it returns false'. Refute it at one input. -/
def fnExactConstsWrong : ChangeSpec := { name := "fnExactConsts", fn := fun _ => fun
  | [d1, d2] => { results := [.lit (.bool false)], args := [d1, d2] }
  | _ => none }
def FnExactConstsWrongFalsely : Prop := fnExactConstsRow.holds Tryz.pinned (OpenSpec.ofChange fnExactConstsWrong)

/-- 'laws.FnExactGood': WHATEVER THE INPUT: true; the input reads as it did. -/
def fnExactGoodSpec : ChangeSpec := { name := "fnExactGood", fn := fun _ => fun
  | [d] => { results := [.lit (.bool true)], args := [d] }
  | _ => none }
def fnExactGoodRow : OpenClaim := { program := "ytojlgbkikicklaagreat", sum := "3b3789efd74a8479172f085a6d52fd8a88b8301dcc2d39da0a4ae9067ff1932e", func := "loop.example/g00391/laws.FnExactGood", spec := "fnExactGood", inPlace := ["internal/bytealg.abigen_runtime_cmpstring"], unfollowed := true, recurses := true, apart := false }
def FnExactGoodSaid : Prop := fnExactGoodRow.holds Tryz.pinned (OpenSpec.ofChange fnExactGoodSpec)

/-- ITS FALSE NEIGHBOUR: 'it returns false'. Refute it at one input. -/
def fnExactGoodWrong : ChangeSpec := { name := "fnExactGood", fn := fun _ => fun
  | [d] => { results := [.lit (.bool false)], args := [d] }
  | _ => none }
def FnExactGoodWrongFalsely : Prop := fnExactGoodRow.holds Tryz.pinned (OpenSpec.ofChange fnExactGoodWrong)

/-- 'laws.FnExactPlain': WHATEVER THE INPUT: true; the input reads as it did. -/
def fnExactPlainSpec : ChangeSpec := { name := "fnExactPlain", fn := fun _ => fun
  | [d] => { results := [.lit (.bool true)], args := [d] }
  | _ => none }
def fnExactPlainRow : OpenClaim := { program := "ytojlgbkikicklaagreat", sum := "3b3789efd74a8479172f085a6d52fd8a88b8301dcc2d39da0a4ae9067ff1932e", func := "loop.example/g00391/laws.FnExactPlain", spec := "fnExactPlain", inPlace := ["internal/bytealg.abigen_runtime_cmpstring"], unfollowed := true, recurses := true, apart := false }
def FnExactPlainSaid : Prop := fnExactPlainRow.holds Tryz.pinned (OpenSpec.ofChange fnExactPlainSpec)

/-- ITS FALSE NEIGHBOUR: 'it returns false'. Refute it at one input. -/
def fnExactPlainWrong : ChangeSpec := { name := "fnExactPlain", fn := fun _ => fun
  | [d] => { results := [.lit (.bool false)], args := [d] }
  | _ => none }
def FnExactPlainWrongFalsely : Prop := fnExactPlainRow.holds Tryz.pinned (OpenSpec.ofChange fnExactPlainWrong)

/-- 'laws.FnExactEventOk': WHATEVER THE INPUT: true; the input reads as it did. -/
def fnExactEventOkSpec : ChangeSpec := { name := "fnExactEventOk", fn := fun _ => fun
  | [d1, d2] => { results := [.lit (.bool true)], args := [d1, d2] }
  | _ => none }
def fnExactEventOkRow : OpenClaim := { program := "ytojlgbkikicklaagreat", sum := "3b3789efd74a8479172f085a6d52fd8a88b8301dcc2d39da0a4ae9067ff1932e", func := "loop.example/g00391/laws.FnExactEventOk", spec := "fnExactEventOk", inPlace := ["internal/bytealg.abigen_runtime_cmpstring"], unfollowed := true, recurses := true, apart := false }
def FnExactEventOkSaid : Prop := fnExactEventOkRow.holds Tryz.pinned (OpenSpec.ofChange fnExactEventOkSpec)

/-- ITS FALSE NEIGHBOUR: 'it returns false'. Refute it at one input. -/
def fnExactEventOkWrong : ChangeSpec := { name := "fnExactEventOk", fn := fun _ => fun
  | [d1, d2] => { results := [.lit (.bool false)], args := [d1, d2] }
  | _ => none }
def FnExactEventOkWrongFalsely : Prop := fnExactEventOkRow.holds Tryz.pinned (OpenSpec.ofChange fnExactEventOkWrong)

/-- 'laws.FnExactTouched': WHATEVER THE INPUT: true; the input reads as it did. -/
def fnExactTouchedSpec : ChangeSpec := { name := "fnExactTouched", fn := fun _ => fun
  | [d1, d2] => { results := [.lit (.bool true)], args := [d1, d2] }
  | _ => none }
def fnExactTouchedRow : OpenClaim := { program := "ytojlgbkikicklaagreat", sum := "3b3789efd74a8479172f085a6d52fd8a88b8301dcc2d39da0a4ae9067ff1932e", func := "loop.example/g00391/laws.FnExactTouched", spec := "fnExactTouched", inPlace := ["internal/bytealg.abigen_runtime_cmpstring"], unfollowed := true, recurses := true, apart := false }
def FnExactTouchedSaid : Prop := fnExactTouchedRow.holds Tryz.pinned (OpenSpec.ofChange fnExactTouchedSpec)

/-- ITS FALSE NEIGHBOUR: 'it returns false'. Refute it at one input. -/
def fnExactTouchedWrong : ChangeSpec := { name := "fnExactTouched", fn := fun _ => fun
  | [d1, d2] => { results := [.lit (.bool false)], args := [d1, d2] }
  | _ => none }
def FnExactTouchedWrongFalsely : Prop := fnExactTouchedRow.holds Tryz.pinned (OpenSpec.ofChange fnExactTouchedWrong)

/- THE SECOND FORM. 'bulk': how many values and letters a reading holds, each counted each time it is reached (what is shared counts as often as it is met; a slice's spare places count too). A statement '..UptoSaid' is the law's where the arguments, and the package variables that the reading takes, are together of bulk at most 1048576: NARROWER than '..Said'. Prove '..Said' where nothing that the law and all that it calls make is longer than what came in: it says more and counts as full. Else prove '..UptoSaid'. A law counts once. -/
mutual
def uptoBulk {H : Type} : DataW H → Nat
  | .lit (.string bytes) => bytes.length + 1
  | .lit _ => 1
  | .nil => 1
  | .ptr d => uptoBulk d + 1
  | .slice elems spare => uptoBulkAll elems + uptoBulkAll spare + 1
  | .agg parts => uptoBulkAll parts + 1
  | .iface _ d => uptoBulk d + 1
  | .map entries => uptoBulkEntries entries + 1
  | .held _ => 1
def uptoBulkAll {H : Type} : List (DataW H) → Nat
  | [] => 0
  | d :: r => uptoBulk d + uptoBulkAll r
def uptoBulkEntries {H : Type} : List (Lit × DataW H) → Nat
  | [] => 0
  | x :: r => uptoBulkEntry x + uptoBulkEntries r
def uptoBulkEntry {H : Type} : Lit × DataW H → Nat
  | (.string bytes, d) => bytes.length + uptoBulk d + 1
  | (_, d) => uptoBulk d + 1
 end
def uptoSmall : (H : Type) → List (DataW H) → Bool := fun _ ds => decide (uptoBulkAll ds ≤ 1048576)
def OpenSpec.upto (s : _root_.Go.ChangeSpec) : _root_.Go.OpenSpec := { _root_.Go.OpenSpec.ofChange s with cond := some uptoSmall }

/-- 'laws.FnExactLeans', WHERE WHAT IT READS IS OF BULK AT MOST 1048576: true; the input reads as it did. -/
def fnExactLeansUptoRow : OpenClaim := { program := "ytojlgbkikicklaagreat", sum := "3b3789efd74a8479172f085a6d52fd8a88b8301dcc2d39da0a4ae9067ff1932e", func := "loop.example/g00391/laws.FnExactLeans", spec := "fnExactLeans", unfollowed := true, recurses := true, apart := false, narrowed := true }
def FnExactLeansUptoSaid : Prop := fnExactLeansUptoRow.holds Tryz.pinned (OpenSpec.upto fnExactLeansSpec)

/-- 'laws.FnExactCheckSafe', WHERE WHAT IT READS IS OF BULK AT MOST 1048576: true; the input reads as it did. -/
def fnExactCheckSafeUptoRow : OpenClaim := { program := "ytojlgbkikicklaagreat", sum := "3b3789efd74a8479172f085a6d52fd8a88b8301dcc2d39da0a4ae9067ff1932e", func := "loop.example/g00391/laws.FnExactCheckSafe", spec := "fnExactCheckSafe", unfollowed := true, recurses := true, apart := false, narrowed := true }
def FnExactCheckSafeUptoSaid : Prop := fnExactCheckSafeUptoRow.holds Tryz.pinned (OpenSpec.upto fnExactCheckSafeSpec)

/-- 'laws.FnExactEmptyStore', WHERE WHAT IT READS IS OF BULK AT MOST 1048576: true; the input reads as it did. -/
def fnExactEmptyStoreUptoRow : OpenClaim := { program := "ytojlgbkikicklaagreat", sum := "3b3789efd74a8479172f085a6d52fd8a88b8301dcc2d39da0a4ae9067ff1932e", func := "loop.example/g00391/laws.FnExactEmptyStore", spec := "fnExactEmptyStore", inPlace := ["slices.overlaps[loop.example/g00391/impl.Named]"], unfollowed := true, recurses := true, apart := false, narrowed := true }
def FnExactEmptyStoreUptoSaid : Prop := fnExactEmptyStoreUptoRow.holds Tryz.pinned (OpenSpec.upto fnExactEmptyStoreSpec)

/-- 'laws.FnExactLevels', WHERE WHAT IT READS IS OF BULK AT MOST 1048576: true; the input reads as it did. -/
def fnExactLevelsUptoRow : OpenClaim := { program := "ytojlgbkikicklaagreat", sum := "3b3789efd74a8479172f085a6d52fd8a88b8301dcc2d39da0a4ae9067ff1932e", func := "loop.example/g00391/laws.FnExactLevels", spec := "fnExactLevels", inPlace := ["internal/bytealg.abigen_runtime_cmpstring"], unfollowed := true, recurses := true, apart := false, narrowed := true }
def FnExactLevelsUptoSaid : Prop := fnExactLevelsUptoRow.holds Tryz.pinned (OpenSpec.upto fnExactLevelsSpec)

/-- 'laws.FnLevels', WHERE WHAT IT READS IS OF BULK AT MOST 1048576: true; the input reads as it did. -/
def fnLevelsUptoRow : OpenClaim := { program := "ytojlgbkikicklaagreat", sum := "3b3789efd74a8479172f085a6d52fd8a88b8301dcc2d39da0a4ae9067ff1932e", func := "loop.example/g00391/laws.FnLevels", spec := "fnLevels", inPlace := ["internal/bytealg.abigen_runtime_cmpstring"], unfollowed := true, recurses := true, apart := false, narrowed := true }
def FnLevelsUptoSaid : Prop := fnLevelsUptoRow.holds Tryz.pinned (OpenSpec.upto fnLevelsSpec)

/-- 'laws.FnExactConsts', WHERE WHAT IT READS IS OF BULK AT MOST 1048576: true; the input reads as it did. -/
def fnExactConstsUptoRow : OpenClaim := { program := "ytojlgbkikicklaagreat", sum := "3b3789efd74a8479172f085a6d52fd8a88b8301dcc2d39da0a4ae9067ff1932e", func := "loop.example/g00391/laws.FnExactConsts", spec := "fnExactConsts", inPlace := ["internal/bytealg.abigen_runtime_cmpstring"], unfollowed := true, recurses := true, apart := false, narrowed := true }
def FnExactConstsUptoSaid : Prop := fnExactConstsUptoRow.holds Tryz.pinned (OpenSpec.upto fnExactConstsSpec)

/-- 'laws.FnExactGood', WHERE WHAT IT READS IS OF BULK AT MOST 1048576: true; the input reads as it did. -/
def fnExactGoodUptoRow : OpenClaim := { program := "ytojlgbkikicklaagreat", sum := "3b3789efd74a8479172f085a6d52fd8a88b8301dcc2d39da0a4ae9067ff1932e", func := "loop.example/g00391/laws.FnExactGood", spec := "fnExactGood", inPlace := ["internal/bytealg.abigen_runtime_cmpstring"], unfollowed := true, recurses := true, apart := false, narrowed := true }
def FnExactGoodUptoSaid : Prop := fnExactGoodUptoRow.holds Tryz.pinned (OpenSpec.upto fnExactGoodSpec)

/-- 'laws.FnExactPlain', WHERE WHAT IT READS IS OF BULK AT MOST 1048576: true; the input reads as it did. -/
def fnExactPlainUptoRow : OpenClaim := { program := "ytojlgbkikicklaagreat", sum := "3b3789efd74a8479172f085a6d52fd8a88b8301dcc2d39da0a4ae9067ff1932e", func := "loop.example/g00391/laws.FnExactPlain", spec := "fnExactPlain", inPlace := ["internal/bytealg.abigen_runtime_cmpstring"], unfollowed := true, recurses := true, apart := false, narrowed := true }
def FnExactPlainUptoSaid : Prop := fnExactPlainUptoRow.holds Tryz.pinned (OpenSpec.upto fnExactPlainSpec)

/-- 'laws.FnExactEventOk', WHERE WHAT IT READS IS OF BULK AT MOST 1048576: true; the input reads as it did. -/
def fnExactEventOkUptoRow : OpenClaim := { program := "ytojlgbkikicklaagreat", sum := "3b3789efd74a8479172f085a6d52fd8a88b8301dcc2d39da0a4ae9067ff1932e", func := "loop.example/g00391/laws.FnExactEventOk", spec := "fnExactEventOk", inPlace := ["internal/bytealg.abigen_runtime_cmpstring"], unfollowed := true, recurses := true, apart := false, narrowed := true }
def FnExactEventOkUptoSaid : Prop := fnExactEventOkUptoRow.holds Tryz.pinned (OpenSpec.upto fnExactEventOkSpec)

/-- 'laws.FnExactTouched', WHERE WHAT IT READS IS OF BULK AT MOST 1048576: true; the input reads as it did. -/
def fnExactTouchedUptoRow : OpenClaim := { program := "ytojlgbkikicklaagreat", sum := "3b3789efd74a8479172f085a6d52fd8a88b8301dcc2d39da0a4ae9067ff1932e", func := "loop.example/g00391/laws.FnExactTouched", spec := "fnExactTouched", inPlace := ["internal/bytealg.abigen_runtime_cmpstring"], unfollowed := true, recurses := true, apart := false, narrowed := true }
def FnExactTouchedUptoSaid : Prop := fnExactTouchedUptoRow.holds Tryz.pinned (OpenSpec.upto fnExactTouchedSpec)

end Rows
end Go.Proofs.YtojlgbkikicklaaGreat
