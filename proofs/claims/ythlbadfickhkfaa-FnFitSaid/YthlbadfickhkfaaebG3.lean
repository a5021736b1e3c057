/- Environments compared. No condition. -/
import Derived.Test.YthlbadfickhkfaaebG2
namespace Go.Aw
open Go.Proofs
attribute [local irreducible] aft blk lpK retK AW A0m
set_option linter.unusedVariables false
set_option linter.unusedSimpArgs false
set_option maxRecDepth 100000
def a4K (a b : c7) : Bool := bif a.S == [] && b.S == [] then decide (a.N < b.N) else Op.bytesLess a.S b.S
end Go.Aw
