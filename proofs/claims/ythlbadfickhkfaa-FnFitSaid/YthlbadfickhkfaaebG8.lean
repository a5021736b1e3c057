/- Programs: what the functions compute. No condition. -/
import Derived.Test.YthlbadfickhkfaaebG7
import Derived.Test.YthlbadfickhkfaakBwteb
namespace Go.Aw
open Go.Proofs
attribute [local irreducible] aft blk lpK retK AW A0m
set_option linter.unusedVariables false
set_option linter.unusedSimpArgs false
set_option maxRecDepth 100000
end Go.Aw
