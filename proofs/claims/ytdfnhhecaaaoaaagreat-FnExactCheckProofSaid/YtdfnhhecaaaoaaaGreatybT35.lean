/- Fitting a row to terms, what comes out being given up. No condition. -/
import Derived.Test.YtdfnhhecaaaoaaaGreatybT25
namespace Go.Aw
open Go.Proofs
attribute [local irreducible] aft blk lpK retK AW Z9
set_option linter.all false
set_option maxRecDepth 100000
set_option maxHeartbeats 4000000
attribute [local irreducible] RM
end Go.Aw
