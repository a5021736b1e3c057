/- Sorting and striking out, out of the shelf. No condition. -/
import Derived.Test.YthlbadfickhkfaaGreatzfG1
import Derived.Test.YthlbadfickhkfaaGreatShelf
import Derived.Test.YthlbadfickhkfaaGreathBx5zf
import Derived.Test.YthlbadfickhkfaaGreathMx1zf
namespace Go.Aw
open Go.Proofs
attribute [local irreducible] aft blk lpK retK AW A0l
set_option linter.unusedVariables false
set_option linter.unusedSimpArgs false
set_option maxRecDepth 100000
end Go.Aw
