/- Sorts: contracts out of the shelf. No condition. -/
import Derived.Test.YthlbadfickhkfaakBwteb
import Derived.Shelf.Sort.Plain
import Derived.Shelf.Slices.In.SortNone
import Derived.Shelf.Slices.CompactI
import Derived.Shelf.Slices.CompactS
namespace Go.Aw
open Go.Proofs Go.Shelf Go.Sort
set_option linter.unusedVariables false
variable {P : Program} {ρ : Ren}
end Go.Aw
