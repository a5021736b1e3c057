/- Sorting and striking out, out of the shelf. No condition. -/
import Derived.Test.YthlbadfickhkfaaGreatzaG1
import Derived.Test.YthlbadfickhkfaaGreatShelf
import Derived.Test.YthlbadfickhkfaaGreatgBx5za
import Derived.Test.YthlbadfickhkfaaGreatgMx1za
namespace Go.Aw
open Go.Proofs
attribute [local irreducible] aft blk lpK retK AW SpecO
set_option linter.unusedVariables false
set_option linter.unusedSimpArgs false
set_option maxRecDepth 100000
theorem sortInts_eq (l : List Int) : sortInts l = sortL iLt l := by
  unfold sortInts sortL
  congr 1
  funext x y
  rw [iLt, Bool.eq_iff_iff]
  simp
theorem sortStrs_eq (l : List (List UInt8)) : sortStrs l = sortL Op.bytesLess l := by
  unfold sortStrs sortL
  congr 1
  funext x y
  rw [sLess_lt, Bool.eq_iff_iff]
  simp
end Go.Aw
