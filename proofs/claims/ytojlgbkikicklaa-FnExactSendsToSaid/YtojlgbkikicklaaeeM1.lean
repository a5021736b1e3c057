/- Marks. No condition. -/
import Derived.Test.YtojlgbkikicklaaeeG1
import Derived.Test.YtojlgbkikicklaadBwt
namespace Go.Aw
open Go.Proofs
attribute [local irreducible] aft blk lpK retK AW SpecO
set_option linter.unusedVariables false
set_option linter.unusedSimpArgs false
set_option maxRecDepth 100000

def digN (n : Nat) (acc : List UInt8) : List UInt8 := if h : n = 0 then acc else digN (n / 10) (UInt8.ofNat (48 + n % 10) :: acc)
termination_by n
decreasing_by omega
def mtext (k : Int) : List UInt8 := if k ≤ 0 then [109, 48] else 109 :: digN k.toNat []
end Go.Aw
