/- What the positive literals of a body bind. No condition. -/
import Derived.Test.YtdfnhhecaaaoaaaGreatybT31
import Derived.Test.YtdfnhhecaaaoaaaGreatybT35
namespace Go.Aw
open Go.Proofs
attribute [local irreducible] aft blk lpK retK AW Z9
set_option linter.all false
set_option maxRecDepth 100000
set_option maxHeartbeats 4000000
attribute [local irreducible] RM
theorem a7S {α:Type} {l:List α} {i:Nat} (d:α) (h:i < l.length):l.getD i d∈l:=by
 rw [i6 d h];exact List.getElem_mem _
end Go.Aw
