/- slices.Grow of a slice that holds nothing: the contract out of two roads. No condition. -/
import Derived.Test.YtkophkhamikaoaaGreatlBx11kb
namespace Go.Aw
open Go.Lib
set_option linter.all false
variable{P:Program}
structure j4(P:Program)(f:FuncId)(e:TypeId)(m:Nat)(z:Value):Prop where
 same:∀(w:World) (a:Option Addr) (c:Nat) (n:Int),0<=n->n<=c->c<=maxLen->Calls P f #[.slice a 0 c,.int .i64 n] w fun x w'=>x=.returned (.slice a 0 c)/\w'=w
 more:∀(w:World) (a:Option Addr) (c n:Nat) (cs:List Value),c<n->n<=1000000->(Builtin.firstCells m c (.slice a c c)).run P w.drew=.ok cs.toArray w.drew->
  Calls P f #[.slice a 0 c,.int .i64 n] w fun x w'=>x=.returned (.slice (some ⟨w.heap.size,0,none⟩) 0 (grownCap w n c e))/\w'=(w.alloc (.cells (cs.toArray++(Builtin.zeroCells z.cells (n-c)++Builtin.zeroCells z.cells (grownCap w n c e-n))) e)).drew
end Go.Aw
