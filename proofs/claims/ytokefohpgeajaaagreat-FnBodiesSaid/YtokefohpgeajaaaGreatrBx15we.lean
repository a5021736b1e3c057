/- slices.CompactFunc at structs whose comparing function reads what lies behind them: what the walk is to show. No condition. -/
import Derived.Test.YtokefohpgeajaaaGreatrBx13we
import Derived.Shelf.SlSortCmp.KitK
import Derived.Lib.SlKept
import Derived.Lib.SliceRun
namespace Go.Aw
open Go.Proofs Go.Shelf Go.Sort Go.Lib
set_option linter.all false
variable{P:Program}
def EqLays{α:Type}[Inhabited α](P:Program)(g:Nat)(enc:α->List Value)(k:Nat)(eq:α->α->Bool)(blk off size:Nat)(w:World):Prop:=
 ∀(m:Nat) (os:Array Obj) (dk:Array α),dk.size=size->∀x y:α,
  Calls P g #[.agg (enc x).toArray,.agg (enc y).toArray] (sortWorldK enc k w blk off m dk os) fun e w'=>e=.returned (.bool (eq x y))/\∃q os',w'=grow ((sortWorldK enc k w blk off m dk os).drewN q) os'
def kpE{α:Type}[Inhabited α](eq:α->α->Bool)(d:Array α)(j:Nat):Bool:=decide (j=0)||!eq d[j]! d[j-1]!
def CpfEnd{α:Type}[Inhabited α](enc:α->List Value)(k:Nat)(w:World)(blk off:Nat)(d:Array α)(kp:Nat->Bool)(W:World):Prop:=
 ∃(n:Nat) (os:Array Obj) (dk:Array α) (zs:List Value),dk.size=d.size/\(∀j,j<(keptUpTo kp d d.size).length->(keptUpTo kp d d.size)[j]? = some dk[j]!)/\(keptUpTo kp d d.size).length*k+zs.length<=d.size*k/\
  W=(sortWorldK enc k w blk off n dk os).setCells blk (off+(keptUpTo kp d d.size).length*k) zs
structure CpfRuns(P:Program)(f:FuncId)(k:Nat):Prop where
 empty:∀(a:Option Addr) (cap:Nat) (g:Nat) (w:World),Calls P f #[.slice a 0 cap,.func (.func g) #[] #[]] w fun e w'=>e=.returned (.slice a 0 cap)/\w'=w
 run:∀{α:Type} [Inhabited α] (enc:α->List Value) (hk:∀x,(enc x).length=k) (h1:∀x,∀v∈enc x,v.oneCell'=true) (eq:α->α->Bool) (g:Nat) (eg:∀args w,(callFunc g args).run P w=.ok (.enter g args) w)
  (blk off cap:Nat) (d:Array α) (w:World) (hq:EqLays P g enc k eq blk off d.size w) (hH:HoldsK enc k w blk off d) (hblk:blk<w.heap.size) (hcap:d.size<=cap) (hsz:d.size<4611686018427387904),
  Calls P f #[.slice (some ⟨blk,off,none⟩) d.size cap,.func (.func g) #[] #[]] w fun e w'=>e=.returned (.slice (some ⟨blk,off,none⟩) (keptUpTo (kpE eq d) d d.size).length cap)/\CpfEnd enc k w blk off d (kpE eq d) w'
section
variable{α:Type}[Inhabited α]{enc:α->List Value}{k:Nat}{w0 W:World}{blk off:Nat}{dk:Array α}
end
end Go.Aw
