/- The count of questions does not fall: the machine. No condition. -/
import Derived.Test.YtokefohpgeajaaaGreatqDr4wd
namespace Go.Aw
open Go
set_option linter.all false
set_option maxHeartbeats 4000000
def Ds (w:World) (s:Stepped):Prop:=match s with
 | .next m=>w.drawn<=m.world.drawn
 | .ended _ _=>True
def Ds.of {w w':World} {s:Stepped} (h:Ds w' s) (g:w.drawn<=w'.drawn):Ds w s:=by
 cases s with
 | next m=>exact Nat.le_trans g h
 | ended o w=>trivial
def Ds.ite {w:World} {c:Prop} [Decidable c] {a b:Stepped} (ha:Ds w a) (hb:Ds w b):Ds w (if c then a else b):=by split<;>assumption
def Ds.ite1 {w:World} {c:Prop} [Decidable c] {a b:Stepped×Array MemOp} (ha:Ds w a.1) (hb:Ds w b.1):Ds w (if c then a else b).1:=by split<;>assumption
def c1u (rest:Rest) (cases:Array CommCase) (w:World) {w':World} (h:waitingAt rest cases w=some w'):w'.drawn=w.drawn:=by
 unfold waitingAt at h;repeat' split at h
 all_goals first|(cases h;done)|(cases h;rfl)|trace_state
def b6j (p:Program) (rest:Rest) (gs:Array Goroutine) (i:Nat) (g:Goroutine) (cases:Array CommCase) (b:Bool) (sh:CommShape) (w:World):Ds w (communicate p rest gs i g cases b sh w).1:=by
 unfold communicate;dsimp only;refine Ds.ite1 trivial ?_;refine Ds.ite1 ?_ ?_
 ·refine Ds.ite1 ?_ (Nat.le_refl _);split
  ·rename_i e;exact Nat.le_of_eq (c1u _ _ _ e).symm
  ·trivial
 ·split
  ·trivial
  ·rename_i k c way w2 e;have h:=a0O e;refine Ds.of (w':=w2) ?_ h;split
   ·split
    ·rename_i e2;exact a0O e2
    ·trivial
   ·exact Nat.le_refl _
   ·exact Nat.le_refl _
   ·split
    ·exact Nat.le_refl _
    ·split
     ·rename_i e2;exact a0O e2
     ·trivial
   ·exact Nat.le_refl _
   ·exact Nat.le_refl _
   ·trivial
def c8w (p:Program) (gs:Array Goroutine) (rest:Rest) (w:World):Ds w (look p gs rest w):=by
 unfold look;split
 ·dsimp only;refine Ds.ite trivial ?_;split
  ·trivial
  ·split
   ·rename_i e;exact a0O e
   ·trivial
   ·trivial
 ·trivial
def serve_d (p:Program) (m:Machine) (k:Nat):Ds m.world (serve p m k):=by
 unfold serve;split
 ·trivial
 ·exact Nat.le_refl _
 ·dsimp only;split
  ·trivial
  ·exact Nat.le_refl _
end Go.Aw
