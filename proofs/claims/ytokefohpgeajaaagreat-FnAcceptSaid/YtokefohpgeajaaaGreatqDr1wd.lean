/- The count of questions does not fall: what the semantics' monad does. No condition. -/
import Derived.Calls
namespace Go.Aw
open Go
set_option linter.all false
set_option maxHeartbeats 1000000
def b3q (p:Program) (w:World) (at_:Addr) (u:TypeId) (a:Addr) (v:Value) (b:Bool) {w':World} {l:List Addr} (h:w.viewStore p at_ u a v b=.ok (w',l)):w'.drawn=w.drawn:=by
 unfold World.viewStore at h;simp only [bind,Except.bind,pure,Except.pure,throwThe,MonadExceptOf.throw,MonadExcept.throw] at h;repeat' split at h
 all_goals first|(cases h;done)|(simp only [Except.ok.injEq,Prod.mk.injEq] at h;obtain ⟨rfl,_⟩:=h;rfl)|trace_state
def a6X (p:Program) (w:World) (a:Addr) (v:Value) (b:Bool) {w':World} {l:List Addr} (h:w.farStore p a v b=.ok (w',l)):w'.drawn=w.drawn:=by
 unfold World.farStore at h;split at h
 ·split at h
  ·rename_i r e;simp only [Except.ok.injEq] at h;subst h;exact b3q _ _ _ _ _ _ _ e
  ·cases h
 ·cases h
def a9V (w:World) (a:Addr) (n:Nat):(w.freeze a n).drawn=w.drawn:=by
 unfold World.freeze;split<;>rfl
def b0Y {α:Type}:∀ (q:Ask α) (w:World),w.drawn<=(w.ask q).2.drawn
 | .done a,w=>Nat.le_refl _
 | .ask what range k,w=>by
   rw [World.ask];split
   ·exact b0Y (k 0) w
   ·exact Nat.le_trans (Nat.le_succ _) (b0Y _ { w with drawn:=w.drawn+1 })
def b1T (w:World) (c:Sys):w.drawn<=(w.sys c).2.drawn:=by
 have h:=b0Y (Kernel.perform c w.os) w;rw [World.sys];split
 ·exact Nat.le_refl _
 ·rename_i e;rw [e] at h;exact h
def _root_.Go.Result.world {α:Type}:Result α->World
 | .ok _ w=>w
 | .halt _ w=>w
def a2C {α:Type} (p:Program) (s:Sem α):∀ (w:World) (es:Array Event),w.drawn<=(s.runT p w es).1.world.drawn:=by
 induction s with
 | pure a=>exact fun w es=>Nat.le_refl _
 | load m a k ih=>
   intro w es;unfold Sem.runT;split
   ·exact ih _ _ _
   ·split
    ·exact ih _ _ _
    ·exact Nat.le_refl _
 | store m a v k ih=>
   intro w es;have G:=ih;cases v;all_goals first
    | exact Nat.le_refl _
    | (unfold Sem.runT
       split
       ·split
        ·exact Nat.le_refl _
        ·exact G (w.setCell a _) _
       ·split
        ·rename_i w2 touched e;have:=a6X _ _ _ _ _ e;rw [<- this];exact G w2 _
        ·exact Nat.le_refl _)
 | new o k ih=>exact fun w es=>ih w.heap.size { w with heap:=w.heap.push o } es
 | shape r k ih=>exact fun w es=>ih _ w es
 | freeze a n k ih=>
   intro w es;unfold Sem.runT;have:=ih (w.freeze a n) es
   rwa [a9V] at this
 | frozen a k ih=>exact fun w es=>ih _ w es
 | getObj r k ih=>
   intro w es;unfold Sem.runT;split
   ·exact Nat.le_refl _
   ·exact ih _ _ _
   ·exact Nat.le_refl _
 | setObj r o k ih=>
   intro w es;unfold Sem.runT;split
   ·exact Nat.le_refl _
   ·exact ih { w with heap:=w.heap.setIfInBounds r o } _
   ·exact Nat.le_refl _
 | choose q k ih=>
   intro w es;unfold Sem.runT;split
   ·exact ih _ _ _
   ·exact Nat.le_trans (Nat.le_succ _) (ih _ { w with drawn:=w.drawn+1 } _)
 | sys c k ih=>exact fun w es=>Nat.le_trans (b1T w c) (ih (w.sys c).1 (w.sys c).2 _)
 | program k ih=>exact fun w es=>ih p w es
 | mark m k ih=>exact fun w es=>ih w _
 | halt h=>exact fun w es=>Nat.le_refl _
def b7F {α:Type} (p:Program) (s:Sem α):∀ (w:World),w.drawn<=(s.run p w).world.drawn:=by
 induction s with
 | pure a=>exact fun w=>Nat.le_refl _
 | load m a k ih=>
   intro w;unfold Sem.run;split
   ·exact ih _ _
   ·split
    ·exact ih _ _
    ·exact Nat.le_refl _
 | store m a v k ih=>
   intro w;have G:=ih;cases v;all_goals first
    | exact Nat.le_refl _
    | (unfold Sem.run
       split
       ·split
        ·exact Nat.le_refl _
        ·exact G (w.setCell a _)
       ·split
        ·rename_i w2 touched e;have:=a6X _ _ _ _ _ e;rw [<- this];exact G w2
        ·exact Nat.le_refl _)
 | new o k ih=>exact fun w=>ih w.heap.size { w with heap:=w.heap.push o }
 | shape r k ih=>exact fun w=>ih _ w
 | freeze a n k ih=>
   intro w;unfold Sem.run;have:=ih (w.freeze a n)
   rwa [a9V] at this
 | frozen a k ih=>exact fun w=>ih _ w
 | getObj r k ih=>
   intro w;unfold Sem.run;split
   ·exact Nat.le_refl _
   ·exact ih _ _
   ·exact Nat.le_refl _
 | setObj r o k ih=>
   intro w;unfold Sem.run;split
   ·exact Nat.le_refl _
   ·exact ih { w with heap:=w.heap.setIfInBounds r o }
   ·exact Nat.le_refl _
 | choose q k ih=>
   intro w;unfold Sem.run;split
   ·exact ih _ _
   ·exact Nat.le_trans (Nat.le_succ _) (ih _ { w with drawn:=w.drawn+1 })
 | sys c k ih=>exact fun w=>Nat.le_trans (b1T w c) (ih (w.sys c).1 (w.sys c).2)
 | program k ih=>exact fun w=>ih p w
 | mark m k ih=>exact fun w=>ih w
 | halt h=>exact fun w=>Nat.le_refl _
end Go.Aw
