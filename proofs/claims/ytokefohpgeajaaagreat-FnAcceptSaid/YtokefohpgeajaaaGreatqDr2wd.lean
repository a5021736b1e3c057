/- The count of questions does not fall: one goroutine's step. No condition. -/
import Derived.Test.YtokefohpgeajaaaGreatqDr1wd
namespace Go.Aw
open Go
set_option linter.all false
set_option maxHeartbeats 4000000
def _root_.Go.GStep.world:Go.GStep->World
 | .go _ w _=>w
 | .comm _ _ _ _ w _=>w
 | .spawn _ _ w _=>w
 | .count _ w _=>w
 | .timer _ _ w _=>w
 | .alone _ _ w _=>w
 | .newcoro _ _ _ w _=>w
 | .coroswitch _ _ _ w _=>w
 | .collect _ w _=>w
 | .watch _ w _=>w
 | .ended _ w _=>w
def Dr (w:World) (s:Go.GStep):Prop:=w.drawn<=s.world.drawn
def b9J (es:Array Event) (s:Go.GStep):(s.after es).world=s.world:=by cases s<;>rfl
def Dr.after {w:World} {es:Array Event} {s:Go.GStep} (h:Dr w s):Dr w (s.after es):=by rw [Dr,b9J];exact h
def Dr.of {w w':World} {s:Go.GStep} (h:Dr w' s) (g:w.drawn<=w'.drawn):Dr w s:=Nat.le_trans g h
def Dr.same {w:World} {s:Go.GStep} (h:s.world=w):Dr w s:=by rw [Dr,h];exact Nat.le_refl _
def Dr.ite {w:World} {c:Prop} [Decidable c] {a b:Go.GStep} (ha:Dr w a) (hb:Dr w b):Dr w (if c then a else b):=by split<;>assumption
def runT_ok {α:Type} {p:Program} {s:Sem α} {w w':World} {es es':Array Event} {r:Result α} (h:s.runT p w es=(r,es')):w.drawn<=r.world.drawn:=by
 have:=a2C p s w es;rw [h] at this;exact this
def a0O {α:Type} {p:Program} {s:Sem α} {w:World} {r:Result α} (h:s.run p w=r):w.drawn<=r.world.drawn:=by
 have:=b7F p s w;rw [h] at this;exact this
def a7x {α:Type} {p:Program} {s:Sem α} {w:World} {es:Array Event} {r:Result α} (h:(s.runT p w es).1=r):w.drawn<=r.world.drawn:=by
 have:=a2C p s w es;rw [h] at this;exact this
def c6e (w:World) (fd:Nat) (text:ByteArray) (o:Outcome):Dr w (endWith w fd text o):=by
 have h:=b1T w (.write fd text);unfold endWith;dsimp only;rcases e:w.sys (.write fd text) with ⟨r,w2⟩
 rw [e] at h;cases r with
 | int n=>dsimp only;split<;>exact h
 | _=>exact h
def a5v (fr:Frame) (m:String) (w:World):Dr w (endThrow fr m w):=Nat.le_refl _
def a8k (p:Program) (fr:Frame) (v:Value) (w:World):Dr w (endPrinting p fr v w):=by
 unfold endPrinting;dsimp only;split
 ·exact a5v _ _ _
 ·exact Nat.le_refl _
def b4F (p:Program) (fr:Frame) (cs:List Frame) (d:Option Dying) (m:String) (w:World):Dr w (endFatal p fr cs d m w):=by
 unfold endFatal;dsimp only;split
 all_goals (rename_i e;exact a0O e)
def c6N (p:Program) (fr:Frame) (d:Dying) (f:Fatal) (w:World):Dr w (writeOn p fr d f w):=by
 unfold writeOn;dsimp only;split
 ·exact Nat.le_refl _
 ·split
  all_goals (rename_i e;exact runT_ok (w':=w) e)
def die_d (p:Program) (fr:Frame) (d:Dying) (w:World):Dr w (die p fr d w):=by
 unfold die;split
 ·exact c6N _ _ _ _ _
 ·split
  ·split
   ·exact Nat.le_refl _
   ·exact c6e _ _ _ _
  ·dsimp only;split
   ·exact Nat.le_refl _
   ·split
    all_goals (rename_i e;exact a0O e)
   ·refine Dr.after ?_;have hr:=a2C p (invoke (.fn (.method ‹_›) #[]) #[.iface ‹_› ‹_›]) w #[];split
    all_goals first
     | (rename_i e;rw [e] at hr;exact hr)
     | (rename_i e;rw [e] at hr;exact (a8k _ _ _ _).of hr)
     | exact Nat.le_refl _
     | trace_state
   ·exact Nat.le_refl _
def a8F (p:Program) (main:Bool) (fr:Frame) (cs:List Frame) (d:Option Dying) (v:Value) (w:World):Dr w (doReturn p main fr cs d v w):=by
 unfold doReturn;repeat' split
 all_goals first|exact Nat.le_refl _|trace_state
def b4A (p:Program) (fr:Frame) (cs:List Frame) (dy:Option Dying) (d:Deferred) (w:World):Dr w (callDeferred p fr cs dy d w):=by
 unfold callDeferred;refine Dr.ite (Nat.le_refl _) ?_
 ·dsimp only;refine Dr.after ?_;have hr:=a2C p (invoke d.target d.args) w #[];generalize (Sem.runT p (invoke d.target d.args) w #[]).1=r at hr ⊢;cases r with
  | ok n w2=>
    cases n;all_goals first
     | exact hr
     | (rename_i a b;cases a<;>exact hr)
     | (rename_i a b;cases b<;>exact hr)
     | (dsimp only;split<;>exact hr)
     | trace_state
  | halt h w2=>
    cases h;all_goals first
     | exact hr
     | exact (b4F _ _ _ _ _ _).of hr
     | exact (a5v _ _ _).of hr
     | (dsimp only;split<;>exact hr)
     | trace_state
def c8Q (p:Program) (main:Bool) (fr:Frame) (cs:List Frame) (dy:Option Dying) (w:World):Dr w (unwind p main fr cs dy w):=by
 unfold unwind;split
 ·dsimp only;refine Dr.after ?_;split
  all_goals (rename_i e;exact a7x e)
 ·exact b4A _ _ _ _ _ _
 ·split
  ·exact Nat.le_refl _
  ·split
   ·exact Nat.le_refl _
   ·split
    ·exact Nat.le_refl _
    ·split
     ·split
      ·exact Nat.le_refl _
      ·split
       all_goals (rename_i e;exact a0O e)
     ·split
      ·exact a8k _ _ _ _
      ·exact Nat.le_refl _
  ·split
   ·exact a8F _ _ _ _ _ _ _
   ·dsimp only;refine Dr.after ?_;split
    all_goals (rename_i e;first|exact (a8F _ _ _ _ _ _ _).of (a7x e)|exact a7x e)
end Go.Aw
