/- The count of questions does not fall: one goroutine's step, all of it. No condition. -/
import Derived.Test.YtokefohpgeajaaaGreatqDr2wd
namespace Go.Aw
open Go
set_option linter.all false
set_option maxHeartbeats 4000000
def early_d (p:Program) (fr:Frame) (cs:List Frame) (dy:Option Dying) (g:Nat) (w:World):Dr w (early p fr cs dy g w):=by
 have hn:∀ w:World,Dr w (match w.heap[g]? with
  | some (.pending c elem)=>.go { frame:=fr,callers:=cs,status:=.running,dying:=dy } { w with heap:=w.heap.setIfInBounds g (.cells c elem) }
  | _ => .ended (.stuck "early: the variable does not wait" (fr.pos p)) w) := fun w => by
  split<;>exact Nat.le_refl _
 unfold early;dsimp only;refine Dr.ite (hn w) ?_;split
 ·exact Nat.le_refl _
 ·refine Dr.ite (hn w) ?_;refine Dr.ite (hn w) ?_;split
  ·exact Nat.le_refl _
  ·exact Nat.le_refl _
  ·exact Nat.le_refl _
  ·exact hn w
  ·refine Dr.ite (Nat.le_refl _) ?_;refine Dr.ite (hn w) ?_;split
   ·rename_i e;exact (hn _).of (a0O e)
   ·rename_i e;exact a0O e
   ·rename_i e;exact a0O e
def b3r (p:Program) (listen:Bool) (fr:Frame) (cs:List Frame) (dy:Option Dying) (s:Sem Next) (w:World):Dr w (stepG.apply p listen fr cs dy s w):=by
 unfold stepG.apply;dsimp only;have hr:w.drawn<=(if listen=true then s.runT p w #[] else (s.run p w,#[])).1.world.drawn:=by
  split
  ·exact a2C p s w #[]
  ·exact b7F p s w
 generalize (if listen=true then s.runT p w #[] else (s.run p w,#[]))=q at hr ⊢;obtain ⟨r,es⟩:=q;dsimp only at hr ⊢;refine Dr.after ?_;cases r with
 | ok n w2=>
   cases n;all_goals first
    | exact hr
    | exact Dr.ite ((a5v _ _ _).of hr) hr
    | (dsimp only;split<;>exact hr)
    | trace_state
 | halt h w2=>
   cases h;all_goals first
    | exact hr
    | exact (b4F _ _ _ _ _ _).of hr
    | exact (a5v _ _ _).of hr
    | (rename_i u;cases u
       all_goals first
        | exact hr
        | exact (early_d _ _ _ _ _ _).of hr)
    | trace_state
end Go.Aw
