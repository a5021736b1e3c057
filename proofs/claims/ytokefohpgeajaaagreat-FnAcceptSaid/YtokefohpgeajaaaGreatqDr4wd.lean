/- The count of questions does not fall: one goroutine's step, all of it. No condition. -/
import Derived.Test.YtokefohpgeajaaaGreatqDr3wd
namespace Go.Aw
open Go
set_option linter.all false
set_option maxHeartbeats 4000000
def oper_d (p:Program) (listen:Bool) (fr:Frame) (cs:List Frame) (dy:Option Dying) (w:World):Dr w (stepG.oper p listen fr cs dy w):=by
 unfold stepG.oper;split
 ·exact Nat.le_refl _
 ·split<;>exact b3r _ _ _ _ _ _ _
def exec_d (p:Program) (main:Bool) (listen:Bool) (fr:Frame) (cs:List Frame) (dy:Option Dying) (w:World):Dr w (stepG.exec p main listen fr cs dy w):=by
 have hR:∀ (l:Nat) (jump:Option Code),Dr w (Go.GStep.after (seen p fr.fn ((Instr.endRound l jump).runT p w #[]).2) (match ((Instr.endRound l jump).runT p w #[]).1 with
    | .ok v w=>doReturn p main fr cs dy v w
    | .halt _ w => .ended (.stuck "range over a function: no such loop" (fr.pos p)) w)) := fun l jump => by
  refine Dr.after ?_;have hr:=a2C p (Instr.endRound l jump) w #[];generalize ((Instr.endRound l jump).runT p w #[]).1=r at hr ⊢;cases r with
  | ok v w2=>exact (a8F _ _ _ _ _ _ _).of hr
  | halt h w2=>exact hr
 unfold stepG.exec;dsimp only;split
 all_goals first
  | exact Nat.le_refl _
  | exact b3r _ _ _ _ _ _ _
  | (split
     ·exact Dr.ite (Nat.le_refl _) (Nat.le_refl _)
     ·exact hR _ _)
  | (split<;>exact Nat.le_refl _)
  | skip
 ·rename_i id k _;cases exitTo id k with
  | some t=>exact Nat.le_refl _
  | none=>
    show Dr w (match fr.roundOf with|none=>_|some l=>_);split
    ·exact Nat.le_refl _
    ·exact hR _ _
 ·rename_i id k _;cases gotoIn id k with
  | some t=>exact Nat.le_refl _
  | none=>
    show Dr w (match fr.roundOf with|none=>_|some l=>_);split
    ·exact Nat.le_refl _
    ·exact hR _ _
 ·refine Dr.after ?_;split
  ·rename_i e;exact (b3r _ _ _ _ _ _ _).of (a7x e)
  ·rename_i e;exact a7x e
 ·refine Dr.after ?_;split
  all_goals (rename_i e;exact a7x e)
 ·rename_i row _ _ _;cases Extern.next row with
  | none=>exact Nat.le_refl _
  | some e=>exact b3r _ _ _ _ _ _ _
 ·refine Dr.ite (Nat.le_refl _) ?_;split
  all_goals (rename_i e;exact a0O e)
 ·exact Dr.ite (oper_d _ _ _ _ _ _) (Nat.le_refl _)
def stepG_d (p:Program) (main:Bool) (g:Goroutine) (w:World) (listen:Bool):Dr w (stepG p main g w listen):=by
 unfold stepG;dsimp only;split
 ·exact die_d _ _ _ _
 ·exact exec_d _ _ _ _ _ _ _
 ·exact c8Q _ _ _ _ _ _
end Go.Aw
