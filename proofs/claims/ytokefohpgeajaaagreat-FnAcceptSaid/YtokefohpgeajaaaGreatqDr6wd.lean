/- The count of questions does not fall: a call. No condition. -/
import Derived.Test.YtokefohpgeajaaaGreatqDr5wd
namespace Go.Aw
open Go
set_option linter.all false
set_option maxHeartbeats 4000000
def drain_d (w:World) (c:Nat):(drain w c).2.drawn=w.drawn:=by unfold drain;split<;>rfl
def b0D (m:Machine) (ts:Array Timer):(m.withTimers ts).world.drawn=m.world.drawn:=by
 unfold Machine.withTimers;first|rfl|(dsimp only;split<;>rfl)|(split<;>rfl)
def c1d (m:Machine) (k:Nat) (t:Timer) (a b:Nat):(retime m k t a b).2.world.drawn=m.world.drawn:=by
 unfold retime;dsimp only;split
 ·exact drain_d _ _
 ·rfl
def c6I (m:Machine) (op:TimerOp) {v:Value} {m':Machine} (h:timerOp m op=.ok (v,m')):m'.world.drawn=m.world.drawn:=by
 have hN:∀ (m:Machine) (var:Addr) (f:Nat->Timer->Value×Machine),(∀ k t,(f k t).2.world.drawn=m.world.drawn)->∀ {v m'},timerOp.named m var f=.ok (v,m')->m'.world.drawn=m.world.drawn:=fun m var f hf v m' h=>by
  unfold timerOp.named at h;split at h
  ·simp only [Except.ok.injEq] at h;have:=hf _ _▸congrArg (fun q:Value×Machine=>q.2.world.drawn) h;exact this.symm
  ·cases h
 unfold timerOp at h;split at h
 ·split at h
  ·cases h;exact b0D _ _
  ·split at h
   ·split at h
    ·cases h
    ·cases h;rfl
   ·cases h
 ·exact hN m _ _ (fun k t=>c1d m k t _ _) h
 ·split at h
  ·rename_i m2 e;have h2:m2.world.drawn=m.world.drawn:=by
    unfold timerOp.opened at e;repeat' split at e
    all_goals first|(cases e;done)|(cases e;rfl)
   exact hN m _ _ (fun k t=>(c1d m2 k t _ _).trans h2) h
  ·cases h
 ·cases h;exact b0D _ _
def mrun_d (p:Program) (m:Machine) (i:Nat) (listen:Bool):Ds m.world (Go.runT p m i listen).1:=by
 unfold Go.runT;dsimp only;generalize m.gs.swapAt! i { (default:Goroutine) with status:=.finished }=q;obtain ⟨g,gs⟩:=q;dsimp only;have hs:=stepG_d p (i==0) g m.world listen;generalize stepG p (i==0) g m.world listen=s at hs ⊢;cases s with
 | ended o w es=>trivial
 | comm g cs b sh w es=>exact (b6j _ _ _ _ _ _ _ _ _).of hs
 | go g w es=>exact hs
 | spawn g c w es=>exact hs
 | count g w es=>
   dsimp only;exact Ds.ite trivial hs
 | alone g on w es=>exact hs
 | collect g w es=>exact (c8w _ _ _ _).of hs
 | watch g w es=>exact hs
 | newcoro g c d w es=>exact hs
 | coroswitch g c e w es=>
   dsimp only;split
   ·exact hs
   ·exact hs
   ·trivial
 | timer g op w es=>
   dsimp only;split
   ·rename_i e;have h2:=c6I _ _ e;exact Nat.le_trans hs (Nat.le_of_eq h2.symm)
   ·exact hs
   ·trivial
   ·trivial
def Dm (w:World) (s:Move):Prop:=match s with
 | .goroutine m _=>w.drawn<=m.world.drawn
 | .machine s _=>Ds w s
def Dm.of {w w':World} {s:Move} (h:Dm w' s) (g:w.drawn<=w'.drawn):Dm w s:=by
 cases s with
 | goroutine m i=>exact Nat.le_trans g h
 | machine s o=>exact Ds.of h g
def Dm.ite {w:World} {c:Prop} [Decidable c] {a b:Move} (ha:Dm w a) (hb:Dm w b):Dm w (if c then a else b):=by split<;>assumption
def b8e (p:Program) (m:Machine):Dm m.world (askOn p m):=by
 unfold askOn;dsimp only;have hP:∀ (m:Machine) (rs:List Nat),Dm m.world (match (choose (.sched rs.length)).run p m.world with
   | .halt _ w => .machine (.ended (.stuck "sched" "") w)
   | .ok k world=>
     if rs.length<=1 then .goroutine { m with world } (rs.getD k 0) else
     match (choose (.extern "sched.slice" 65536)).run p world with
     | .halt _ w => .machine (.ended (.stuck "sched.slice" "") w)
     | .ok n world=>.goroutine { m with world,rest:={ m.rest with slice:=if n=0 then none else some (rs.getD k 0,n) } } (rs.getD k 0)):=fun m rs=>by
  split
  ·trivial
  ·rename_i e;have h:=a0O e;refine Dm.ite h ?_;split
   ·trivial
   ·rename_i e2;exact Nat.le_trans h (a0O e2)
 split
 ·trivial
 ·rename_i k world e;have h:=a0O e;refine Dm.of (w':=world) ?_ h;refine Dm.ite (serve_d p { m with world:=world } _) ?_;split
  ·split
   ·exact Nat.le_refl _
   ·refine Dm.ite (Nat.le_refl _) ?_;split<;>trivial
  ·split
   ·exact hP { m with world:=world } _
   ·split
    ·trivial
    ·rename_i e2;exact (hP { m with world:=_ } _).of (a0O e2)
    ·rename_i e2;exact a0O e2
    ·rename_i e2;exact (hP (Machine.advanceTo { m with world:=_ } _) _).of (a0O e2)
def ask_d (p:Program) (m:Machine):Dm m.world (ask p m):=by
 unfold ask;split
 ·split
  ·trivial
  ·rename_i world e;have h:=a0O e;have h2:=c8w p m.gs m.rest world;split
   ·rename_i m2 e2;rw [e2] at h2;exact (b8e p m2).of (Nat.le_trans h h2)
   ·exact h2.of h
  ·rename_i e;exact (b8e p { m with world:=_ }).of (a0O e)
 ·exact b8e p m
def move_d (p:Program) (m:Machine):Dm m.world (move p m):=by
 unfold move;split
 ·exact Dm.ite (Nat.le_refl _) trivial
 ·split
  ·exact Dm.ite (Nat.le_refl _) (ask_d p { m with rest:={ m.rest with slice:=none } })
  ·exact ask_d p m
def step_d (p:Program) (m:Machine):Ds m.world (step p m):=by
 unfold step stepT;have h:=move_d p m;split
 ·rename_i m2 i e;rw [e] at h;exact (mrun_d p m2 i true).of h
 ·rename_i e;rw [e] at h;exact h
def c4M {p:Program}:∀ (n:Nat) {m m':Machine},Go.runN p n m=.next m'->m.world.drawn<=m'.world.drawn
 | 0,m,m',h=>by cases h;exact Nat.le_refl _
 | n+1,m,m',h=>by
   have h1:=step_d p m;rw [Go.runN] at h;split at h
   ·rename_i m2 e;rw [e] at h1;exact Nat.le_trans h1 (c4M n h)
   ·rename_i e;cases e2:step p m<;>simp_all
def Calls.drawn {p:Program} {f:FuncId} {args:Array Value} {w:World} {R:Ending->World->Prop} (h:Calls p f args w R):Calls p f args w fun e w'=>R e w'/\((∃ v,e=.returned v)->w.drawn<=w'.drawn):=fun cs=>by
 obtain ⟨e,w',fr,h1,h2,h3⟩:=h cs;refine ⟨e,w',fr,⟨h1, ?_⟩,h2,h3⟩;rintro ⟨v,rfl⟩;obtain ⟨n,hn⟩:=h2;exact c4M n hn
end Go.Aw
