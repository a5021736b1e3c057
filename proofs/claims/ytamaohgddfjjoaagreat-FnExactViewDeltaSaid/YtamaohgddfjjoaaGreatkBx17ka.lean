/- slices.Grow of a slice that holds nothing: the contract out of two roads. No condition. -/
import Derived.Test.YtamaohgddfjjoaaGreatkBx11ka
namespace Go.Aw
open Go.Lib
set_option linter.all false
variable{P:Program}
structure i3(P:Program)(f:FuncId)(e:TypeId)(m:Nat)(z:Value):Prop where
 same:∀(w:World) (a:Option Addr) (c:Nat) (n:Int),0<=n->n<=c->c<=maxLen->Calls P f #[.slice a 0 c,.int .i64 n] w fun x w'=>x=.returned (.slice a 0 c)/\w'=w
 more:∀(w:World) (a:Option Addr) (c n:Nat) (cs:List Value),c<n->n<=1000000->(Builtin.firstCells m c (.slice a c c)).run P w.drew=.ok cs.toArray w.drew->
  Calls P f #[.slice a 0 c,.int .i64 n] w fun x w'=>x=.returned (.slice (some ⟨w.heap.size,0,none⟩) 0 (grownCap w n c e))/\w'=(w.alloc (.cells (cs.toArray++(Builtin.zeroCells z.cells (n-c)++Builtin.zeroCells z.cells (grownCap w n c e-n))) e)).drew
def e1e{f:FuncId}{e:TypeId}{z:Value}{d:List C}(R:i3 P f e d.length z)(hcl:F9 P f=true)(hz:z.cells.size=d.length)(n:Nat)(h6:n<=1000000):A0d P f [(false,[.sl true d []]),(false,[.i .i64 n])] [] (.one (false,[.sl true d []])):=by
 unfold A0d;refine⟨hcl, ?_⟩;intro F w vs fpa h hnd hnf hF;unfold VsRd at h;obtain⟨v1,r1,f1,g1,rfl,rfl,h1,h⟩:=h;unfold VsRd at h;obtain⟨v2,r2,f2,g2,rfl,rfl,h2,h⟩:=h;unfold VsRd at h;obtain⟨rfl,rfl⟩:=h;simp only[VRd]at h1 h2;obtain⟨c,hc1,h1⟩:=h1;simp only[K8]at hc1;subst hc1;obtain⟨c,hc1,h2⟩:=h2;simp only[K8]at hc1;subst hc1;unfold C.Rd at h2;obtain⟨rfl,_,rfl⟩:=h2;rw[q1O,q0D]at hnd hnf ⊢;have h1':=h1;unfold C.Rd at h1;obtain⟨a,cap,rfl,_,hcap,_,hq⟩:=h1;simp only[W8]at hq;by_cases hn:n<=cap
 ·refine(R.same w a cap n z0C z0C hcap).mono ?_;rintro x w' ⟨rfl,rfl⟩;refine⟨F,_,f1,[],rfl, ?_,rfl,⟨fun _ h=>h,fun _ h=>.inl h,hF,by simpa using hnd, ?_,fun _ _ _=>rfl,q0C _,rfl, ?_,rfl⟩⟩
  ·simp only[RRd,VRd];exact⟨_,rfl,h1'⟩
  ·intro b hb;rw[q0D]at hb;exact⟨(hnf b hb).1,.inl hb,(hnf b hb).2⟩
  ·exact Tp.of rfl rfl
 ·have hold:∃cs:List Value,cs.length=cap*d.length/\(Builtin.firstCells d.length cap (.slice a cap cap)).run P w.drew=.ok cs.toArray w.drew:=by
   rcases hq with⟨h0,_⟩|⟨b,o,V,fp',rfl,_,⟨c0,e0,hb,hs⟩,_,_⟩
   ·subst h0;refine⟨[],z0D, ?_⟩;cases a with
    | none=>exact run_firstCells_none _ _ _ _ _
    | some b=>exact run_firstCells_some _ _ 0 b 0 0 [] z0D (by simp)
   ·refine⟨(c0.toList.drop o).take (cap*d.length),z0S,run_firstCells_some w.drew d.length cap ⟨b,o,none⟩ cap cap _ z0S fun j v hj=>?_⟩;rw[A0l];rw[q4X]at hj;split at hj
    ·rw[q4I]at hj;show(w.drew).cell? ⟨b,o+j,none⟩=some v;simp only[World.cell?,show w.drew.heap[b]? = some (.cells c0 e0 (0,0))from hb];simpa using hj
    ·cases hj
  obtain⟨cs,hcs,hold⟩:=hold;refine(R.more w a cap n cs z0C h6 hold).mono ?_;rintro x w' ⟨rfl,rfl⟩;have hG:=grownCap_ge w n cap e;have hG63:=grownCap_le_maxLen w n cap e z11;generalize grownCap w n cap e=G at*;have hsz:(cs.toArray++(Builtin.zeroCells z.cells (n-cap)++Builtin.zeroCells z.cells (G-n))).size=G*d.length:=by
   simp only[q3L,q0O,size_zeroCells,hz,hcs];rw[<-q2C,<-q2C]
   congr 1
   omega
  generalize hX:cs.toArray++(Builtin.zeroCells z.cells (n-cap)++Builtin.zeroCells z.cells (G-n))=X at*;have hnew:(w.alloc (.cells X e)).drew.heap[w.heap.size]? = some (.cells X e (0,0)):=heap_alloc_new w _;have hlen:(w.alloc (.cells X e)).drew.heap.size=w.heap.size+1:=by show(w.heap.push _).size=_;rw[q5A]
  refine⟨F,_,[w.heap.size],[],rfl, ?_,rfl,⟨fun _ h=>h,fun _ h=>.inl h,fun b hb=>by have:=hF b hb;omega,z0D, ?_, ?_,z0C,rfl, ?_,rfl⟩⟩
  ·simp only[RRd,VRd];refine⟨_,rfl, ?_⟩;unfold C.Rd;exact⟨_,G,rfl,q2H _,hG63,z0D,.inr ⟨w.heap.size,0,[],[],rfl,rfl,⟨X,e,hnew,by rw[hsz];omega⟩,(fun j hj=>by cases hj),z08⟩⟩
  ·intro b hb;simp only[q0D,q0A]at hb;subst hb;exact⟨fun h=>by have:=hF _ h;omega,.inr (q0C _),z0C⟩
  ·intro b hb _;exact E4 hb
  ·exact⟨rfl,q4K _⟩
end Go.Aw
