/- slices.Insert of one element: what memory does, and the contract out of three roads. No condition. -/
import Derived.Test.YtkophkhamikaoaaGreatlBwtkb
import Derived.Calls
import Derived.Lib.Overlaps
import Derived.Lib.AppendZerosOnto
import Derived.Lib.Walk
import Derived.Lib.JoinLaws
import Derived.Laws.Externs
import Derived.Shelf.RegionOpenPlain
namespace Go.Aw
open Go.Lib
set_option linter.all false
variable{P:Program}
def a1R(w:World)(dT sT ty elem:TypeId)(size b o dLen dCap:Nat)(a:Addr)(sLen sCap:Nat)(cs:List Value)
  (hu:P.underlying dT=some (.slice elem)) (hs:(P.info? elem).map (·.size)=some size) (hn:cs.length=Nat.min sLen dLen*size)
  (hsrc:∀j v,cs[j]? = some v->w.cell? (a.add j)=some v) (hc:∀j,j<cs.length->(w.cell? ⟨b,o+j,none⟩).isSome=true) (hf:∀j,j<cs.length->w.frozen? ⟨b,o+j,none⟩=false) (h1:∀v∈cs,v.oneCell'=true):
  (Builtin.copy_ #[dT,sT] ty #[.slice (some ⟨b,o,none⟩) dLen dCap,.slice (some a) sLen sCap]).run P w=.ok (goInt (Nat.min sLen dLen)) (w.setCells b o cs):=by
 have hl:=run_loadCells_list (P:=P) w a cs hsrc;have hst:=run_storeCells_cells (P:=P) b o cs 0 w z0O (by simpa using hf) h1;cases hq:P.info? elem with
 | none=>simp[hq]at hs
 | some i=>
   have hi:i.size=size:=by simpa[hq]using hs
   simp[Builtin.copy_,run_underlying hu,Builtin.lenOf,Builtin.firstCells,sizeOf,typeInfo,hq,hi,<-hn,hl,hst]
def c1q{α:Type}(l:List α)(k:Int)(x:α):List α:=l.take k.toNat++x::l.drop k.toNat
def Drew(w u:World):Prop:=u.heap=w.heap/\u.os=w.os/\Tp w u/\u.output=w.output
structure InsRuns(P:Program)(f:FuncId)(t e:TypeId)(m:Nat)(z:Value):Prop where
 fin:∀(w:World) (a:Option Addr) (n c:Nat) (ax:Addr) (cx:Nat) (v':Value) (w':World),(Builtin.append_ #[t,t] t #[.slice a n c,.slice (some ax) 1 cx]).run P w=.ok v' w'->
  Calls P f #[.slice a n c,.int .i64 n,.slice (some ax) 1 cx] w fun x w''=>x=.returned v'/\w''=w'
 shift:∀(b o n c i vb vo vc:Nat) (cs vs:List Value) (w:World),i<n->n+1<=c->c<=maxLen->vb≠b->cs.length=n*m->vs.length=m->CellsAt w b o cs->CellsAt w vb vo vs->OwnBlk w b (o+c*m)->OwnBlk w vb (vo+m)->(∀v∈cs,v.oneCell'=true)->(∀v∈vs,v.oneCell'=true)->
  Calls P f #[.slice (some ⟨b,o,none⟩) n c,.int .i64 i,.slice (some ⟨vb,vo,none⟩) 1 vc] w fun x w'=>x=.returned (.slice (some ⟨b,o,none⟩) (n+1) c)/\∃u,Drew w u/\w'=(u.setCells b (o+(i+1)*m) (cs.drop (i*m))).setCells b (o+i*m) vs
 grow:∀(b o n c i vb vo vc:Nat) (cs vs:List Value) (w:World),i<n->n<=c->c<n+1->n<=1000000->vb<w.heap.size->b<w.heap.size->cs.length=n*m->vs.length=m->CellsAt w b o cs->CellsAt w vb vo vs->(∀v∈cs,v.oneCell'=true)->(∀v∈vs,v.oneCell'=true)->
  Calls P f #[.slice (some ⟨b,o,none⟩) n c,.int .i64 i,.slice (some ⟨vb,vo,none⟩) 1 vc] w fun x w'=>x=.returned (.slice (some ⟨w.heap.size,0,none⟩) (n+1) (grownCap w (n+1) c e))/\
   ∃u,Drew (w.alloc (.cells ((cs.take (i*m)).toArray++Builtin.zeroCells z.cells (n+1-i)++Builtin.zeroCells z.cells (grownCap w (n+1) c e-(n+1))) e)) u/\w'=(u.setCells w.heap.size (i*m) vs).setCells w.heap.size ((i+1)*m) (cs.drop (i*m))
def c1s{f:FuncId}{t e:TypeId}{z:Value}{i0:TypeInfo}{d:List C}(R:InsRuns P f t e d.length z)(hcl:F9 P f=true)(ht:P.underlying t=some (.slice e))(hi:P.info? e=some i0)(hz:i0.zero=some z)(hzl:z.cells.size=i0.size)(hsz:i0.size=d.length)(hby:0<i0.bytes)
  (l:List (List C)) (x:List C) (k:Nat) (hk:k<=l.length) (hbig:(l.length+1)*i0.bytes<=140737488355328) (hsm:l.length<=1000000):A0e P f [(false,[.sl true d l]),(false,[.i .i64 k]),(false,[.sl true d [x]])] [] (.one (false,[.sl true d (l.take k++x::l.drop k)])):=by
 unfold A0e;refine⟨hcl, ?_⟩;intro F w vs fpa h hnd hnf hF;unfold VsRd at h;obtain⟨v1,r1,f1,g1,rfl,rfl,h1,h⟩:=h;unfold VsRd at h;obtain⟨v2,r2,f2,g2,rfl,rfl,h2,h⟩:=h;unfold VsRd at h;obtain⟨v3,r3,f3,g3,rfl,rfl,h3,h⟩:=h;unfold VsRd at h;obtain⟨rfl,rfl⟩:=h;simp only[VRd]at h1 h2 h3;obtain⟨c,hc1,h1⟩:=h1;simp only[K8]at hc1;subst hc1;obtain⟨c,hc1,h2⟩:=h2;simp only[K8]at hc1;subst hc1;obtain⟨c,hc1,h3⟩:=h3;simp only[K8]at hc1;subst hc1;unfold C.Rd at h2;obtain⟨rfl,_,rfl⟩:=h2;rw[q1J,q0A]at hnd hnf ⊢;have h1':=h1;unfold C.Rd at h3;obtain⟨a3,c3,rfl,h32,h33,h34,h35⟩:=h3;simp only[W8]at h35;rcases h35 with⟨h0,_⟩|⟨vb,vo,vx,fx,rfl,rfl,hob3,hca3,hr3⟩
 ·simp only[V9,q1R]at h32;omega
 have hvx:vx.length=d.length:=by rw[A6 h34 hr3];simp
 have hx1:=A1l hr3;have hvb:vb<w.heap.size:=(hnf vb z0E).2;simp only[V9,q1R,q3O];by_cases hkn:k=l.length
 ·have hsrc:Src P i0.size t (.slice (some ⟨vb,vo,none⟩) 1 c3) 1 vx w:=Src.ofSlice w ht _ 1 c3 vx (by rw[hsz,hvx];omega) (fun j u hj=>by
   obtain⟨hj',rfl⟩:=q0U.1 hj;rw[A0m];exact hca3 j hj') hx1
  have hndx:(f1++fx).Nodup:=hnd.sublist (List.Sublist.append_left (q5Z _ _) _);obtain⟨v',w',fp',hrun,hT,hrd,hnd',hfp'⟩:=A4R (ty:=t) ht hi hz hzl hsz hF h1' (fun b hb=>⟨(hnf b z08).2,(hnf b z08).1⟩) hsrc hr3 h34 (fun b hb=>(hnf b z08).2) hndx hby (by simpa using hbig);unfold C.Rd at h1;obtain⟨a1,c1,rfl,_⟩:=h1;subst hkn;refine(R.fin w a1 l.length c1 ⟨vb,vo,none⟩ c3 v' w' hrun).mono ?_;rintro x' w'' ⟨rfl,rfl⟩;refine⟨F,_,fp',[],rfl, ?_,rfl,⟨fun _ h=>h,fun _ h=>.inl h,fun b hb=>q1O (hF b hb) hT.sz,by simpa using hnd', ?_, ?_,hT.sz,hT.os,hT.tape,hT.out⟩⟩
  ·simp only[RRd,VRd];refine⟨_,rfl, ?_⟩;rw[q6D,List.drop_length];exact hrd
  ·intro b hb;rw[q0A]at hb;obtain⟨p1,p2⟩:=hfp' b hb;rcases p2 with p2|p2|p2
   ·exact⟨fun h=>by have:=hF b h;omega,.inr p2,p1⟩
   ·exact⟨(hnf b (by simp[p2])).1,.inl (by simp[p2]),p1⟩
   ·exact⟨(hnf b (by simp[p2])).1,.inl (by simp[p2]),p1⟩
  ·intro b hb hn;exact hT.fr b hb fun h=>hn (by simp[h])
 ·have hkl:k<l.length:=by omega
  unfold C.Rd at h1;obtain⟨a1,cap,rfl,h12,h13,h14,h15⟩:=h1;simp only[W8]at h15;rcases h15 with⟨h0,_⟩|⟨b,o,V,fp,rfl,rfl,hob,hca,hr⟩
  ·omega
  have hV:V.length=l.length*d.length:=A6 h14 hr;obtain⟨fa,fb,rfl,hra,hrb⟩:=A0r k h14 hr;have hV1:=A1l hr;have hb:b<w.heap.size:=(hnf b z0E).2;have hbF:¬F b:=(hnf b z0E).1;have hne:vb≠b:=fun e=>by subst e;simp at hnd
  have hkm:k*d.length<=l.length*d.length:=q1S _ hk;have hkm1:(k+1)*d.length=k*d.length+d.length:=q4W _ _;have hd1:(V.take (k*d.length)).length=k*d.length:=by rw[V1];omega
  have hd2:(V.drop (k*d.length)).length=l.length*d.length-k*d.length:=by rw[q2A];omega
  have hrow:∀r∈l.take k++x::l.drop k,r.length=d.length:=fun r hr=>by
   rcases V0.1 hr with hr|hr
   ·exact h14 r (q1L hr)
   ·rcases q0B.1 hr with rfl|hr
    ·exact h34 r (by simp)
    ·exact h14 r (q2Z hr)
  have hlen:(l.take k++x::l.drop k).length=l.length+1:=by simp;omega
  have hn1:b∉fa:=fun h=>by simp[h]at hnd
  have hn2:b∉fb:=fun h=>by simp[h]at hnd
  have hn3:b∉fx:=fun h=>by simp[h]at hnd
  have hnl:∀y∈fa++(fx++fb),y<w.heap.size/\¬F y:=fun y hy=>by
   simp only[V0]at hy;have:=hnf y (by simp;rcases hy with h|h|h<;>simp[h]);exact⟨this.2,this.1⟩
  have hnn:(fa++(fx++fb)).Nodup:=by
   have h1:((fa++fb)++fx).Nodup:=(hnd.sublist (List.Sublist.append (q5Z _ _) (q5Z _ _)))
   have hp:((fa++fb)++fx).Perm (fa++(fx++fb)):=by
    rw[q0X];exact List.perm_append_comm.append_left fa
   exact hp.nodup_iff.1 h1
  have fin:∀(b' o' cap':Nat) (w':World) (c2:Array Value) (e2:TypeId) (pre post:List Value),l.length+1<=cap'->cap'<=maxLen->(b'=b\/w.heap.size<=b')->w'.heap[b']? = some (.cells c2 e2 (0,0))->c2.toList=pre++((V.take (k*d.length)++(vx++V.drop (k*d.length)))++post)->pre.length=o'->o'+cap'*d.length<=c2.size->
    (∀y,y<w.heap.size->y≠b->w'.heap[y]? = w.heap[y]?)->w.heap.size<=w'.heap.size->w'.os=w.os/\Tp w w'/\w'.output=w.output->
    ∃F' v fp fo,(Ending.returned (.slice (some ⟨b',o',none⟩) (l.length+1) cap'):Ending)=.returned v/\RRd F' w' (.one (false,[.sl true d (l.take k++x::l.drop k)])) v fp/\OutRd F' w' (.slice (some ⟨b,o,none⟩) l.length cap::.int .i64 k::[.slice (some ⟨vb,vo,none⟩) 1 c3]) [] fo/\Post F F' ((b::(fa++fb))++vb::fx) (fp++fo) w w':=by
   intro b' o' cap' w' c2 e2 pre post g1 g2 g3 g4 g5 g6 g7 g8 g9 g10;have hsF:∀y,F y->w'.heap[y]? = w.heap[y]?:=fun y hy=>g8 y (hF y hy) fun e=>hbF (e▸hy)
   have hb':b'<w'.heap.size:=by
    rcases q3I b' w'.heap.size with h|h
    ·exact h
    ·rw[q2N z0D]at g4;cases g4
   refine⟨F,_,b'::(fa++(fx++fb)),[],rfl, ?_,rfl,⟨fun _ h=>h,fun _ h=>.inl h,fun y hy=>q1O (hF y hy) g9, ?_, ?_, ?_,g9,g10.1,g10.2.1,g10.2.2⟩⟩
   ·simp only[RRd,VRd];refine⟨_,rfl, ?_⟩;unfold C.Rd;refine⟨_,cap',by rw[hlen],by rw[hlen];exact g1,g2,hrow,.inr ⟨b',o',V.take (k*d.length)++(vx++V.drop (k*d.length)),fa++(fx++fb),rfl,rfl,⟨c2,e2,g4,g7⟩,A0B g4 g5 g6, ?_⟩⟩;have hs:∀(y:Nat),y∈fa++(fx++fb)->w'.heap[y]? = w.heap[y]?:=fun y hy=>g8 y (hnl y hy).1 fun e=>by
     subst e;simp only[V0]at hy;rcases hy with h|h|h
     ·exact hn1 h
     ·exact hn3 h
     ·exact hn2 h
    have hj:=O9 (C.RdRows.mono (fun _ h=>h) hsF _ _ _ (fun y hy=>hs y z0T) hr3) (C.RdRows.mono (fun _ h=>h) hsF _ _ _ (fun y hy=>hs y z0T) hrb);exact O9 (C.RdRows.mono (fun _ h=>h) hsF _ _ _ (fun y hy=>hs y z0T) hra) hj
   ·rw[q0A];refine q1Q.2 ⟨fun h=>?_,hnn⟩;rcases g3 with rfl|g3
    ·simp only[V0]at h;rcases h with h|h|h
     ·exact hn1 h
     ·exact hn3 h
     ·exact hn2 h
    ·have:=(hnl _ h).1;omega
   ·intro y hy;rw[q0A]at hy;rcases q0B.1 hy with rfl|hy
    ·rcases g3 with rfl|g3
     ·exact⟨hbF,.inl z0E,hb'⟩
     ·exact⟨fun h=>by have:=hF _ h;omega,.inr g3,hb'⟩
    ·have h2:=hnl y hy;refine⟨h2.2,.inl ?_,z0D⟩;simp only[V0]at hy;simp only[V0,q0B];rcases hy with h|h|h<;>simp[h]
   ·intro y hy hn;exact g8 y hy fun e=>hn (by simp[e])
  obtain⟨c0,e0,hh0,hsz0⟩:=hob;by_cases hroom:l.length+1<=cap
  ·refine(R.shift b o l.length cap k vb vo c3 V vx w hkl hroom h13 hne hV hvx hca hca3 ⟨c0,e0,hh0,hsz0⟩ (by
    obtain⟨c5,e5,h5,h6⟩:=hob3;have h7:1*d.length<=c3*d.length:=q1S _ (by simpa using h32);exact⟨c5,e5,h5,z0D⟩) hV1 hx1).mono ?_
   rintro x' w' ⟨rfl,u,⟨hu,o1,o2,o3⟩,rfl⟩;have hcm:(l.length+1)*d.length<=cap*d.length:=q1S _ hroom;have hcm1:(l.length+1)*d.length=l.length*d.length+d.length:=q4W _ _;have hh1:u.heap[b]? = some (.cells c0 e0 (0,0)):=by rw[hu];exact hh0
   obtain⟨pre,post,hc,hpre⟩:=A3o hca hh0 z0D;have q1:=A0l b (V.drop (k*d.length)) (o+(k+1)*d.length) u c0 hh1 z0D;have q2:=A0l b vx (o+k*d.length) _ _ q1 z1I;obtain⟨s1,s2,s3,s4,s5⟩:=Z8 b (V.drop (k*d.length)) (o+(k+1)*d.length) u;obtain⟨p1,p2,p3,p4,p5⟩:=Z8 b vx (o+k*d.length) (u.setCells b (o+(k+1)*d.length) (V.drop (k*d.length)));refine fin b o cap _ _ e0 pre (c0.toList.drop (o+(k+1)*d.length+(V.drop (k*d.length)).length)) hroom h13 (.inl rfl) q2 ?_ hpre ?_ (fun y hy hyb=>by rw[p1 y hyb,s1 y hyb,hu]) (by rw[p2,s2,hu];exact q0F _) ⟨p3.trans (s3.trans o1),p4.trans (s4.trans o2),p5.trans (s5.trans o3)⟩
   ·have t1:(c0.toList.take (o+(k+1)*d.length)++(V.drop (k*d.length)++c0.toList.drop (o+(k+1)*d.length+(V.drop (k*d.length)).length))).take (o+k*d.length)=pre++V.take (k*d.length):=by
     rw[q4U z0X,List.take_take,Nat.min_eq_left z0D,hc,List.take_append,hpre,show o+k*d.length-o=k*d.length by omega,q1A (by omega:pre.length<=o+k*d.length),q4U z0D]
    have t2:(c0.toList.take (o+(k+1)*d.length)++(V.drop (k*d.length)++c0.toList.drop (o+(k+1)*d.length+(V.drop (k*d.length)).length))).drop (o+k*d.length+vx.length)=V.drop (k*d.length)++c0.toList.drop (o+(k+1)*d.length+(V.drop (k*d.length)).length):=by
     have:(c0.toList.take (o+(k+1)*d.length)).length=o+k*d.length+vx.length:=by simp;omega
     rw[<-this,q4G]
    show(c0.toList.take (o+(k+1)*d.length)++(V.drop (k*d.length)++c0.toList.drop (o+(k+1)*d.length+(V.drop (k*d.length)).length))).take (o+k*d.length)++(vx++(c0.toList.take (o+(k+1)*d.length)++(V.drop (k*d.length)++c0.toList.drop (o+(k+1)*d.length+(V.drop (k*d.length)).length))).drop (o+k*d.length+vx.length))=_;rw[t1,t2];simp only[q0X]
   ·simp only[z0A];omega
  ·refine(R.grow b o l.length cap k vb vo c3 V vx w hkl h12 z0D hsm hvb hb hV hvx hca hca3 hV1 hx1).mono ?_;rintro x' w' ⟨rfl,u,⟨hu,o1,o2,o3⟩,rfl⟩;have hge:=grownCap_ge w (l.length+1) cap e;have hle:=grownCap_le_maxLen w (l.length+1) cap e (by simp[maxLen];omega);generalize grownCap w (l.length+1) cap e=gc at hge hle hu o1 o2 o3 ⊢;have hcm:(l.length+1)*d.length<=gc*d.length:=q1S _ hge;have hcm1:(l.length+1)*d.length=l.length*d.length+d.length:=q4W _ _;have hz2:(gc-(l.length+1))*d.length=gc*d.length-(l.length+1)*d.length:=q5X _ _ _;have hz1:(l.length+1-k)*d.length=(l.length+1)*d.length-k*d.length:=q5X _ _ _;generalize hROW:(V.take (k*d.length)).toArray++Builtin.zeroCells z.cells (l.length+1-k)++Builtin.zeroCells z.cells (gc-(l.length+1))=ROW at hu o1 o2 o3;have hRs:ROW.size=gc*d.length:=by
    rw[<-hROW];simp only[q3P,q0J,hd1,size_zeroCells,hzl,hsz];omega
   have hRt:ROW.toList.take (k*d.length)=V.take (k*d.length):=by
    rw[<-hROW];simp only[Array.toList_append,q0X];have:=q4P (l₁:=V.take (k*d.length)) (l₂:=(Builtin.zeroCells z.cells (l.length+1-k)).toList++(Builtin.zeroCells z.cells (gc-(l.length+1))).toList);rw[hd1]at this;exact this
   have hh1:u.heap[w.heap.size]? = some (.cells ROW e (0,0)):=by rw[hu];exact heap_alloc_new w _
   have q1:=A0l w.heap.size vx (k*d.length) _ _ hh1 z0D;have q2:=A0l w.heap.size (V.drop (k*d.length)) ((k+1)*d.length) _ _ q1 z1I;obtain⟨s1,s2,s3,s4,s5⟩:=Z8 w.heap.size vx (k*d.length) u;obtain⟨p1,p2,p3,p4,p5⟩:=Z8 w.heap.size (V.drop (k*d.length)) ((k+1)*d.length) (u.setCells w.heap.size (k*d.length) vx);have hws:(w.alloc (.cells ROW e)).heap.size=w.heap.size+1:=by show(w.heap.push _).size=_;rw[q5C]
   refine fin w.heap.size 0 gc _ _ e [] (ROW.toList.drop ((k+1)*d.length+(V.drop (k*d.length)).length)) hge hle (.inr (q0F _)) q2 ?_ rfl ?_ (fun y hy hyb=>by rw[p1 y z0D,s1 y z0D,hu];exact E4 hy) (by rw[p2,s2,hu,hws];exact q4V _) ⟨p3.trans (s3.trans o1),⟨(p4.trans (s4.trans o2)).eq,(p4.trans (s4.trans o2)).le⟩,p5.trans (s5.trans o3)⟩
   ·have t0:(ROW.toList.take (k*d.length)++(vx++ROW.toList.drop (k*d.length+vx.length))).length=gc*d.length:=by
     simp only[V6,V1,q2A,q1Z];omega
    have t1:(ROW.toList.take (k*d.length)++(vx++ROW.toList.drop (k*d.length+vx.length))).take ((k+1)*d.length)=V.take (k*d.length)++vx:=by
     have e1:(V.take (k*d.length)++vx).length=(k+1)*d.length:=by rw[V6,hd1,hvx,hkm1]
     rw[hRt,<-q0X,<-e1,q4P]
    have t2:(ROW.toList.take (k*d.length)++(vx++ROW.toList.drop (k*d.length+vx.length))).drop ((k+1)*d.length+(V.drop (k*d.length)).length)=ROW.toList.drop ((k+1)*d.length+(V.drop (k*d.length)).length):=by
     have e1:(ROW.toList.take (k*d.length)++vx).length=(k+1)*d.length:=by rw[hRt,V6,hd1,hvx,hkm1]
     rw[<-q0X,<-e1,<-q2S,q4G,q2S,e1,hvx,hkm1]
    show(ROW.toList.take (k*d.length)++(vx++ROW.toList.drop (k*d.length+vx.length))).take ((k+1)*d.length)++(V.drop (k*d.length)++(ROW.toList.take (k*d.length)++(vx++ROW.toList.drop (k*d.length+vx.length))).drop ((k+1)*d.length+(V.drop (k*d.length)).length))=_;rw[t1,t2];simp only[q0X,q1J]
   ·simp only[z0A];omega
def a6Q(w:World){P:Program}{ops:Array Oper}{rest:List Oper}{o:Oper}{a:Act}{Q:Exit->Act->World->Prop}(hgd:o.guard=none)(d s:Operand)(t t':TypeId)
  (ho:o.op=.call { callee:=.builtin .copy,args:=#[d,s],argTypes:=#[t,t'] }) (v u:Value) (hd:a.eval d=v) (hs:a.eval s=u) {v':Value} {w':World}
  (hr:(Builtin.copy_ #[t,t'] o.type #[v,u]).run P w=.ok v' w') (h:wpList P ops Q rest (a.put o.dst v') w'):wpList P ops Q (o::rest) a w:=
 wpList_plain hgd fun _ hK=>by
  unfold Oper.wp execOp;simp only[ho,resolve,invoke,builtin,Sem.run_bind,Sem.run_pure,q0V,q6C,q0D,q1D,hd,hs,hr];exact hK _ _ h
def a7p(w:World){P:Program}{ops:Array Oper}{rest:List Oper}{o:Oper}{a:Act}{Q:Exit->Act->World->Prop}(hgd:o.guard=none)(d s:Operand)(t t':TypeId)
  (ho:o.op=.call { callee:=.builtin .append,args:=#[d,s],argTypes:=#[t,t'] }) (v u:Value) (hd:a.eval d=v) (hs:a.eval s=u) {v':Value} {w':World}
  (hr:(Builtin.append_ #[t,t'] o.type #[v,u]).run P w=.ok v' w') (h:wpList P ops Q rest (a.put o.dst v') w'):wpList P ops Q (o::rest) a w:=
 wpList_plain hgd fun _ hK=>by
  unfold Oper.wp execOp;simp only[ho,resolve,invoke,builtin,Sem.run_bind,Sem.run_pure,q0V,q6C,q0D,q1D,hd,hs,hr];exact hK _ _ h
def a7o{P:Program}{ops:Array Oper}{o:Oper}{a:Act}{w:World}{K:Act->World->Prop}{Q:Exit->Act->World->Prop}{E:Prop}
  (hg:o.guard=none) (d x:Operand) (dT sT:TypeId) (hop:o.op=Op.call { callee:=Callee.builtin Builtin.copy,args:=#[d,x],argTypes:=#[dT,sT] })
  (v u:Value) (hd:a.eval d=v) (hx:a.eval x=u) {v':Value} {w':World} (hr:(Builtin.copy_ #[dT,sT] o.type #[v,u]).run P w=.ok v' w') (hK:K (a.put o.dst v') w'):
  if Region.wanted o (yielded ops a.tmps)=true then Oper.wp P o a w K Q else E:=by
 have hw:Region.wanted o (yielded ops a.tmps)=true:=by simp[Region.wanted,hg]
 rw[if_pos hw];unfold Oper.wp;simp[execOp,hop,resolve,invoke,builtin,hd,hx,hr,Result.andThen];exact hK
def idrew(b:Nat):∀(vs:List Value) (o:Nat) (w:World),(w.setCells b o vs).drew=w.drew.setCells b o vs
 | [],_,_=>rfl
 | v::r,o,w=>by rw[World.setCells,World.setCells,idrew b r];rfl
end Go.Aw
