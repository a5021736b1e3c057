/- Sorting rows of several cells by a comparing function: a contract out of the shelf. No condition. -/
import Derived.Test.YtkophkhamikaoaaGreatlBx5kb
import Derived.Shelf.SlSortCmp.WholeK
import Derived.Shelf.SlSortCmp.NoneTotal
namespace Go.Aw
open Go.Proofs Go.Shelf Go.Sort Go.Lib
set_option linter.all false
variable{P:Program}{ρ:Ren}
def a2n{α:Type}[Inhabited α](enc:α->List Value)(k:Nat)(hk:∀x,(enc x).length=k)(l:List α):flatK enc k l.toArray=(l.flatMap enc).toArray:=by
 have hlen:∀l:List α,(l.flatMap enc).length=l.length*k:=by
  intro l
  induction l with
  | nil=>simp
  | cons x l ih=>simp only[q2G,V6,hk,ih,V9,q2C];omega
 refine ext_get! z2P fun t ht=>?_
 have ht':t<l.length*k:=by simpa using ht
 rw[get_flatK _ _ _ t (by simpa using ht')];have hk0:0<k:=by
  rcases q5S k with h|h
  ·subst h;simp at ht'
  ·exact h
 have hq:t/k<l.length:=Nat.div_lt_of_lt_mul (by rw[Nat.mul_comm];exact ht');have gen:∀(l:List α) (q r:Nat),q<l.length->r<k->(l.flatMap enc)[q*k+r]? = (enc (l.getD q default))[r]?:=by
  intro l
  induction l with
  | nil=>intro q r hq;simp at hq
  | cons x l ih=>
    intro q r hq hr;cases q with
    | zero=>
      simp only[q2G,Nat.zero_mul,q3O,q1H];exact q5N (by rw[hk];exact hr)
    | succ q=>
      have h2:=ih q r z2B hr;simp only[q2G,q1U];rw[<-h2,q5I (by rw[hk,q2C];omega),hk]
      congr 1
      rw[q2C];omega
 have h3:=gen l (t/k) (t%k) hq (Nat.mod_lt _ hk0);rw[Nat.mul_comm,Nat.div_add_mod]at h3;have e1:(l.flatMap enc).toArray[t]! = ((l.flatMap enc)[t]?).getD default:=by
  simp[getElem!_def];cases(l.flatMap enc)[t]?<;>rfl
 have e2:l.toArray[t/k]! = l.getD (t/k) default:=by simp[W5,hq]
 rw[e1,h3,e2];simp[getElem!_def];cases(enc (l[t/k]?.getD default))[t%k]?<;>rfl
def d9o{α:Type}[Inhabited α](L:SlLaysF0.n6 P ρ)(hc:F9 P (ρ.f 6)=true){k:Nat}(aE:∀w,(isAgg (ρ.t 24)).run P w=.ok true w)(zE:∀w,(Go.sizeOf (ρ.t 24)).run P w=.ok k w){enc:α->List Value}{cf:α->List C}{z:List C}{ok:α->Prop}(hz:z.length=k)(hcl:∀x,(cf x).length=k)(hk:∀x,(enc x).length=k)(h1:∀x,∀v∈enc x,v.oneCell'=true)
  (H1:∀(F:Nat->Prop) (w:World) (l:List α) vs fp,C.RdRows F w (l.map cf) vs fp->vs=l.flatMap enc/\fp=[]/\∀x,x∈l->ok x)
  (H2:∀(F:Nat->Prop) (w:World) (l:List α),(∀x,x∈l->ok x)->C.RdRows F w (l.map cf) (l.flatMap enc) [])
  (cmp:α->α->Int) (hO:SWO (ltOf cmp)) {g:FuncId} (eg:∀args w,(callFunc g args).run P w=.ok (.enter g args) w)
  (hcmp:∀(W:World) (x y:α),Calls P g #[.agg (enc x).toArray,.agg (enc y).toArray] W fun e w'=>e=.returned (.int .i64 (cmp x y))/\∃q os',w'=grow (W.drewN q) os')
  (l:List α) (hl:l.length<4611686018427387904):A0e P (ρ.f 6) [(false,[.sl true z (l.map cf)]),(false,[.f g []])] [(0,(false,[.sl true z ((pdq (ltOf cmp) l.toArray 0 l.length (Lib.bitLen l.length) true true).toList.map cf)]))] (.tup []):=by
 have hp:=pdq_sorts (ltOf cmp) hO l.toArray 0 l.length (Lib.bitLen l.length) true true (q2D _) z0E (Or.inl rfl);generalize hD:pdq (ltOf cmp) l.toArray 0 l.length (Lib.bitLen l.length) true true=D at hp ⊢;have hDs:D.size=l.length:=by have:=hp.1.1;simpa using this
 have hDm:∀x,x∈D.toList->x∈l:=fun x hx=>by
  have:=hp.1.2.2.mem_iff (a:=x);simp only[Array.toList_extract]at this;have e1:(D.toList.extract 0 l.length)=D.toList:=by simp only[List.extract,q6G,q0O,<-hDs];exact q1A (by simp)
  have e2:(l.toArray.toList.extract 0 l.length)=l:=by simp[List.extract]
  rw[e1,e2]at this;exact this.1 hx
 unfold A0e;refine⟨hc, ?_⟩;intro F w vs fpa h hnd hnf hF;unfold VsRd at h;obtain⟨v,r,f1,f2,rfl,rfl,h,hr⟩:=h;unfold VsRd at hr;obtain⟨vf,r2,f3,f4,rfl,rfl,hf,hr⟩:=hr;unfold VsRd at hr;obtain⟨rfl,rfl⟩:=hr;simp only[VRd]at h hf;obtain⟨c,hc1,h⟩:=h;simp only[K8]at hc1;subst hc1;obtain⟨c,hc1,hf⟩:=hf;simp only[K8]at hc1;subst hc1;unfold C.Rd at h hf;obtain⟨lb,rfl,hlb⟩:=hf;unfold C.RdVals at hlb;obtain⟨rfl,rfl⟩:=hlb;obtain⟨a,cap,rfl,hb1,hb2,hb3,hb4⟩:=h;simp only[W8]at hb4;rw[q0A,q0A]at hnd hnf ⊢;rcases hb4 with⟨hcap,rfl⟩|⟨b,o,vs,fp',rfl,rfl,hob,hca,hrr⟩
 ·have hl0:l=[]:=q0L.1 z2E;subst hl0;have hD0:D.toList=[]:=q0L.1 (by simpa using hDs);refine(AnyF.slices_SortFunc_none L a cap _ w).mono ?_;rintro e w' ⟨rfl,rfl⟩;refine⟨F,_,[],[],rfl,⟨[],rfl,z0P⟩,⟨[],[],rfl, ?_,rfl⟩,⟨fun _ h=>h,fun _ h=>.inl h,hF,q0Z,z0E,fun _ _ _=>rfl,q0F _,rfl,Tp.of rfl rfl,rfl⟩⟩;simp only[VRd];refine⟨_,rfl, ?_⟩;unfold C.Rd;rw[hD0];exact⟨a,cap,rfl,hb1,hb2,z0E,.inl ⟨hcap,rfl⟩⟩
 ·obtain⟨rfl,rfl,hok⟩:=H1 _ _ _ _ _ hrr;obtain⟨cc,e0,hbl,hsz⟩:=hob;have hbs:b<w.heap.size:=(hnf b z0E).2;have hH0:Holds id w b o (l.flatMap enc).toArray:=by
   intro j hj;rw[q0J]at hj;refine⟨?_, ?_⟩
   ·have:=hca j hj;rw[this,getElem!_pos (l.flatMap enc).toArray j z2I];simp
   ·simp[World.frozen?,hbl]
  have hH:HoldsK enc k w b o l.toArray:=by unfold HoldsK;rw[a2n enc k hk];exact hH0
  have hlenE:∀l:List α,(l.flatMap enc).length=l.length*k:=by
   intro l
   induction l with
   | nil=>simp
   | cons x l ih=>simp only[q2G,V6,hk,ih,V9,q2C];omega
  have hrun:=AnyQ.slices_SortFunc_eq L k aE zE enc hk h1 cmp hO g #[] b o cap l.toArray w eg (fun m os dk _ x y=>hcmp _ x y) hH hbs (by simpa using hl);simp only[q0J,hD]at hrun;rw[show(List.map cf l).length=l.length by simp];refine hrun.mono ?_;rintro e w' ⟨rfl,n,os,rfl⟩;have hW:sortWorldK enc k w b o n D os=grow (putRow id (Sort.ahead w n) b o (D.toList.flatMap enc).toArray) os:=by
   unfold sortWorldK putRowK;rw[show D=D.toList.toArray by simp,a2n enc k hk]
  rw[hW];generalize hE:(D.toList.flatMap enc).toArray=E;have hEs:E.size=(l.flatMap enc).length:=by rw[<-hE];simp[hlenE,hDs]
  have hb1':(putRow id (Sort.ahead w n) b o E).heap[b]? = some (.cells (putCells id o E cc) e0 (0,0)):=a6W id hbl;have hsz1:(putRow id (Sort.ahead w n) b o E).heap.size=w.heap.size:=by simp[Sort.ahead]
  have hb2':(grow (putRow id (Sort.ahead w n) b o E) os).heap[b]? = some (.cells (putCells id o E cc) e0 (0,0)):=by rw[a1B z0D,hb1']
  have hle:w.heap.size<=(grow (putRow id (Sort.ahead w n) b o E) os).heap.size:=by
   have:(grow (putRow id (Sort.ahead w n) b o E) os).heap.size=(putRow id (Sort.ahead w n) b o E).heap.size+os.size:=by simp only[grow];exact q3P
   omega
  refine⟨F,_,[],[b],rfl,⟨[],rfl,z0P⟩,⟨[b],[],rfl, ?_,rfl⟩,⟨fun _ h=>h,fun _ h=>.inl h,fun x hx=>q1O (hF x hx) hle,z0E, ?_, ?_,hle,rfl,⟨rfl,q3U _ _⟩,rfl⟩⟩
  ·simp only[VRd];refine⟨_,rfl, ?_⟩;unfold C.Rd;refine⟨some ⟨b,o,none⟩,cap,by simp[hDs],by simpa[hDs]using hb1,hb2, ?_,.inr ⟨b,o,D.toList.flatMap enc,[],rfl,rfl, ?_, ?_,H2 _ _ _ fun x hx=>hok x (hDm x hx)⟩⟩
   ·intro r hr;obtain⟨x,_,rfl⟩:=q0R.1 hr;rw[hcl,hz]
   ·exact⟨_,e0,hb2',z1K⟩
   ·intro j hj;have hj':j<E.size:=by rw[<-hE,q0J];exact hj
    have h0:=cell?_putRow id (Sort.ahead w n) b o (l.flatMap enc).toArray E hH0 (by rw[hEs];simp) j hj';have e1:(grow (putRow id (Sort.ahead w n) b o E) os).cell? ⟨b,o+j,none⟩=(putRow id (Sort.ahead w n) b o E).cell? ⟨b,o+j,none⟩:=World.cell?_of_block (by rw[hb2',hb1']);rw[e1,h0,getElem!_pos E j hj'];simp[<-hE]
  ·intro x hx;simp only[q1J,q0E]at hx;subst hx;exact⟨(hnf x z0E).1,.inl z0E,z0D⟩
  ·intro x hx hn;have:x≠b:=fun e=>hn (by simp[e])
   rw[a1B z0D,a6m id this];rfl
end Go.Aw
