/- Sorting rows whose comparing function reads what lies behind them: a contract out of the shelf. No condition. -/
import Derived.Test.YtkophkhamikaoaaGreatlBx10kb
import Derived.Test.YtkophkhamikaoaaGreatlMx1kb
namespace Go.Aw
open Go.Proofs Go.Shelf Go.Sort Go.Lib
set_option linter.all false
variable{P:Program}{ρ:Ren}
def b6L{α:Type}{lt:α->α->Bool}(o:STO lt):∀{l r:List α},l.Perm r->(l.Pairwise fun a b=>lt b a=false)->(r.Pairwise fun a b=>lt b a=false)->l=r
 | [],r,h,_,_=>h.nil_eq
 | x::a,[],h,_,_=>h.eq_nil
 | x::a,y::b,h,h1,h2=>by
   have hx:x=y:=by
    have m1:y∈x::a:=h.mem_iff.2 q2L;have m2:x∈y::b:=h.mem_iff.1 q2L;rcases q0B.1 m1 with e|m1
    ·exact e.symm
    ·rcases q0B.1 m2 with e|m2
     ·exact e
     ·exact o.tri _ _ ((q3J.1 h2).1 x m2) ((q3J.1 h1).1 y m1)
   subst hx;rw[b6L o ((List.perm_cons x).1 h) (q3J.1 h1).2 (q3J.1 h2).2]
def a7x{W w':World}(hT:Tp W w')(hos:w'.os=W.os)(hout:w'.output=W.output)(hsz:W.heap.size<=w'.heap.size)(hfr:∀b,b<W.heap.size->w'.heap[b]? = W.heap[b]?):∃q os',w'=grow (W.drewN q) os':=by
 refine⟨w'.drawn-W.drawn,w'.heap.extract W.heap.size w'.heap.size, ?_⟩;have hh:w'.heap=W.heap++w'.heap.extract W.heap.size w'.heap.size:=by
  apply Array.ext_getElem?;intro i;rw[Array.getElem?_append];split
  ·rename_i h;exact hfr i h
  ·rename_i h;rw[Array.getElem?_extract];simp only[Nat.min_self];split
   ·congr 1;omega
   ·rw[q2N z0D]
 have hd:=hT.le;have ht:=hT.eq;obtain⟨h1,h2,h3,h4,h5⟩:=w';obtain⟨g1,g2,g3,g4,g5⟩:=W;simp only[grow,World.drewN]at*;subst ht hos hout;rw[<-hh]
 congr 1
 omega
structure Lain{α:Type}(F:Nat->Prop)(w:World)(cf:α->List C)(k:Nat)(dom:α->Prop)(FP:List Nat) where
 x:α
 vs:List Value
 fp:List Nat
 hd:dom x
 rd:C.RdVals F w (cf x) vs fp
 len:vs.length=k
 sub:∀b∈fp,b∈FP
section
variable{α:Type}{F:Nat->Prop}{w:World}{cf:α->List C}{k:Nat}{dom:α->Prop}{FP:List Nat}
def b9g(hk:∀x,(cf x).length=k):∀{l:List α} {vs:List Value} {fp:List Nat},(∀x∈l,dom x)->(∀b∈fp,b∈FP)->C.RdRows F w (l.map cf) vs fp->∃l':List (Lain F w cf k dom FP),l'.map (·.x)=l/\vs=l'.flatMap (·.vs)/\fp=l'.flatMap (·.fp)
 | [],vs,fp,_,_,h=>by
   unfold List.map C.RdRows at h;exact⟨[],rfl,h.1,h.2⟩
 | x::l,vs,fp,hd,hs,h=>by
   rw[q0D]at h;unfold C.RdRows at h;obtain⟨v1,v2,f1,f2,rfl,rfl,h1,h2⟩:=h;obtain⟨l',q1,q2,q3⟩:=b9g hk (fun y hy=>hd y z0T) (fun b hb=>hs b z08) h2;refine⟨⟨x,v1,f1,hd x z0E,h1,(RdVals.length h1).trans (hk x),fun b hb=>hs b z08⟩::l',by simp[q1],by simp[q2],by simp[q3]⟩
def b5Y{w':World}(hs:Q2 w w' F)(hs2:Q2 w w' (·∈FP)):∀(l:List (Lain F w cf k dom FP)),C.RdRows F w' ((l.map (·.x)).map cf) (l.flatMap (·.vs)) (l.flatMap (·.fp))
 | []=>by unfold List.map List.map C.RdRows;exact⟨rfl,rfl⟩
 | p::l=>by
   rw[q0D,q0D,q2G,q2G];unfold C.RdRows;exact⟨p.vs,_,p.fp,_,rfl,rfl,C.RdVals.mono (fun _ h=>h) hs _ _ _ (fun b hb=>hs2 b (p.sub b hb)) p.rd,b5Y hs hs2 l⟩
def d6m(l:List (Lain F w cf k dom FP)):∀b∈l.flatMap (·.fp),b∈FP:=fun b hb=>by
 obtain⟨p,_,h⟩:=q2K.1 hb;exact p.sub b h
def a9S{w':World}(hs:Q2 w w' fun b=>F b\/b∈FP){cb:α->List C}(hf:∀x,C.freeL (cf x)=cb x)(p:Lain F w cf k dom FP):C.RdVals (fun b=>F b\/b∈FP) w' (cb p.x) p.vs []:=by
 rw[<-hf];exact C.RdVals.free (fun _ h=>h) _ _ p.fp (fun b hb=>.inr (p.sub b hb)) (C.RdVals.mono (fun _ h=>.inl h) (fun b hb=>hs b (.inl hb)) _ _ _ (fun b hb=>hs b (.inr (p.sub b hb))) p.rd)
end
def c6o{α:Type}(L:SlLaysF0.n6 P ρ)(hc:F9 P (ρ.f 6)=true){k:Nat}(aE:∀w,(isAgg (ρ.t 24)).run P w=.ok true w)(zE:∀w,(Go.sizeOf (ρ.t 24)).run P w=.ok k w){cf cb:α->List C}{z:List C}(hz:z.length=k)(hfr:∀x,C.freeL (cf x)=cb x)(hk:∀x,(cf x).length=k)
  {dom:α->Prop} (cmp:α->α->Int) {lt:α->α->Bool} (o:STO lt) (hlt:∀x y,dom x->dom y->decide (cmp x y<0)=lt x y) {g:FuncId} (eg:∀args w,(callFunc g args).run P w=.ok (.enter g args) w)
  (hsp:∀x y,dom x->dom y->A0e P g [(true,cb x),(true,cb y)] [] (.one (false,[.i .i64 (cmp x y)])))
  (l:List α) (hdom:∀x∈l,dom x) (hl:l.length<4611686018427387904):A0e P (ρ.f 6) [(false,[.sl true z (l.map cf)]),(false,[.f g []])] [(0,(false,[.sl true z ((a1a lt l).map cf)]))] (.tup []):=by
 unfold A0e;refine⟨hc, ?_⟩;intro F w vs fpa h hnd hnf hF;unfold VsRd at h;obtain⟨v,r,f1,f2,rfl,rfl,h,hr⟩:=h;unfold VsRd at hr;obtain⟨vf,r2,f3,f4,rfl,rfl,hf,hr⟩:=hr;unfold VsRd at hr;obtain⟨rfl,rfl⟩:=hr;simp only[VRd]at h hf;obtain⟨c,hc1,h⟩:=h;simp only[K8]at hc1;subst hc1;obtain⟨c,hc1,hf⟩:=hf;simp only[K8]at hc1;subst hc1;unfold C.Rd at h hf;obtain⟨lb,rfl,hlb⟩:=hf;unfold C.RdVals at hlb;obtain⟨rfl,rfl⟩:=hlb;obtain⟨a,cap,rfl,hb1,hb2,hb3,hb4⟩:=h;simp only[W8]at hb4;rw[q0A,q0A]at hnd hnf ⊢;rcases hb4 with⟨hcap,rfl⟩|⟨b,of,vs,fp',rfl,rfl,hob,hca,hrr⟩
 ·have hl0:l=[]:=q0L.1 z2E;subst hl0;refine(AnyF.slices_SortFunc_none L a cap _ w).mono ?_;rintro e w' ⟨rfl,rfl⟩;refine⟨F,_,[],[],rfl,⟨[],rfl,z0P⟩,⟨[],[],rfl, ?_,rfl⟩,⟨fun _ h=>h,fun _ h=>.inl h,hF,q0Z,z0E,fun _ _ _=>rfl,q0F _,rfl,Tp.of rfl rfl,rfl⟩⟩;simp only[VRd];refine⟨_,rfl, ?_⟩;unfold C.Rd;have:a1a lt ([]:List α)=[]:=q0L.1 (a1q lt []).length_eq;rw[this];exact⟨a,cap,rfl,hb1,hb2,z0E,.inl ⟨hcap,rfl⟩⟩
 ·obtain⟨l',q1,rfl,q3⟩:=b9g (F:=F) (w:=w) (dom:=dom) (FP:=fp') hk hdom (fun _ h=>h) hrr;obtain⟨cc,e0,hbl,hsz⟩:=hob;have hbf:¬b∈fp':=(q1Q.1 hnd).1;have hfpn:fp'.Nodup:=(q1Q.1 hnd).2;have hfpF:∀x∈fp',¬F x/\x<w.heap.size:=fun x hx=>hnf x (by simp[hx])
  have hbs:b<w.heap.size:=(hnf b z0E).2;have hbF:¬F b:=(hnf b z0E).1;have hll:l'.length=l.length:=by rw[<-q1,q0C]
  by_cases hl0:l'=[]
  ·subst hl0;obtain rfl:l=[]:=by simpa using q1.symm
   obtain rfl:fp'=[]:=by simpa using q3
   have hs:a1a lt ([]:List α)=[]:=q0L.1 (a1q lt []).length_eq;refine(AnyF.slices_SortFunc_none L (some ⟨b,of,none⟩) cap _ w).mono ?_;rintro e w' ⟨rfl,rfl⟩;refine⟨F,_,[],[b],rfl,⟨[],rfl,z0P⟩,⟨[b],[],rfl, ?_,rfl⟩,⟨fun _ h=>h,fun _ h=>.inl h,hF,z0E, ?_,fun _ _ _=>rfl,q0F _,rfl,Tp.of rfl rfl,rfl⟩⟩
   ·simp only[VRd];refine⟨_,rfl, ?_⟩;unfold C.Rd;rw[hs];exact⟨some ⟨b,of,none⟩,cap,rfl,hb1,hb2,z0E,.inr ⟨b,of,[],[],rfl,rfl,⟨cc,e0,hbl,hsz⟩,fun j hj=>z2H,z1J⟩⟩
   ·intro x hx;simp only[q1J,q0E]at hx;subst hx;exact⟨hbF,.inl z0E,hbs⟩
  ·obtain⟨p0,hp0⟩:=q4A _ hl0
   letI:Inhabited (Lain F w cf k dom fp'):=⟨p0⟩
   generalize henc:(fun p:Lain F w cf k dom fp'=>p.vs)=enc at*;have hev:∀p,enc p=p.vs:=fun p=>by rw[<-henc]
   have hkE:∀p,(enc p).length=k:=fun p=>by rw[hev];exact p.len
   have h1E:∀p,∀v∈enc p,v.oneCell'=true:=fun p v hv=>by rw[hev]at hv;exact X6 p.rd v hv
   generalize hcm:(fun p q:Lain F w cf k dom fp'=>cmp p.x q.x)=cm;have hcv:∀p q,cm p q=cmp p.x q.x:=fun p q=>by rw[<-hcm]
   have hle:∀p q,ltOf cm p q=lt p.x q.x:=fun p q=>by
    show decide (cm p q<0)=_;rw[hcv];exact hlt p.x q.x p.hd q.hd
   have hO:SWO (ltOf cm):=by
    refine⟨fun p=>by rw[hle];exact o.irr _,fun p q r h1 h2=>by rw[hle]at*;exact o.tr _ _ _ h1 h2,fun p q r h1 h2=>?_⟩;rw[hle]at*;cases h:lt p.x r.x with
    | false=>rfl
    | true=>
      cases h3:lt q.x p.x with
      | true=>rw[o.tr _ _ _ h3 h]at h2;exact h2
      | false=>rw[o.tri _ _ h1 h3,h2]at h;exact h.symm
   have hH0:Holds id w b of (l'.flatMap enc).toArray:=by
    intro j hj;rw[q0J]at hj;refine⟨?_, ?_⟩
    ·have:=hca j hj;rw[this,getElem!_pos (l'.flatMap enc).toArray j z2I];simp
    ·simp[World.frozen?,hbl]
   have hH:HoldsK enc k w b of l'.toArray:=by unfold HoldsK;rw[a2n enc k hkE];exact hH0
   have hlenE:∀l:List (Lain F w cf k dom fp'),(l.flatMap enc).length=l.length*k:=by
    intro l
    induction l with
    | nil=>simp
    | cons x l ih=>simp only[q2G,V6,hkE,ih,V9,q2C];omega
   have hcmp:CmpLays P g #[] enc k cm b of l'.toArray.size w:=by
    intro m os dk hdk x y;have hG:∀b',F b'\/b'∈fp'->b'<w.heap.size/\b'≠b:=fun b' hb'=>hb'.elim (fun h=>⟨hF b' h,fun e=>hbF (e▸h)⟩) (fun h=>⟨(hfpF b' h).2,fun e=>hbf (e▸h)⟩)
    have hW:Q2 w (sortWorldK enc k w b of m dk os) fun b'=>F b'\/b'∈fp':=fun b' hb'=>by
     unfold sortWorldK putRowK;have hs1:(putRow id (Sort.ahead w m) b of (flatK enc k dk)).heap.size=w.heap.size:=by simp[Sort.ahead]
     rw[a1B z18,a6m id (hG b' hb').2];rfl
    have hFW:∀b',F b'\/b'∈fp'->b'<(sortWorldK enc k w b of m dk os).heap.size:=fun b' hb'=>q1O (hG b' hb').1 (size_sortWorldK_c enc k w b of m dk os)
    generalize sortWorldK enc k w b of m dk os=W at hW hFW ⊢;have hc1:=(hsp x.x y.x x.hd y.hd).2 (fun b'=>F b'\/b'∈fp') W [.agg (enc x).toArray,.agg (enc y).toArray] [] (by
     rw[hev,hev];unfold VsRd;refine⟨_,_,[],[],rfl,rfl,⟨x.vs,rfl,a9S hW hfr x⟩, ?_⟩;unfold VsRd;refine⟨_,_,[],[],rfl,rfl,⟨y.vs,rfl,a9S hW hfr y⟩, ?_⟩;unfold VsRd;exact⟨rfl,rfl⟩) q0Z z0E hFW
    have hc2:Calls P g (#[.agg (enc x).toArray,.agg (enc y).toArray]++#[]) W fun e w'=>e=.returned (.int .i64 (cm x y))/\∃q os',w'=grow (W.drewN q) os':=by
     rw[show(#[Value.agg (enc x).toArray,Value.agg (enc y).toArray]++#[]:Array Value)=[Value.agg (enc x).toArray,Value.agg (enc y).toArray].toArray by simp];refine hc1.mono ?_;rintro e w' ⟨F',v,fp,fo,rfl,hr,ho,hpost⟩;simp only[RRd,VRd]at hr;obtain⟨c0,hc0,hr⟩:=hr;simp only[K8]at hc0;subst hc0;unfold C.Rd at hr;obtain⟨rfl,_,rfl⟩:=hr;refine⟨by rw[hcv],a7x hpost.tape hpost.os hpost.out hpost.sz fun b hb=>hpost.fr b hb z0E⟩
    exact hc2
   have hp:=pdq_sorts (ltOf cm) hO l'.toArray 0 l'.length (Lib.bitLen l'.length) true true (q2D _) z0E (Or.inl rfl);have hrun:=AnyQ.slices_SortFunc_eq L k aE zE enc hkE h1E cm hO g #[] b of cap l'.toArray w eg hcmp hH hbs (by simpa[hll]using hl);rw[q0J]at hrun;generalize hD:pdq (ltOf cm) l'.toArray 0 l'.length (Lib.bitLen l'.length) true true=D at hp hrun;have hDs:D.size=l'.length:=by have:=hp.1.1;simpa using this
   have hperm:D.toList.Perm l':=by
    have:=hp.1.2.2;simp only[Array.toList_extract]at this;have e1:(D.toList.extract 0 l'.length)=D.toList:=by simp only[List.extract,q6G,q0O,<-hDs];exact q1A (by simp)
    have e2:(l'.toArray.toList.extract 0 l'.length)=l':=by simp[List.extract]
    rw[e1,e2]at this;exact this
   have hpl:(D.toList.map (·.x)).Perm l:=by rw[<-q1];exact hperm.map _
   have hsorted:(D.toList.map (·.x)).Pairwise fun a b=>lt b a=false:=by
    rw[q4H,q2X];intro i j hi hj hij;have hi':i<D.size:=by simpa using hi
    have hj':j<D.size:=by simpa using hj
    have:=hp.2 i j (q2D _) hij (by rw[<-hDs];exact hj');rw[hle,getElem!_pos D i hi',getElem!_pos D j hj']at this;simpa using this
   have hDl:D.toList.map (·.x)=a1a lt l:=b6L o (hpl.trans (a1q lt l).symm) hsorted (a7w o l);rw[show(List.map cf l).length=l'.length by rw[q0C,hll]];refine hrun.mono ?_;rintro e w' ⟨rfl,n,os,rfl⟩;have hW:sortWorldK enc k w b of n D os=grow (putRow id (Sort.ahead w n) b of (D.toList.flatMap enc).toArray) os:=by
    unfold sortWorldK putRowK;rw[show D=D.toList.toArray by simp,a2n enc k hkE]
   rw[hW];generalize hE:(D.toList.flatMap enc).toArray=E;have hEs:E.size=(l'.flatMap enc).length:=by rw[<-hE];simp[hlenE,hDs]
   have hb1':(putRow id (Sort.ahead w n) b of E).heap[b]? = some (.cells (putCells id of E cc) e0 (0,0)):=a6W id hbl;have hsz1:(putRow id (Sort.ahead w n) b of E).heap.size=w.heap.size:=by simp[Sort.ahead]
   have hb2':(grow (putRow id (Sort.ahead w n) b of E) os).heap[b]? = some (.cells (putCells id of E cc) e0 (0,0)):=by rw[a1B z0D,hb1']
   have hle2:w.heap.size<=(grow (putRow id (Sort.ahead w n) b of E) os).heap.size:=by
    have:(grow (putRow id (Sort.ahead w n) b of E) os).heap.size=(putRow id (Sort.ahead w n) b of E).heap.size+os.size:=by simp only[grow];exact q3P
    omega
   have hoth:∀b',b'<w.heap.size->b'≠b->(grow (putRow id (Sort.ahead w n) b of E) os).heap[b']? = w.heap[b']?:=fun b' h1 h2=>by
    rw[a1B (by rw[hsz1];exact h1),a6m id h2];rfl
   have hrows:=b5Y (w':=grow (putRow id (Sort.ahead w n) b of E) os) (fun b' hb'=>hoth b' (hF b' hb') fun e=>hbF (e▸hb')) (fun b' hb'=>hoth b' (hfpF b' hb').2 fun e=>hbf (e▸hb')) D.toList;rw[hDl]at hrows;have hfD:∀x∈D.toList.flatMap (·.fp),x∈fp':=d6m D.toList;have hnD:(D.toList.flatMap (·.fp)).Nodup:=(hperm.flatMap_right (·.fp)).nodup_iff.2 (q3▸hfpn);refine⟨F,_,[],b::D.toList.flatMap (·.fp),rfl,⟨[],rfl,z0P⟩,⟨b::D.toList.flatMap (·.fp),[],z0E, ?_,rfl⟩,⟨fun _ h=>h,fun _ h=>.inl h,fun x hx=>q1O (hF x hx) hle2, ?_, ?_, ?_,hle2,rfl,⟨rfl,q3U _ _⟩,rfl⟩⟩
   ·simp only[VRd];refine⟨_,rfl, ?_⟩;unfold C.Rd;refine⟨some ⟨b,of,none⟩,cap,by rw[q0C,(a1q lt l).length_eq,hll];rfl,by rw[q0C,(a1q lt l).length_eq];simpa using hb1,hb2, ?_,.inr ⟨b,of,D.toList.flatMap enc,D.toList.flatMap (·.fp),rfl,rfl, ?_, ?_,by rw[<-henc];exact hrows⟩⟩
    ·intro r hr;obtain⟨x,_,rfl⟩:=q0R.1 hr;rw[hk,hz]
    ·exact⟨_,e0,hb2',z1K⟩
    ·intro j hj;have hj':j<E.size:=by rw[<-hE,q0J];exact hj
     have h0:=cell?_putRow id (Sort.ahead w n) b of (l'.flatMap enc).toArray E hH0 (by rw[hEs];simp) j hj';have e1:(grow (putRow id (Sort.ahead w n) b of E) os).cell? ⟨b,of+j,none⟩=(putRow id (Sort.ahead w n) b of E).cell? ⟨b,of+j,none⟩:=World.cell?_of_block (by rw[hb2',hb1']);rw[e1,h0,getElem!_pos E j hj'];simp[<-hE]
   ·rw[q1J];exact q1Q.2 ⟨fun h=>hbf (hfD _ h),hnD⟩
   ·intro x hx;rw[q1J]at hx;rcases q0B.1 hx with rfl|hx
    ·exact⟨hbF,.inl z0E,z0D⟩
    ·exact⟨(hfpF x (hfD x hx)).1,.inl (by simp[hfD x hx]),q1O (hfpF x (hfD x hx)).2 hle2⟩
   ·intro x hx hn;exact hoth x hx fun e=>hn (by simp[e])
end Go.Aw
