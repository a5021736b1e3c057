/- Copies of slices, and striking out by a predicate: contracts out of the shelf. No condition. -/
import Derived.Test.YtkophkhamikaoaaGreatlBx5kb
import Derived.Shelf.SlicesE.Clone
import Derived.Shelf.SlicesE.DeleteFunc
namespace Go.Aw
open Go.Proofs Go.Shelf Go.Sort Go.Lib Go.RowKit
set_option linter.all false
variable{P:Program}{ρ:Ren}
def c9M{w w':World}{v':Value}{t ty e:TypeId}{i:TypeInfo}{z:Value}(ht:P.underlying t=some (.slice e))(hi:P.info? e=some i)(hz:i.zero=some z)(hzl:z.cells.size=i.size){d:List C}(hsz:i.size=d.length){F:Nat->Prop}(hF:∀b,F b->b<w.heap.size){p ad:Addr}{l:List (List C)}{c:Nat}{vs:List Value}
  (hrd:C.RdRows F w l vs []) (hrow:∀r∈l,r.length=d.length) (hl:vs.length=l.length*d.length) (hcells:∀j u,vs[j]? = some u->w.cell? (ad.add j)=some u) (hby:0<i.bytes) (hroom:l.length*i.bytes<=140737488355328)
  (hr:(Builtin.append_ #[t,t] ty #[.slice (some p) 0 0,.slice (some ad) l.length c]).run P w=.ok v' w'):w.drawn<=w'.drawn:=by
 have hb:C.Rd F w (.sl true d []) (.slice (some p) 0 0) []:=by unfold C.Rd;exact⟨some p,0,rfl,z0E,z0E,z0E,.inl ⟨rfl,rfl⟩⟩
 obtain⟨v2,w2,fp',hr2,hT,_⟩:=A4R (ty:=ty) ht hi hz hzl hsz hF hb z0E (Src.ofSlice w ht _ _ c vs (by rw[hsz,hl]) hcells (A1l hrd)) hrd hrow z0E z0E hby (by simpa using hroom);rw[hr2]at hr;cases hr;exact hT.tape.le
def RunsApp(P:Program)(t ty:TypeId)(v x:Value)(w:World)(v':Value)(w':World):Prop:=(Builtin.append_ #[t,t] ty #[v,x]).run P w=.ok v' w'
def b4j(w:World){ops:Array Oper}{rest:List Oper}{o:Oper}{a:Act}{Q:Exit->Act->World->Prop}(hgd:o.guard=none)(s x:Operand)(t:TypeId)
  (ho:o.op=.call { callee:=.builtin .append,args:=#[s,x],argTypes:=#[t,t] })
  (base:Nat) (e:TypeId) (i:TypeInfo) (z:Value) (size bytes:Nat) (ht:P.underlying t=some (.slice e)) (hi:P.info? e=some i) (hz:i.zero=some z)
  (hsize:i.size=size) (hby:i.bytes=bytes) (hzs:z.cells.size=size) (hsz:0<size)
  (v:Value) (n:Nat) (xs:List Value) (hs:a.eval s=v) (hown:w.ownsRow base e size v n xs)
  (ad:Addr) (m c:Nat) (news:List Value) (hx:a.eval x=.slice (some ad) m c) (hl:news.length=m*size) (hnews:∀j u,news[j]? = some u->w.cell? (ad.add j)=some u) (h1:∀u∈news,u.oneCell'=true)
  (h63:n+m<=maxLen) (hbytes:(n+m)*bytes<=140737488355328) (hbase:base<=w.heap.size)
  (h:∀v' w',RunsApp P t o.type v (.slice (some ad) m c) w v' w'->w'.ownsRow base e size v' (n+m) (xs++news)->w.grownBy w' v.ownBlock->wpList P ops Q rest (a.put o.dst v') w'):wpList P ops Q (o::rest) a w:=by
 refine wpList_plain hgd fun K hK=>?_
 obtain⟨v',w',hr,h2,h3,h4⟩:=run_append_own (P:=P) w base t o.type e i z size bytes ht hi hz hsize hby hzs hsz v n xs hown ad m c news hl hnews h1 h63 hbytes hbase;unfold Oper.wp execOp;simp only[ho,resolve,invoke,builtin,Sem.run_bind,Sem.run_pure,q0V,q6C,q0D,q1D,hs,hx,hr];exact hK _ _ (h v' w' hr h2 h3)
set_option maxHeartbeats 2000000 in
set_option maxRecDepth 100000 in
def d8y(L:SlLaysE0.n41 P ρ)(i0:TypeInfo)(z:Value)(size bytes:Nat)(hi:P.info? (ρ.t 23)=some i0)(hz0:i0.zero=some z)(hz1:i0.size=size)(hz2:i0.bytes=bytes)(hzs:z.cells.size=size)(hsz:0<size)(z23:∀w,(Go.sizeOf (ρ.t 23)).run P w=.ok size w)
  (ad:Addr) (n c:Nat) (news:List Value) (w:World) (hl:news.length=n*size) (hn:n<=maxLen) (hbig:n*bytes<=140737488355328)
  (hc:∀j u,news[j]? = some u->w.cell? (ad.add j)=some u) (h1:∀u∈news,u.oneCell'=true) {F:Nat->Prop} {d:List C} {l:List (List C)} (hF:∀b,F b->b<w.heap.size) (hd:d.length=size) (hrd:C.RdRows F w l news []) (hrow:∀r∈l,r.length=d.length) (hln:l.length=n) (hby:0<bytes):
  Calls P (ρ.f 41) #[.slice (some ad) n c] w fun e w'=>∃v',e=.returned v'/\w'.ownsRow w.heap.size (ρ.t 23) size v' n news/\Below w.heap.size w w'/\w.drawn<=w'.drawn:=by
 have mixed:=L.mixed;have t4:=L.t4;have a4:=L.a4;have z4:=L.z4;have v4:=L.v4;have t22:=L.t22;have a22:=L.a22;have z22:=L.z22;have v22:=L.v22;have q22:∀(w:World) (a:Option Addr) (n c n' c':Nat),(binOp .eql (ρ.t 22) (.slice a n c) (.slice none n' c')).run P w=.ok (.bool a.isNone) w:=fun w a n c n' c'=>Lib.run_eql_slice_nil w _ _ a n c n' c' L.t22
 have u22:∀w,Sem.run P (underlying (ρ.t 22)) w=.ok (TypeDesc.slice (ρ.t 23)) w:=run_underlying t22;have A:Aside (∀j u,news[j]? = some u->w.cell? (ad.add j)=some u):=hc;have hA2:Aside ((∀b,F b->b<w.heap.size)/\C.RdRows F w l news []/\(∀r∈l,r.length=d.length)):=⟨hF,hrd,hrow⟩
 clear hc hF hrd hrow;obtain⟨_,_,FG⟩:=L.f41
 go_enter FG,SlBodyN.n41_ntmps ρ
 go_wp2_with (at_builtin;refine b4j _ rfl _ _ (ρ.t 22) rfl w.heap.size (ρ.t 23) i0 z size bytes t22 hi hz0 hz1 hz2 hzs hsz _ _ _ rfl (World.ownsRow_made w #[] 0 (q0F _) (q2D _) z0E) ad n c news rfl ?q1 ?q2 ?q3 ?q4 ?q5 ?q6 ?_)
 case q1=>exact hl
 case q2=>
  intro j u hj;exact Lib.cell?_alloc_some _ (A.out j u hj)
 case q3=>exact h1
 case q4=>rw[q3O];exact hn
 case q5=>rw[q3O];exact hbig
 case q6=>simp
 intro v' w1 hrun hown hgrow;have hdr:w.drawn<=w1.drawn:=by
  obtain⟨B1,B2,B3⟩:=hA2.out;subst hln;have hw:Q2 w (w.alloc (.cells #[] (ρ.t 23))) F:=fun b hb=>E4 (B1 b hb)
  exact show(w.alloc (.cells #[] (ρ.t 23))).drawn<=w1.drawn from c9M t22 hi hz0 (hzs.trans hz1.symm) (hz1.trans hd.symm) (F:=F) (fun b hb=>by have:=B1 b hb;simp;omega) (C.RdRows.mono (fun _ h=>h) hw _ _ _ (fun _ hx=>by cases hx) B2) B3 (by rw[hl,hd]) (fun j u hj=>Lib.cell?_alloc_some _ (A.out j u hj)) (by rw[hz2];exact hby) (by rw[hz2];exact hbig) hrun
 go_wp2
 go_ret
 refine⟨v',rfl,by simpa using hown, ?_,hdr⟩;exact((Below.refl _ w).alloc (q0F _) _).grown hgrow z0E (by intro k hk;simp[Value.ownBlock]at hk;omega)
def d1j{F:Nat->Prop}{w:World}{m:Nat}:∀{l:List (List C)} {vs:List Value} {fp:List Nat},(∀r∈l,r.length=m)->C.RdRows F w l vs fp->vs.length=l.length*m
 | [],vs,fp,hr,h=>by unfold C.RdRows at h;simp[h.1]
 | r::l,vs,fp,hr,h=>by
   unfold C.RdRows at h;obtain⟨v1,v2,f1,f2,rfl,rfl,h1,h2⟩:=h;have e1:=RdVals.length h1;have e2:=d1j (fun r h=>hr r z0Y) h2;rw[V6,e1,e2,hr r z0E,V9,q2C];omega
def a6L(L:SlLaysE0.n41 P ρ)(hcl:F9 P (ρ.f 41)=true){i0:TypeInfo}{z:Value}{bytes:Nat}{d:List C}(hi:P.info? (ρ.t 23)=some i0)(hz0:i0.zero=some z)(hz1:i0.size=d.length)(hz2:i0.bytes=bytes)(hzs:z.cells.size=d.length)(hsz:0<d.length)(z23:∀w,(Go.sizeOf (ρ.t 23)).run P w=.ok d.length w)
  (l:List (List C)) (hbig:l.length*bytes<=140737488355328) (hby:0<bytes:=by decide):A0e P (ρ.f 41) [(false,[.sl false d l])] [] (.one (false,[.sl true d l])):=by
 unfold A0e;refine⟨hcl, ?_⟩;intro F w vs fpa h hnd hnf hF;unfold VsRd at h;obtain⟨v,r,f1,f2,rfl,rfl,h,hr⟩:=h;unfold VsRd at hr;obtain⟨rfl,rfl⟩:=hr;simp only[VRd]at h;obtain⟨c,hc1,h⟩:=h;simp only[K8]at hc1;subst hc1;unfold C.Rd at h;obtain⟨a,cap,rfl,h1,h2,h3,h4⟩:=h;simp only[V2]at h4;obtain⟨rfl,h4⟩:=h4;have hml:l.length<=maxLen:=q3B h1 h2;have fin:∀(ad:Addr) (vs:List Value),a=some ad->vs.length=l.length*d.length->(∀j u,vs[j]? = some u->w.cell? (ad.add j)=some u)->C.RdRows F w l vs []->Calls P (ρ.f 41) #[.slice a l.length cap] w fun e w'=>∃F' v fp fo,e=.returned v/\RRd F' w' (.one (false,[.sl true d l])) v fp/\OutRd F' w' [.slice a l.length cap] [] fo/\Post F F' [] (fp++fo) w w':=by
  rintro ad vs rfl hl hcells hrd;refine(d8y L i0 z d.length bytes hi hz0 hz1 hz2 hzs hsz z23 ad l.length cap vs w hl hml hbig hcells (A1l hrd) hF rfl hrd h3 rfl hby).mono ?_;rintro e w' ⟨v',rfl,⟨ho1,ho2⟩,hb,hdr⟩;have hrd':C.RdRows F w' l vs []:=C.RdRows.mono (fun _ h=>h) (fun b hb'=>hb.block b (hF b hb')) l vs [] (fun _ hx=>by cases hx) hrd;rcases ho2 with⟨rfl,hn0⟩|⟨g,cap',cur,rfl,hg,hcur,hnc,hcm,hcs,htk⟩
  ·have hl0:l=[]:=q0L.1 hn0;subst hl0;refine⟨F,_,[],[],rfl, ?_,rfl,⟨fun _ h=>h,fun _ h=>.inl h,fun x hx=>q1O (hF x hx) hb.size,q0Z,z0E,fun b hb' _=>hb.block b hb',hb.size,hb.os,⟨hb.tape,hdr⟩,hb.output⟩⟩;simp only[RRd,VRd];refine⟨_,rfl, ?_⟩;unfold C.Rd;exact⟨none,0,rfl,q0F _,q2D _,z0E,.inl ⟨rfl,rfl⟩⟩
  ·refine⟨F,_,[g],[],rfl, ?_,rfl,⟨fun _ h=>h,fun _ h=>.inl h,fun x hx=>q1O (hF x hx) hb.size,z0E, ?_,fun b hb' _=>hb.block b hb',hb.size,hb.os,⟨hb.tape,hdr⟩,hb.output⟩⟩
   ·simp only[RRd,VRd];refine⟨_,rfl, ?_⟩;unfold C.Rd;refine⟨some ⟨g,0,none⟩,cap',rfl,hnc,hcm,h3,.inr ⟨g,0,vs,[],rfl,rfl,⟨cur,_,hcur,z0D⟩, ?_,hrd'⟩⟩;intro j hj;have e:vs[j]=cur[j]'(by rw[hcs];have:l.length*d.length<=cap'*d.length:=q1S _ hnc;omega):=by
     have:cur.toList.take (l.length*d.length)=vs:=htk;subst this;simp
    simp only[World.cell?,hcur,q3O,e];simp
   ·intro x hx;simp only[q0A,q0E]at hx;subst hx;have:x<w'.heap.size:=by
     rcases q3I x w'.heap.size with h|h
     ·exact h
     ·rw[q2N z0D]at hcur;cases hcur
    exact⟨fun h=>absurd (hF x h) z0D,.inr hg,this⟩
 rcases h4 with rfl|⟨b,o,vs,rfl,hFb,hca,hrr⟩
 ·cases a with
  | none=>
    refine(AnyE.slices_Clone_nil L 0 cap w).mono ?_;rintro e w' ⟨rfl,rfl⟩;refine⟨F,_,[],[],rfl, ?_,rfl,⟨fun _ h=>h,fun _ h=>.inl h,hF,q0Z,z0E,fun _ _ _=>rfl,q0F _,rfl,Tp.of rfl rfl,rfl⟩⟩;simp only[RRd,VRd];refine⟨_,rfl, ?_⟩;unfold C.Rd;exact⟨none,0,rfl,q0F _,q2D _,z0E,.inl ⟨rfl,rfl⟩⟩
  | some ad=>exact fin ad [] rfl z0E z0E (by unfold C.RdRows;exact⟨rfl,rfl⟩)
 ·refine fin ⟨b,o,none⟩ vs rfl (d1j h3 hrr) ?_ hrr;intro j u hj;obtain⟨hj',rfl⟩:=q0U.1 hj;rw[Addr.add_lit];exact hca j hj'
set_option maxHeartbeats 1000000 in
def c9U(L:SlLaysH.n10 P ρ)(a:Option Addr)(c:Nat)(fv:Value)(w:World):
  Calls P (ρ.f 10) #[.slice a 0 c,fv] w fun e w'=>e=.returned (.slice a 0 c)/\w'=w:=by
 have mixed:=L.mixed;have t0:=L.t0;have a0:=L.a0;have z0:=L.z0;have v0:=L.v0;have t3:=L.t3;have a3:=L.a3;have z3:=L.z3;have v3:=L.v3;have t4:=L.t4;have a4:=L.a4;have z4:=L.z4;have v4:=L.v4;have t22:=L.t22;have a22:=L.a22;have z22:=L.z22;have v22:=L.v22;have a23:=L.a23;have z23:=L.z23;have t25:=L.t25;have a25:=L.a25;have z25:=L.z25;have v25:=L.v25;have e6:∀args w,(callFunc (ρ.f 6) args).run P w=.ok (.enter (ρ.f 6) args) w:=L.f6.enters rfl;obtain⟨_,_,FG⟩:=L.f10
 go_enter FG,SlBodyH.n10_ntmps ρ
 go_wp2_with (go_at_fn (ρ.f 6);refine(AnyE.slices_IndexFunc_empty { L with } a c fv _).mono ?_;rintro e w' ⟨rfl,rfl⟩)
 go_ret
 exact⟨rfl,rfl⟩
def d3U(L:SlLaysH.n10 P ρ)(hcl:F9 P (ρ.f 10)=true)(v23:∀w,(zeroValue (ρ.t 23)).run P w=.ok (encStr []) w){g:FuncId}(eg:∀args w,(callFunc g args).run P w=.ok (.enter g args) w){caps:List C}(p:List UInt8->Bool)
  (HG:∀(F:Nat->Prop) (W:World) (lb:List Value),C.RdVals F W caps lb []->∀x,FnGives P g lb.toArray #[encStr x] (.bool (p x)) W) (hcaps:∀F w lb fp,C.RdVals F w caps lb fp->fp=[])
  (l:List (List UInt8)):A0e P (ρ.f 10) [(false,[.sl true [.s []] (l.map a0M)]),(false,[.f g caps])] [] (.one (false,[.sl true [.s []] ((l.filter fun x=>!p x).map a0M)])):=by
 unfold A0e;refine⟨hcl, ?_⟩;intro F w vs fpa h hnd hnf hF;unfold VsRd at h;obtain⟨v,r,f1,f2,rfl,rfl,h,hr⟩:=h;unfold VsRd at hr;obtain⟨vf,r2,f3,f4,rfl,rfl,hf,hr⟩:=hr;unfold VsRd at hr;obtain⟨rfl,rfl⟩:=hr;simp only[VRd]at h hf;obtain⟨c,hc1,h⟩:=h;simp only[K8]at hc1;subst hc1;obtain⟨c,hc1,hf⟩:=hf;simp only[K8]at hc1;subst hc1;unfold C.Rd at h hf;obtain⟨lb,rfl,hlb⟩:=hf;have hf3:=hcaps F w lb f3 hlb;subst hf3;obtain⟨a,cap,rfl,h1,h2,h3,h4⟩:=h;simp only[W8]at h4;rw[q0A,q0A]at hnd hnf ⊢;rcases h4 with⟨hcap,rfl⟩|⟨b,o,vs,fp',rfl,rfl,hob,hca,hrr⟩
 ·have hl0:l=[]:=q0L.1 (by simp at h1;omega);subst hl0;refine(c9U L a cap _ w).mono ?_;rintro e w' ⟨rfl,rfl⟩;refine⟨F,_,[],[],rfl, ?_,rfl,⟨fun _ h=>h,fun _ h=>.inl h,hF,q0Z,z0E,fun _ _ _=>rfl,q0F _,rfl,Tp.of rfl rfl,rfl⟩⟩;simp only[RRd,VRd];refine⟨_,rfl, ?_⟩;unfold C.Rd;exact⟨a,cap,rfl,h1,h2,z0E,.inl ⟨hcap,rfl⟩⟩
 ·obtain⟨rfl,rfl,hok⟩:=a6Y hrr;obtain⟨cc,e0,hbl,hsz⟩:=hob;have hbs:b<w.heap.size:=(hnf b z0E).2;have hbF:¬F b:=(hnf b z0E).1;have hlc:l.length<=cap:=by simpa using h1
  have hH:Holds encStr w b o l.toArray:=by
   intro j hj;simp at hj;refine⟨?_, ?_⟩
   ·have:=hca j z1B;simp only[q3R]at this;rw[this];simp[hj]
   ·simp[World.frozen?,hbl]
  have hG:∀(W:World) (x:List UInt8),(∀k,F k->W.heap[k]? = w.heap[k]?)->FnGives P g lb.toArray #[encStr x] (.bool (p x)) W:=fun W x hW=>
   HG F W lb (C.RdVals.mono (fun _ h=>h) hW caps lb [] (fun _ hx=>by cases hx) hlb) x
  have hrun:=AnyE.slices_DeleteFunc L encStr (fun _=>rfl) p g lb.toArray eg [] v23 b o cap l.toArray w
   (fun W x hb=>hG W x fun k hk=>hb.block k (hF k hk))
   (fun n os dk x hdk=>hG _ x fun k hk=>by
     unfold sortWorld;rw[a1B (by rw[size_putRow];exact hF k hk),a6m encStr (fun e=>hbF (by rw[<-e];exact hk))];rfl) hH (by simp;simp only[maxLen]at h2;omega) (by simpa using hlc)
  simp only[q0J]at hrun;rw[show(List.map a0M l).length=l.length by simp];refine hrun.mono ?_;rintro e w' ⟨rfl,n,rfl⟩;have hll:(l.filter fun x=>!p x).length<=l.length:=q1F _ _;generalize hD:(List.filter (fun x=>!p x) l++List.replicate (l.length-(List.filter (fun x=>!p x) l).length) []).toArray=D;have hDs:D.size=l.length:=by rw[<-hD];simp;omega
  have hb1:(putRow encStr (Sort.ahead w n) b o D).heap[b]? = some (.cells (putCells encStr o D cc) e0 (0,0)):=a6W encStr hbl;have hsz1:(putRow encStr (Sort.ahead w n) b o D).heap.size=w.heap.size:=by simp[Sort.ahead]
  refine⟨F,_,[b],[],rfl, ?_,rfl,⟨fun _ h=>h,fun _ h=>.inl h,fun x hx=>by rw[hsz1];exact hF x hx,z0E, ?_, ?_,by rw[hsz1];exact q0F _,rfl,⟨rfl,q3U _ _⟩,rfl⟩⟩
  ·simp only[RRd,VRd];refine⟨_,rfl, ?_⟩;unfold C.Rd;refine⟨some ⟨b,o,none⟩,cap,z0E,z0X,h2, ?_,.inr ⟨b,o,(l.filter fun x=>!p x).map encStr,[],rfl,rfl, ?_, ?_,b0d fun x hx=>hok x (q0N.1 hx).1⟩⟩
   ·intro r hr;obtain⟨x,_,rfl⟩:=q0R.1 hr;rfl
   ·exact⟨_,e0,hb1,z1K⟩
   ·intro j hj;have hj':j<(l.filter fun x=>!p x).length:=by simpa using hj
    have h0:=cell?_putRow encStr (Sort.ahead w n) b o l.toArray D hH (by rw[hDs];simp) j z0D;rw[h0,<-hD];simp[q4N,hj',show j<(l.filter fun x=>!p x).length+(l.length-(l.filter fun x=>!p x).length) by omega]
  ·intro x hx;simp only[q0A,q0E]at hx;subst hx;exact⟨(hnf x z0E).1,.inl z0E,z0D⟩
  ·intro x hx hn;have:x≠b:=fun e=>hn (by simp[e])
   rw[a6m encStr this];rfl
end Go.Aw
