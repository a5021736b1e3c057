/- slices.DeleteFunc at structs whose predicate reads what lies behind them: what the walk is to show. No condition. -/
import Derived.Test.YtkophkhamikaoaaGreatlBx15kb
import Derived.Deep.WholeRow
namespace Go.Aw
open Go.Proofs Go.Shelf Go.Sort Go.Lib
set_option linter.all false
variable{P:Program}
def d8L{α:Type}[Inhabited α](pr:α->Bool)(d:Array α):(a0A pr d.toList=-1/\∀j,j<d.size->pr d[j]! = false)\/∃k:Nat,k<d.size/\a0A pr d.toList=(k:Int)/\pr d[k]! = true/\∀j,j<k->pr d[j]! = false:=by
 have hg:∀j (h:j<d.size),d[j]! = d.toList[j]' z05:=fun j h=>by rw[getElem!_pos d j h];simp
 cases h:d.toList.any pr with
 | false=>
   refine .inl ⟨w9 h,fun j hj=>?_⟩;rw[q2J]at h;rw[hg j hj];have:=h _ (q1M (l:=d.toList) z1B);cases e:pr (d.toList[j]' z1B)with
   | false=>rfl
   | true=>exact absurd e this
 | true=>
   have hl:d.toList.findIdx pr<d.toList.length:=q4Y.2 (q3E.1 h);have hl2:d.toList.findIdx pr<d.size:=by simpa using hl
   refine .inr ⟨d.toList.findIdx pr,hl2,d0j h, ?_,fun j hj=>?_⟩
   ·rw[hg _ hl2];exact List.findIdx_getElem (w:=hl)
   ·rw[hg j z0D];have:=List.not_of_lt_findIdx hj;simpa using this
def c6M{α:Type}[Inhabited α](P:Program)(g:Nat)(lb:Array Value)(enc:α->List Value)(k:Nat)(pr:α->Bool)(blk off size:Nat)(w:World):Prop:=
 ∀(m:Nat) (os:Array Obj) (dk:Array α),dk.size=size->∀x:α,
  Calls P g (#[.agg (enc x).toArray]++lb) (sortWorldK enc k w blk off m dk os) fun e w'=>e=.returned (.bool (pr x))/\∃q os',w'=grow ((sortWorldK enc k w blk off m dk os).drewN q) os'
structure DelRuns(P:Program)(f ix:FuncId)(k:Nat):Prop where
 empty:∀(a:Option Addr) (cap:Nat) (g:Nat) (lb:Array Value) (w:World),(Calls P ix #[.slice a 0 cap,.func (.func g) #[] lb] w fun e w'=>e=.returned (.int .i64 (-1))/\∃q os',w'=grow (w.drewN q) os')->Calls P f #[.slice a 0 cap,.func (.func g) #[] lb] w fun e w'=>e=.returned (.slice a 0 cap)/\∃q os',w'=grow (w.drewN q) os'
 run:∀{α:Type} [Inhabited α] (enc:α->List Value) (hk:∀x,(enc x).length=k) (h1:∀x,∀v∈enc x,v.oneCell'=true) (pr:α->Bool) (g:Nat) (lb:Array Value) (eg:∀args w,(callFunc g args).run P w=.ok (.enter g args) w)
  (blk off cap:Nat) (d:Array α) (w:World) (hq:c6M P g lb enc k pr blk off d.size w) (hix:Calls P ix #[.slice (some ⟨blk,off,none⟩) d.size cap,.func (.func g) #[] lb] w fun e w'=>e=.returned (.int .i64 (a0A pr d.toList))/\∃q os',w'=grow (w.drewN q) os') (hH:HoldsK enc k w blk off d) (hblk:blk<w.heap.size) (hcap:d.size<=cap) (hsz:d.size<4611686018427387904),
  Calls P f #[.slice (some ⟨blk,off,none⟩) d.size cap,.func (.func g) #[] lb] w fun e w'=>e=.returned (.slice (some ⟨blk,off,none⟩) (keptUpTo (fun j=>!pr d[j]!) d d.size).length cap)/\a7b enc k w blk off d (fun j=>!pr d[j]!) w'
def SWK_pd{α:Type}[Inhabited α]{enc:α->List Value}{k:Nat}{w0 W:World}{blk off:Nat}{dk:Array α}{g:Nat}{lb:Array Value}{pr:α->Bool}{size:Nat}(h:SWK enc k w0 blk off dk W)(hC:c6M P g lb enc k pr blk off size w0)(hs:dk.size=size)(x:α):
  Calls P g (#[.agg (enc x).toArray]++lb) W fun e w'=>e=.returned (.bool (pr x))/\∃q os',w'=grow (W.drewN q) os':=by
 obtain⟨m,os0,hw⟩:=h;rw[hw];exact hC m os0 dk hs x
def new_row{α:Type}[Inhabited α]{enc:α->List Value}{k:Nat}{w0 W:World}{blk off:Nat}{dk:Array α}(h:SWK enc k w0 blk off dk W){u:α}(hk:(enc u).length=k)(h1:∀v∈enc u,v.oneCell'=true){z:Array Value}(hz:z.size=k){t:TypeId}(hi:(P.info? t).map (·.size)=some k):
  ∃wv,Sem.run P (storeCells ⟨W.heap.size,0,none⟩ (enc u) 0) (W.alloc (.cells z t))=.ok () wv/\SWK enc k w0 blk off dk wv/\Sem.run P (loadCellsFrom ⟨W.heap.size,0,none⟩ 0 k #[]) wv=.ok (enc u).toArray wv/\∀n os,Sem.run P (loadCellsFrom ⟨W.heap.size,0,none⟩ 0 k #[]) (grow (wv.drewN n) os)=.ok (enc u).toArray (grow (wv.drewN n) os):=by
 refine⟨W.alloc (.cells (enc u).toArray t), ?_, ?_,run_loadCellsFrom_new W t _ k (by simp[hk]),fun n os=>?_⟩
 ·exact run_storeCells_new W t z (enc u).toArray (by rw[hi];simp[hk]) (by rw[hz];simp[hk]) (by simpa using h1)
 ·have h2:=h.grown 0 #[.cells (enc u).toArray t];have e:grow (W.drewN 0) #[.cells (enc u).toArray t]=W.alloc (.cells (enc u).toArray t):=by unfold grow World.alloc World.drewN;rw[Array.append_singleton];rfl
  rw[e]at h2;exact h2
 ·have hb:(grow ((W.alloc (.cells (enc u).toArray t)).drewN n) os).heap[W.heap.size]? = some (.cells (enc u).toArray t (0,0)):=by
   rw[a1B (by show W.heap.size<(W.heap.push _).size;rw[q5C];omega)];exact heap_alloc_last W _
  have:=run_loadCells_list (P:=P) (grow ((W.alloc (.cells (enc u).toArray t)).drewN n) os) ⟨W.heap.size,0,none⟩ (enc u) (fun j v hv=>by
   have hadd:(⟨W.heap.size,0,none⟩:Addr).add j=⟨W.heap.size,j,none⟩:=by unfold Addr.add;split<;>simp_all
   rw[hadd,cell_of_row _ _ j _ t (0,0) hb];simpa using hv)
  rw[hk]at this;simpa[loadCells]using this
def d0K{α β:Type}[Inhabited α](f:α->β)(pr:β->Bool)(l:List α):(keptUpTo (fun j=>!pr (f l.toArray[j]!)) l.toArray l.toArray.size).map f=(l.map f).filter fun x=>!pr x:=by
 have h:=keptUpTo_filter (fun x=>!pr (f x)) l.toArray;rw[h,List.filter_map];rfl
def c6v{F:Nat->Prop}{w:World}:∀{caps:List C} {lb:List Value},C.RdVals F w caps lb []->VsRd F w (caps.map fun c=>(false,[c])) lb []
 | [],lb,h=>by
   unfold C.RdVals at h;obtain⟨rfl,_⟩:=h;unfold List.map VsRd;exact⟨rfl,rfl⟩
 | c::cs,lb,h=>by
   unfold C.RdVals at h;obtain⟨v,vs',f1,f2,rfl,e,h1,h2⟩:=h;obtain⟨rfl,rfl⟩:f1=[]/\f2=[]:=by simpa using e.symm
   rw[q0D];unfold VsRd;exact⟨v,vs',[],[],rfl,rfl,⟨c,rfl,h1⟩,c6v h2⟩
def d5R{α:Type}{f ix:FuncId}{k:Nat}(R:DelRuns P f ix k)(hc:F9 P f=true){cf:α->List C}{z:List C}(hz:z.length=k)(hk:∀x,(cf x).length=k)(hbr:∀{F w x vs fp},C.RdVals F w (cf x) vs fp->fp=[])
  {dom:α->Prop} (pr:α->Bool) {g:FuncId} (eg:∀args w,(callFunc g args).run P w=.ok (.enter g args) w) {caps:List C} (hcaps:∀{F w lb fp},C.RdVals F w caps lb fp->fp=[])
  (hsp:∀x,dom x->A0e P g ((true,cf x)::caps.map fun c=>(false,[c])) [] (.one (false,[.b (pr x)])))
  (l:List α) (hix:A0e P ix [(false,[.sl false z (l.map cf)]),(false,[.f g caps])] [] (.one (false,[.i .i64 (a0A pr l)]))) (hdom:∀x∈l,dom x) (hl:l.length<4611686018427387904):A0e P f [(false,[.sl true z (l.map cf)]),(false,[.f g caps])] [] (.one (false,[.sl true z ((l.filter fun x=>!pr x).map cf)])):=by
 unfold A0e;refine⟨hc, ?_⟩;intro F w vs fpa h hnd hnf hF;unfold VsRd at h;obtain⟨v,r,f1,f2,rfl,rfl,h,hr⟩:=h;unfold VsRd at hr;obtain⟨vf,r2,f3,f4,rfl,rfl,hf,hr⟩:=hr;unfold VsRd at hr;obtain⟨rfl,rfl⟩:=hr;simp only[VRd]at h hf;obtain⟨c,hc1,h⟩:=h;simp only[K8]at hc1;subst hc1;obtain⟨c,hc1,hf⟩:=hf;simp only[K8]at hc1;subst hc1;unfold C.Rd at h hf;obtain⟨lb,rfl,hlb⟩:=hf;obtain rfl:=hcaps hlb;obtain⟨a,cap,rfl,hb1,hb2,hb3,hb4⟩:=h;simp only[W8]at hb4;rw[q0A,q0A]at hnd hnf ⊢;have hidx:∀(fpx:List Nat),(∀b∈fpx,b<w.heap.size)->C.Rd (fun b=>F b\/b∈fpx) w (.sl false z (l.map cf)) (.slice a l.length cap) []->Calls P ix #[.slice a l.length cap,.func (.func g) #[] lb.toArray] w fun e w'=>e=.returned (.int .i64 (a0A pr l))/\∃q os',w'=grow (w.drewN q) os':=by
  intro fpx hfx hrd;have hc1:=hix.2 (fun b=>F b\/b∈fpx) w [.slice a l.length cap,.func (.func g) #[] lb.toArray] [] (by
   unfold VsRd;refine⟨_,_,[],[],rfl,rfl,⟨_,rfl,hrd⟩, ?_⟩;unfold VsRd;refine⟨_,_,[],[],rfl,rfl,⟨_,rfl, ?_⟩, ?_⟩
   ·unfold C.Rd;exact⟨lb,rfl,C.RdVals.mono (fun _ h=>.inl h) (fun _ _=>rfl) _ _ _ (fun _ hx=>by cases hx) hlb⟩
   ·unfold VsRd;exact⟨rfl,rfl⟩) q0Z z0E (fun b hb=>hb.elim (hF b) (hfx b))
  refine hc1.mono ?_;rintro e w' ⟨F',v,fp,fo,rfl,hr,ho,hpost⟩;simp only[RRd,VRd]at hr;obtain⟨c0,hc0,hr⟩:=hr;simp only[K8]at hc0;subst hc0;unfold C.Rd at hr;obtain⟨rfl,_,rfl⟩:=hr;exact⟨rfl,a7x hpost.tape hpost.os hpost.out hpost.sz fun b hb=>hpost.fr b hb z0E⟩
 have hempty:∀(fpx:List Nat),l=[]->(∀x∈fpx,¬F x/\x<w.heap.size)->fpx.Nodup->(∀w',w.heap.size<=w'.heap.size->(∀b,b<w.heap.size->w'.heap[b]? = w.heap[b]?)->C.Rd F w' (.sl true z (List.map cf [])) (.slice a 0 cap) fpx)->Calls P f #[.slice a (List.map cf l).length cap,.func (.func g) #[] lb.toArray] w fun e w'=>∃F' v fp fo,e=.returned v/\RRd F' w' (.one (false,[.sl true z ((l.filter fun x=>!pr x).map cf)])) v fp/\OutRd F' w' [.slice a (List.map cf l).length cap,.func (.func g) #[] lb.toArray] [] fo/\Post F F' fpx (fp++fo) w w':=by
  intro fpx hl0 hfx hnx hrd;subst hl0;refine(R.empty a cap g lb.toArray w ?_).mono ?_
  ·exact hidx [] z0E (by
    unfold C.Rd;exact⟨a,cap,rfl,q2D _,hb2,z0E,rfl,.inl rfl⟩)
  ·rintro e w' ⟨rfl,q,os',rfl⟩;have hs:w.heap.size<=(grow (w.drewN q) os').heap.size:=by simp only[grow,World.drewN];rw[q3P];omega
   have hsame:∀b,b<w.heap.size->(grow (w.drewN q) os').heap[b]? = w.heap[b]?:=fun b hb=>by rw[a1B (by exact hb)];rfl
   refine⟨F,_,fpx,[],rfl,⟨_,rfl,hrd _ hs hsame⟩,rfl,⟨fun _ h=>h,fun _ h=>.inl h,fun b hb=>q1O (hF b hb) hs,by simpa using hnx,fun x hx=>?_,fun b hb _=>hsame b hb,hs,rfl,⟨rfl,q3U _ _⟩,rfl⟩⟩;rw[q0A]at hx;exact⟨(hfx x hx).1,.inl hx,q1O (hfx x hx).2 hs⟩
 rcases hb4 with⟨hcap,rfl⟩|⟨b,of,vs,fp',rfl,rfl,hob,hca,hrr⟩
 ·have hl0:l=[]:=q0L.1 z2E;refine hempty [] hl0 z0E q0Z fun w' _ _=>?_
  unfold C.Rd;exact⟨a,cap,rfl,q2D _,hb2,z0E,.inl ⟨hcap,rfl⟩⟩
 ·obtain⟨l',q1,rfl,q3⟩:=b9g (F:=F) (w:=w) (dom:=dom) (FP:=fp') hk hdom (fun _ h=>h) hrr;have hfp0:fp'=[]:=by
   rw[q3,List.flatMap_eq_nil_iff];exact fun p _=>hbr p.rd
  subst hfp0;obtain⟨cc,e0,hbl,hsz⟩:=hob;have hbs:b<w.heap.size:=(hnf b z0E).2;have hbF:¬F b:=(hnf b z0E).1;have hll:l'.length=l.length:=by rw[<-q1,q0C]
  by_cases hl0:l'=[]
  ·subst hl0;obtain rfl:l=[]:=by simpa using q1.symm
   refine hempty [b] rfl (by simpa using⟨hbF,hbs⟩) z0E fun w' hs hsame=>?_
   unfold C.Rd;exact⟨some ⟨b,of,none⟩,cap,rfl,q2D _,hb2,z0E,.inr ⟨b,of,[],[],rfl,rfl,⟨cc,e0,by rw[hsame b hbs];exact hbl,hsz⟩,fun j hj=>z2H,z1J⟩⟩
  ·obtain⟨p0,hp0⟩:=q4A _ hl0
   letI:Inhabited (Lain F w cf k dom []):=⟨p0⟩
   generalize henc:(fun p:Lain F w cf k dom []=>p.vs)=enc at*;have hev:∀p,enc p=p.vs:=fun p=>by rw[<-henc]
   have hkE:∀p,(enc p).length=k:=fun p=>by rw[hev];exact p.len
   have h1E:∀p,∀v∈enc p,v.oneCell'=true:=fun p v hv=>by rw[hev]at hv;exact X6 p.rd v hv
   have hH0:Holds id w b of (l'.flatMap enc).toArray:=by
    intro j hj;rw[q0J]at hj;refine⟨?_, ?_⟩
    ·have:=hca j hj;rw[this,getElem!_pos (l'.flatMap enc).toArray j z2I];simp
    ·simp[World.frozen?,hbl]
   have hH:HoldsK enc k w b of l'.toArray:=by unfold HoldsK;rw[a2n enc k hkE];exact hH0
   have hpd:c6M P g lb.toArray enc k (fun p:Lain F w cf k dom []=>pr p.x) b of l'.toArray.size w:=by
    intro m os dk hdk x;have hG:∀b',F b'->b'<w.heap.size/\b'≠b:=fun b' hb'=>⟨hF b' hb',fun e=>hbF (e▸hb')⟩
    have hW:∀b',F b'->(sortWorldK enc k w b of m dk os).heap[b']? = w.heap[b']?:=fun b' hb'=>by
     unfold sortWorldK putRowK;have hs1:(putRow id (Sort.ahead w m) b of (flatK enc k dk)).heap.size=w.heap.size:=by simp[Sort.ahead]
     rw[a1B z18,a6m id (hG b' hb').2];rfl
    have hFW:∀b',F b'->b'<(sortWorldK enc k w b of m dk os).heap.size:=fun b' hb'=>q1O (hG b' hb').1 (size_sortWorldK_c enc k w b of m dk os)
    generalize sortWorldK enc k w b of m dk os=W at hW hFW ⊢;have hx:=hbr x.rd;have hc1:=(hsp x.x x.hd).2 F W (.agg (enc x).toArray::lb) [] (by
     unfold VsRd;refine⟨_,_,[],[],rfl,rfl,⟨x.vs,by rw[hev], ?_⟩, ?_⟩
     ·have:=x.rd;rw[hx]at this;exact C.RdVals.mono (fun _ h=>h) hW _ _ _ (fun _ h=>by cases h) this
     ·exact c6v (C.RdVals.mono (fun _ h=>h) hW _ _ _ (fun _ h=>by cases h) hlb)) q0Z z0E hFW
    rw[show(#[.agg (enc x).toArray]++lb.toArray:Array Value)=(Value.agg (enc x).toArray::lb).toArray by simp];refine hc1.mono ?_;rintro e w' ⟨F',v,fp,fo,rfl,hr,ho,hpost⟩;simp only[RRd,VRd]at hr;obtain⟨c0,hc0,hr⟩:=hr;simp only[K8]at hc0;subst hc0;unfold C.Rd at hr;obtain⟨rfl,rfl⟩:=hr;exact⟨rfl,a7x hpost.tape hpost.os hpost.out hpost.sz fun b hb=>hpost.fr b hb z0E⟩
   have hbig:l'.length<=cap:=by rw[hll];simpa using hb1
   have hix2:=hidx [b] (by simpa using hbs) (by
    unfold C.Rd;refine⟨_,cap,by rw[q0C],by simpa using hb1,hb2,hb3,rfl,.inr ⟨b,of,l'.flatMap enc,rfl,.inr z0E,hca, ?_⟩⟩;exact C.RdRows.mono (fun _ h=>.inl h) (fun _ _=>rfl) _ _ _ (fun _ h=>by cases h) hrr)
   rw[hz]at hsz;have he:a0A pr l=a0A (fun p:Lain F w cf k dom []=>pr p.x) l'.toArray.toList:=by
    rw[<-q1];unfold a0A;simp only[List.findIdx_map,q0C];rfl
   rw[he,<-hll]at hix2;have hrun:=R.run enc hkE h1E (fun p:Lain F w cf k dom []=>pr p.x) g lb.toArray eg b of cap l'.toArray w hpd (by rw[q0J];exact hix2) hH hbs (by rw[q0J];exact hbig) (by rw[q0J,hll];exact hl);rw[q0J]at hrun;rw[show(List.map cf l).length=l'.length by rw[q0C,hll]];refine hrun.mono ?_;rintro e w' ⟨rfl,h⟩;obtain⟨F',v,fp,fo,rfl,q⟩:=c5T hz hk hev hbl hsz hH0 q3 hnd hnf hF hbig hb2 h rfl _;have hm:=d0K (fun p:Lain F w cf k dom []=>p.x) pr l';rw[q1]at hm;rw[hm]at q;exact⟨F',_,fp,fo,rfl,q⟩
end Go.Aw
