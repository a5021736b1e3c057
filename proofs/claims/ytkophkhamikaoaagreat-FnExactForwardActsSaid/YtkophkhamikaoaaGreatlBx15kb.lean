/- slices.CompactFunc at structs whose comparing function reads what lies behind them: what the walk is to show. No condition. -/
import Derived.Test.YtkophkhamikaoaaGreatlBx13kb
import Derived.Shelf.SlSortCmp.KitK
import Derived.Lib.SlKept
import Derived.Lib.SliceRun
namespace Go.Aw
open Go.Proofs Go.Shelf Go.Sort Go.Lib
set_option linter.all false
variable{P:Program}
def c6w{α:Type}[Inhabited α](P:Program)(g:Nat)(enc:α->List Value)(k:Nat)(eq:α->α->Bool)(blk off size:Nat)(w:World):Prop:=
 ∀(m:Nat) (os:Array Obj) (dk:Array α),dk.size=size->∀x y:α,
  Calls P g #[.agg (enc x).toArray,.agg (enc y).toArray] (sortWorldK enc k w blk off m dk os) fun e w'=>e=.returned (.bool (eq x y))/\∃q os',w'=grow ((sortWorldK enc k w blk off m dk os).drewN q) os'
def kpE{α:Type}[Inhabited α](eq:α->α->Bool)(d:Array α)(j:Nat):Bool:=decide (j=0)||!eq d[j]! d[j-1]!
def a7b{α:Type}[Inhabited α](enc:α->List Value)(k:Nat)(w:World)(blk off:Nat)(d:Array α)(kp:Nat->Bool)(W:World):Prop:=
 ∃(n:Nat) (os:Array Obj) (dk:Array α) (zs:List Value),dk.size=d.size/\(∀j,j<(keptUpTo kp d d.size).length->(keptUpTo kp d d.size)[j]? = some dk[j]!)/\(keptUpTo kp d d.size).length*k+zs.length<=d.size*k/\
  W=(sortWorldK enc k w blk off n dk os).setCells blk (off+(keptUpTo kp d d.size).length*k) zs
structure CpfRuns(P:Program)(f:FuncId)(k:Nat):Prop where
 empty:∀(a:Option Addr) (cap:Nat) (g:Nat) (w:World),Calls P f #[.slice a 0 cap,.func (.func g) #[] #[]] w fun e w'=>e=.returned (.slice a 0 cap)/\w'=w
 run:∀{α:Type} [Inhabited α] (enc:α->List Value) (hk:∀x,(enc x).length=k) (h1:∀x,∀v∈enc x,v.oneCell'=true) (eq:α->α->Bool) (g:Nat) (eg:∀args w,(callFunc g args).run P w=.ok (.enter g args) w)
  (blk off cap:Nat) (d:Array α) (w:World) (hq:c6w P g enc k eq blk off d.size w) (hH:HoldsK enc k w blk off d) (hblk:blk<w.heap.size) (hcap:d.size<=cap) (hsz:d.size<4611686018427387904),
  Calls P f #[.slice (some ⟨blk,off,none⟩) d.size cap,.func (.func g) #[] #[]] w fun e w'=>e=.returned (.slice (some ⟨blk,off,none⟩) (keptUpTo (kpE eq d) d d.size).length cap)/\a7b enc k w blk off d (kpE eq d) w'
def d6l{α:Type}[Inhabited α]{eq:α->α->Bool}{d:Array α}{m:Nat}(h:eq d[m]! d[m-1]! = false):kpE eq d m=true:=by simp[kpE,h]
def d6k{α:Type}[Inhabited α]{eq:α->α->Bool}{d:Array α}{m:Nat}(hm:0<m)(h:eq d[m]! d[m-1]! = true):kpE eq d m=false:=by
 have:m≠0:=by omega
 simp[kpE,h,this]
section
variable{α:Type}[Inhabited α]{enc:α->List Value}{k:Nat}{w0 W:World}{blk off:Nat}{dk:Array α}
def e0F{g:Nat}{eq:α->α->Bool}{size:Nat}(h:SWK enc k w0 blk off dk W)(hC:c6w P g enc k eq blk off size w0)(hs:dk.size=size)(x y:α)(n:Nat)(os:Array Obj):
  Calls P g #[.agg (enc x).toArray,.agg (enc y).toArray] (grow (W.drewN n) os) fun e w'=>e=.returned (.bool (eq x y))/\∃q os',w'=grow ((grow (W.drewN n) os).drewN q) os':=by
 obtain⟨m,os0,hw⟩:=h.grown n os;rw[hw];exact hC m os0 dk hs x y
def d1n(hk:∀x,(enc x).length=k)(d:Array α)(i:Nat)(hi:i<d.size)(x:α):setMany (flatK enc k d) (i*k) (enc x)=flatK enc k (d.setIfInBounds i x):=by
 refine ext_get! z0E fun t ht=>?_
 have ht':t<d.size*k:=by simpa using ht
 have k0:0<k:=by
  rcases q5S k with h|h
  ·subst h;simp at ht'
  ·exact h
 rw[get_setMany _ _ _ t (by simpa using ht'),get_flatK _ _ _ t ht',get_flatK enc k (d.setIfInBounds i x) t (by simpa using ht'),hk];by_cases a:t/k=i
 ·rw[if_pos ((blk_iff k i t k0).2 a),a,getElem!_set_same d i x hi,<-a,Nat.mod_eq_sub_div_mul]
 ·rw[if_neg (fun h=>a ((blk_iff k i t k0).1 h)),getElem!_set_other d i _ x a]
def c5q(h:SWK enc k w0 blk off dk W)(hk:∀x,(enc x).length=k)(hblk:blk<w0.heap.size)(i:Nat)(hi:i<dk.size)(x:α):SWK enc k w0 blk off (dk.setIfInBounds i x) (W.setCells blk (off+i*k) (enc x)):=by
 obtain⟨n,os,rfl⟩:=h;refine⟨n,os, ?_⟩;have b:i*k+k<=dk.size*k:=by
  have:=q1S k (show i+1<=dk.size from hi);rwa [q2C,q4K]at this
 unfold sortWorldK;rw[setCells_grow os blk _ _ _ (by rw[size_putRowK];exact hblk)]
 congr 1
 unfold putRowK;rw[setCells_putRow _ _ _ _ _ _ (by rw[hk,size_flatK];exact b),d1n hk dk i hi]
end
def b6P(w:World)(t e ty:TypeId)(z:Value)(ht:P.underlying t=some (.slice e))(hv:∀w,(zeroValue e).run P w=.ok z w){n:Nat}(hall:∀v∈(Builtin.zeroCells z.cells n).toList,v.oneCell'=true)(b o c:Nat)(hn:0<n)
  (hc:∀j,j<n*z.cells.size->(w.cell? ⟨b,o+j,none⟩).isSome=true) (hf:∀j,j<n*z.cells.size->w.frozen? ⟨b,o+j,none⟩=false):
  (Builtin.clear_ #[t] ty #[.slice (some ⟨b,o,none⟩) n c]).run P w=.ok (.tuple #[]) (w.setCells b o (Builtin.zeroCells z.cells n).toList):=by
 have hl:(Builtin.zeroCells z.cells n).toList.length=n*z.cells.size:=by simp[Builtin.zeroCells]
 have hst:=run_storeCells_cells (P:=P) b o (Builtin.zeroCells z.cells n).toList 0 w (by rw[hl];simpa using hc) (by rw[hl];simpa using hf) hall;simp only[q4X]at hst;obtain⟨m,rfl⟩:∃m,n=m+1:=⟨n-1,z0D⟩
 simp[Builtin.clear_,run_underlying ht,hv,hst]
def b1h{z:Array Value}(h0:0<z.size)(h:∀v∈z.toList,v.oneCell'=true)(n:Nat):∀v∈(Builtin.zeroCells z n).toList,v.oneCell'=true:=fun v hv=>by
 simp only[Builtin.zeroCells,Array.toList_map,q0R,Array.toList_range,q4J]at hv;obtain⟨i,_,rfl⟩:=hv;have hi:i%z.size<z.size:=Nat.mod_lt _ h0;rw[getElem!_pos z _ hi];exact h _ z0E
def c0U{α:Type}[Inhabited α](eq:α->α->Bool)(l:List α):List α:=keptUpTo (kpE eq l.toArray) l.toArray l.length
def c4g{α:Type}[Inhabited α][DecidableEq α](l:List α):c0U (fun x y=>decide (x=y)) l=Lib.compact l:=by
 unfold c0U Lib.compact compactUpTo keptUpTo
 congr 1
 apply q6A;intro j _;unfold kpE keeps;by_cases h1:j=0<;>by_cases h2:l.toArray[j]! = l.toArray[j-1]!<;>simp[h1,h2]
def e1T{α β:Type}[Inhabited α][Inhabited β](f:β->α){eq:α->α->Bool}{eq':β->β->Bool}(he:∀p q,eq' p q=eq (f p) (f q))(l:List β):(keptUpTo (kpE eq' l.toArray) l.toArray l.length).map f=c0U eq (l.map f):=by
 unfold c0U keptUpTo;rw[q4L,q0C];have hg:∀j,j<l.length->(l.map f).toArray[j]! = f l.toArray[j]!:=fun j hj=>by
  rw[getElem!_pos _ j z1B,getElem!_pos _ j z1B];simp
 have e1:(List.range l.length).filter (kpE eq' l.toArray)=(List.range l.length).filter (kpE eq (l.map f).toArray):=by
  apply q6A;intro j hj;have hj':=q4J.1 hj;unfold kpE;rw[he,hg j hj',hg (j-1) z0D]
 rw[e1];apply q3C;intro j hj;have hj':=q4J.1 (q0N.1 hj).1;exact(hg j hj').symm
def e1y{α β:Type}(f:α->List β):∀{a b:List α},a.Sublist b->(a.flatMap f).Sublist (b.flatMap f):=fun h=>by
 induction h with
 | slnil=>exact List.Sublist.refl _
 | cons x _ ih=>rw[q2G];exact ih.trans (List.sublist_append_right _ _)
 | cons_cons x _ ih=>rw[q2G,q2G];exact List.Sublist.append (List.Sublist.refl _) ih
def c5T{α:Type}{F:Nat->Prop}{w:World}{cf:α->List C}{k:Nat}{dom:α->Prop}{fp':List Nat}{z:List C}(hz:z.length=k)(hk:∀x,(cf x).length=k)[Inhabited (Lain F w cf k dom fp')]{enc:Lain F w cf k dom fp'->List Value}(hev:∀p,enc p=p.vs){l':List (Lain F w cf k dom fp')}{b of cap:Nat}{cc:Array Value}{e0:TypeId}(hbl:w.heap[b]? = some (.cells cc e0 (0,0)))(hsz:of+cap*k<=cc.size)(hH0:Holds id w b of (l'.flatMap enc).toArray)(q3:fp'=l'.flatMap (·.fp))(hnd:(b::fp').Nodup)(hnf:∀x∈b::fp',¬F x/\x<w.heap.size)(hF:∀b,F b->b<w.heap.size)(hbig:l'.length<=cap)(hb2:cap<=maxLen){kp:Nat->Bool}{w':World}(h:a7b enc k w b of l'.toArray kp w'){K:List (Lain F w cf k dom fp')}(hKK:keptUpTo kp l'.toArray l'.toArray.size=K)(vs0:List Value):
  ∃F' v fp fo,(Value.slice (some ⟨b,of,none⟩) K.length cap)=v/\RRd F' w' (.one (false,[.sl true z ((K.map (·.x)).map cf)])) v fp/\OutRd F' w' vs0 [] fo/\Post F F' (b::fp') (fp++fo) w w':=by
 have hkE:∀p,(enc p).length=k:=fun p=>by rw[hev];exact p.len
 have hlenE:∀l:List (Lain F w cf k dom fp'),(l.flatMap enc).length=l.length*k:=by
  intro l
  induction l with
  | nil=>simp
  | cons x l ih=>simp only[q2G,V6,hkE,ih,V9,q2C];omega
 have hbf:¬b∈fp':=(q1Q.1 hnd).1;have hfpn:fp'.Nodup:=(q1Q.1 hnd).2;have hfpF:∀x∈fp',¬F x/\x<w.heap.size:=fun x hx=>hnf x (by simp[hx])
 have hbs:b<w.heap.size:=(hnf b z0E).2;have hbF:¬F b:=(hnf b z0E).1;have henc:(fun p:Lain F w cf k dom fp'=>p.vs)=enc:=(funext hev).symm;have hKs:K.Sublist l':=by
  have h1:(((List.range l'.toArray.size).filter (kp)).map (l'.toArray[·]!)).Sublist ((List.range l'.toArray.size).map (l'.toArray[·]!)):=List.filter_sublist.map _;rw[range_map_get]at h1;rw[<-hKK];exact h1
 have hKl:K.length<=l'.length:=hKs.length_le;obtain⟨n,os,dk,zs,hds,hlow,hzs,rfl⟩:=h;rw[hKK]at hlow hzs ⊢;rw[show l'.toArray.size=l'.length by simp]at hds hzs;have hKt:K=dk.toList.take K.length:=by
  apply List.ext_getElem?;intro j;by_cases hj:j<K.length
  ·rw[hlow j hj,q5T,if_pos hj,getElem!_pos dk j z0D];simp[show j<dk.size by omega]
  ·rw[q5F z0D,q5F z1R]
 have hW:sortWorldK enc k w b of n dk os=grow (putRow id (Sort.ahead w n) b of (dk.toList.flatMap enc).toArray) os:=by
  unfold sortWorldK putRowK;rw[show dk=dk.toList.toArray by simp,a2n enc k hkE]
 rw[hW];have hDl:(dk.toList.flatMap enc).length=l'.length*k:=by rw[hlenE,q1Z,hds]
 generalize hE:(dk.toList.flatMap enc).toArray=E;have hEs:E.size=(l'.flatMap enc).length:=by rw[<-hE,q0J,hDl,hlenE]
 have hb1':(putRow id (Sort.ahead w n) b of E).heap[b]? = some (.cells (putCells id of E cc) e0 (0,0)):=a6W id hbl;have hsz1:(putRow id (Sort.ahead w n) b of E).heap.size=w.heap.size:=by simp[Sort.ahead]
 have hb2':(grow (putRow id (Sort.ahead w n) b of E) os).heap[b]? = some (.cells (putCells id of E cc) e0 (0,0)):=by rw[a1B z0D,hb1']
 have hle2:w.heap.size<=(grow (putRow id (Sort.ahead w n) b of E) os).heap.size:=by
  have:(grow (putRow id (Sort.ahead w n) b of E) os).heap.size=(putRow id (Sort.ahead w n) b of E).heap.size+os.size:=by simp only[grow];exact q3P
  omega
 have hcap2:l'.length*k<=cap*k:=q1S k hbig;have hpc:(putCells id of E cc).size=cc.size:=by simp[putCells]
 have hcell1:∀j,j<E.size->(grow (putRow id (Sort.ahead w n) b of E) os).cell? ⟨b,of+j,none⟩=some E[j]!:=fun j hj=>by
  have h0:=cell?_putRow id (Sort.ahead w n) b of (l'.flatMap enc).toArray E hH0 (by rw[hEs];simp) j hj;have e1:(grow (putRow id (Sort.ahead w n) b of E) os).cell? ⟨b,of+j,none⟩=(putRow id (Sort.ahead w n) b of E).cell? ⟨b,of+j,none⟩:=World.cell?_of_block (by rw[hb2',hb1']);rw[e1,h0];rfl
 have hoth:∀b',b'<w.heap.size->b'≠b->(grow (putRow id (Sort.ahead w n) b of E) os).heap[b']? = w.heap[b']?:=fun b' hb' hne=>by
  rw[a1B (by rw[hsz1];exact hb'),a6m id hne];rfl
 have htp:Tp w (grow (putRow id (Sort.ahead w n) b of E) os):=⟨rfl,q3U _ _⟩
 have hos:(grow (putRow id (Sort.ahead w n) b of E) os).os=w.os:=rfl;have hout:(grow (putRow id (Sort.ahead w n) b of E) os).output=w.output:=rfl;generalize grow (putRow id (Sort.ahead w n) b of E) os=W1 at*;obtain⟨g1,g2,g3,g4,g5⟩:=Z8 b zs (of+K.length*k) W1;have hhere:=A0l b zs (of+K.length*k) W1 _ hb2' (by rw[hpc];omega);have hcells:∀j,j<K.length*k->(W1.setCells b (of+K.length*k) zs).cell? ⟨b,of+j,none⟩=some E[j]!:=fun j hj=>by
  rw[World.cell?_setCells_out b zs _ W1 ⟨b,of+j,none⟩ (fun _ _=>.inl (by show of+j<of+K.length*k;omega))];exact hcell1 j (by
   have:=q1S k hKl;rw[hEs,hlenE];omega)
 generalize hW2:W1.setCells b (of+K.length*k) zs=W2 at*;have hoth2:∀b',b'<w.heap.size->b'≠b->W2.heap[b']? = w.heap[b']?:=fun b' h1 h2=>by rw[g1 b' h2,hoth b' h1 h2]
 have hrows:=b5Y (w':=W2) (fun b' hb'=>hoth2 b' (hF b' hb') fun e=>hbF (e▸hb')) (fun b' hb'=>hoth2 b' (hfpF b' hb').2 fun e=>hbf (e▸hb')) K;have hfD:∀x∈K.flatMap (·.fp),x∈fp':=d6m K;have hnD:(K.flatMap (·.fp)).Nodup:=List.Nodup.sublist (e1y (·.fp) hKs) (q3▸hfpn);refine⟨F,_,b::K.flatMap (·.fp),[],rfl,⟨_,rfl, ?_⟩,rfl,⟨fun _ h=>h,fun _ h=>.inl h,fun x hx=>q1O (hF x hx) (by rw[g2];exact hle2), ?_, ?_, ?_,by rw[g2];exact hle2,by rw[g3,hos],g4.trans htp,by rw[g5,hout]⟩⟩
 ·unfold C.Rd;refine⟨some ⟨b,of,none⟩,cap,by rw[q0C,q0C],by rw[q0C,q0C];omega,hb2, ?_,.inr ⟨b,of,K.flatMap enc,K.flatMap (·.fp),rfl,rfl, ?_, ?_,by rw[<-henc];exact hrows⟩⟩
  ·intro r hr;obtain⟨x,_,rfl⟩:=q0R.1 hr;rw[hk,hz]
  ·refine⟨_,e0,hhere, ?_⟩;rw[hz];simp only[z0A];omega
  ·intro j hj;rw[hlenE]at hj;have hj':j<E.size:=by
    have:=q1S k hKl;rw[hEs,hlenE];omega
   rw[hcells j hj,getElem!_pos E j hj'];have e3:dk.toList.flatMap enc=K.flatMap enc++(dk.toList.drop K.length).flatMap enc:=by
    conv=>lhs;rw[<-q1X K.length dk.toList,q3X,<-hKt]
   congr 1
   simp only[<-hE,List.getElem_toArray];rw[List.getElem_of_eq e3,q4N]
 ·rw[q0A];exact q1Q.2 ⟨fun h=>hbf (hfD _ h),hnD⟩
 ·intro x hx;rw[q0A]at hx;rcases q0B.1 hx with rfl|hx
  ·exact⟨hbF,.inl z0E,by rw[g2];omega⟩
  ·exact⟨(hfpF x (hfD x hx)).1,.inl (by simp[hfD x hx]),by rw[g2];exact q1O (hfpF x (hfD x hx)).2 hle2⟩
 ·intro x hx hn;exact hoth2 x hx fun e=>hn (by simp[e])
def cpf_out{α:Type}[Inhabited α]{f:FuncId}{k:Nat}(R:CpfRuns P f k)(hc:F9 P f=true){cf cb:α->List C}{z:List C}(hz:z.length=k)(hfr:∀x,C.freeL (cf x)=cb x)(hk:∀x,(cf x).length=k)
  {dom:α->Prop} (eq:α->α->Bool) {g:FuncId} (eg:∀args w,(callFunc g args).run P w=.ok (.enter g args) w)
  (hsp:∀x y,dom x->dom y->A0e P g [(true,cb x),(true,cb y)] [] (.one (false,[.b (eq x y)])))
  (l:List α) (hdom:∀x∈l,dom x) (hl:l.length<4611686018427387904):A0e P f [(false,[.sl true z (l.map cf)]),(false,[.f g []])] [] (.one (false,[.sl true z ((c0U eq l).map cf)])):=by
 unfold A0e;refine⟨hc, ?_⟩;intro F w vs fpa h hnd hnf hF;unfold VsRd at h;obtain⟨v,r,f1,f2,rfl,rfl,h,hr⟩:=h;unfold VsRd at hr;obtain⟨vf,r2,f3,f4,rfl,rfl,hf,hr⟩:=hr;unfold VsRd at hr;obtain⟨rfl,rfl⟩:=hr;simp only[VRd]at h hf;obtain⟨c,hc1,h⟩:=h;simp only[K8]at hc1;subst hc1;obtain⟨c,hc1,hf⟩:=hf;simp only[K8]at hc1;subst hc1;unfold C.Rd at h hf;obtain⟨lb,rfl,hlb⟩:=hf;unfold C.RdVals at hlb;obtain⟨rfl,rfl⟩:=hlb;obtain⟨a,cap,rfl,hb1,hb2,hb3,hb4⟩:=h;simp only[W8]at hb4;rw[q0A,q0A]at hnd hnf ⊢;have hempty:∀(fpx:List Nat),l=[]->(∀x∈fpx,¬F x/\x<w.heap.size)->fpx.Nodup->C.Rd F w (.sl true z (List.map cf [])) (.slice a 0 cap) fpx->Calls P f #[.slice a (List.map cf l).length cap,.func (.func g) #[] #[]] w (fun e w'=>∃F' v fp fo,e=.returned v/\RRd F' w' (.one (false,[.sl true z ((c0U eq l).map cf)])) v fp/\OutRd F' w' [.slice a (List.map cf l).length cap,.func (.func g) #[] #[]] [] fo/\Post F F' fpx (fp++fo) w w'):=by
  intro fpx hl0 hfx hnx hrd;subst hl0;refine(R.empty a cap g w).mono ?_;rintro e w' ⟨rfl,rfl⟩;refine⟨F,_,fpx,[],rfl,⟨_,rfl,hrd⟩,rfl,⟨fun _ h=>h,fun _ h=>.inl h,hF,by simpa using hnx,fun x hx=>?_,fun _ _ _=>rfl,q0F _,rfl,Tp.of rfl rfl,rfl⟩⟩;rw[q0A]at hx;exact⟨(hfx x hx).1,.inl hx,(hfx x hx).2⟩
 rcases hb4 with⟨hcap,rfl⟩|⟨b,of,vs,fp',rfl,rfl,hob,hca,hrr⟩
 ·have hl0:l=[]:=q0L.1 z2E;refine hempty [] hl0 z0E q0Z ?_;unfold C.Rd;exact⟨a,cap,rfl,q2D _,hb2,z0E,.inl ⟨hcap,rfl⟩⟩
 ·obtain⟨l',q1,rfl,q3⟩:=b9g (F:=F) (w:=w) (dom:=dom) (FP:=fp') hk hdom (fun _ h=>h) hrr;obtain⟨cc,e0,hbl,hsz⟩:=hob;have hbf:¬b∈fp':=(q1Q.1 hnd).1;have hfpn:fp'.Nodup:=(q1Q.1 hnd).2;have hfpF:∀x∈fp',¬F x/\x<w.heap.size:=fun x hx=>hnf x (by simp[hx])
  have hbs:b<w.heap.size:=(hnf b z0E).2;have hbF:¬F b:=(hnf b z0E).1;have hll:l'.length=l.length:=by rw[<-q1,q0C]
  by_cases hl0:l'=[]
  ·subst hl0;obtain rfl:l=[]:=by simpa using q1.symm
   obtain rfl:fp'=[]:=by simpa using q3
   refine hempty [b] rfl (by simpa using⟨hbF,hbs⟩) z0E ?_;unfold C.Rd;exact⟨some ⟨b,of,none⟩,cap,rfl,q2D _,hb2,z0E,.inr ⟨b,of,[],[],rfl,rfl,⟨cc,e0,hbl,hsz⟩,fun j hj=>z2H,z1J⟩⟩
  ·obtain⟨p0,hp0⟩:=q4A _ hl0
   letI:Inhabited (Lain F w cf k dom fp'):=⟨p0⟩
   generalize henc:(fun p:Lain F w cf k dom fp'=>p.vs)=enc at*;have hev:∀p,enc p=p.vs:=fun p=>by rw[<-henc]
   have hkE:∀p,(enc p).length=k:=fun p=>by rw[hev];exact p.len
   have h1E:∀p,∀v∈enc p,v.oneCell'=true:=fun p v hv=>by rw[hev]at hv;exact X6 p.rd v hv
   generalize hcm:(fun p q:Lain F w cf k dom fp'=>eq p.x q.x)=cm;have hcv:∀p q,cm p q=eq p.x q.x:=fun p q=>by rw[<-hcm]
   have hH0:Holds id w b of (l'.flatMap enc).toArray:=by
    intro j hj;rw[q0J]at hj;refine⟨?_, ?_⟩
    ·have:=hca j hj;rw[this,getElem!_pos (l'.flatMap enc).toArray j z2I];simp
    ·simp[World.frozen?,hbl]
   have hH:HoldsK enc k w b of l'.toArray:=by unfold HoldsK;rw[a2n enc k hkE];exact hH0
   have hlenE:∀l:List (Lain F w cf k dom fp'),(l.flatMap enc).length=l.length*k:=by
    intro l
    induction l with
    | nil=>simp
    | cons x l ih=>simp only[q2G,V6,hkE,ih,V9,q2C];omega
   have hcmp:c6w P g enc k cm b of l'.toArray.size w:=by
    intro m os dk hdk x y;have hG:∀b',F b'\/b'∈fp'->b'<w.heap.size/\b'≠b:=fun b' hb'=>hb'.elim (fun h=>⟨hF b' h,fun e=>hbF (e▸h)⟩) (fun h=>⟨(hfpF b' h).2,fun e=>hbf (e▸h)⟩)
    have hW:Q2 w (sortWorldK enc k w b of m dk os) fun b'=>F b'\/b'∈fp':=fun b' hb'=>by
     unfold sortWorldK putRowK;have hs1:(putRow id (Sort.ahead w m) b of (flatK enc k dk)).heap.size=w.heap.size:=by simp[Sort.ahead]
     rw[a1B z18,a6m id (hG b' hb').2];rfl
    have hFW:∀b',F b'\/b'∈fp'->b'<(sortWorldK enc k w b of m dk os).heap.size:=fun b' hb'=>q1O (hG b' hb').1 (size_sortWorldK_c enc k w b of m dk os)
    generalize sortWorldK enc k w b of m dk os=W at hW hFW ⊢;have hc1:=(hsp x.x y.x x.hd y.hd).2 (fun b'=>F b'\/b'∈fp') W [.agg (enc x).toArray,.agg (enc y).toArray] [] (by
     rw[hev,hev];unfold VsRd;refine⟨_,_,[],[],rfl,rfl,⟨x.vs,rfl,a9S hW hfr x⟩, ?_⟩;unfold VsRd;refine⟨_,_,[],[],rfl,rfl,⟨y.vs,rfl,a9S hW hfr y⟩, ?_⟩;unfold VsRd;exact⟨rfl,rfl⟩) q0Z z0E hFW
    refine hc1.mono ?_;rintro e w' ⟨F',v,fp,fo,rfl,hr,ho,hpost⟩;simp only[RRd,VRd]at hr;obtain⟨c0,hc0,hr⟩:=hr;simp only[K8]at hc0;subst hc0;unfold C.Rd at hr;obtain⟨rfl,rfl⟩:=hr;exact⟨by rw[hcv],a7x hpost.tape hpost.os hpost.out hpost.sz fun b hb=>hpost.fr b hb z0E⟩
   have hbig:l'.toArray.size<=cap:=by rw[q0J,hll];simpa using hb1
   have hrun:=R.run enc hkE h1E cm g eg b of cap l'.toArray w hcmp hH hbs hbig (by simpa[hll]using hl);have hKm:(keptUpTo (kpE cm l'.toArray) l'.toArray l'.toArray.size).map (·.x)=c0U eq l:=by
    rw[q0J,e1T (·.x) (eq:=eq) hcv l',q1]
   generalize hKK:keptUpTo (kpE cm l'.toArray) l'.toArray l'.toArray.size=K at hrun hKm;rw[q0J]at hrun;rw[show(List.map cf l).length=l'.length by rw[q0C,hll]];refine hrun.mono ?_;rintro e w' ⟨rfl,h⟩;rw[hz]at hsz;obtain⟨F',v,fp,fo,rfl,q⟩:=c5T hz hk hev hbl hsz hH0 q3 hnd hnf hF (by rw[q0J]at hbig;exact hbig) hb2 h hKK _;rw[hKm]at q;exact⟨F',_,fp,fo,rfl,q⟩
end Go.Aw
