/- Sorts: contracts out of the shelf. No condition. -/
import Derived.Test.YtkophkhamikaoaaGreatlBwtkb
import Derived.Shelf.Sort.Plain
import Derived.Shelf.Slices.In.SortNone
import Derived.Shelf.Slices.CompactI
import Derived.Shelf.Slices.CompactS
namespace Go.Aw
open Go.Proofs Go.Shelf Go.Sort
set_option linter.all false
variable{P:Program}{ρ:Ren}
def b6j{F:Nat->Prop}{w:World}:∀{l:List Int} {vs:List Value} {fp:List Nat},C.RdRows F w (l.map a0F) vs fp->vs=l.map (Value.int .i64)/\fp=[]/\∀n,n∈l->IntKind.i64.min<=n/\n<=IntKind.i64.max
 | [],vs,fp,h=>by
   unfold List.map C.RdRows at h;exact⟨h.1,h.2,z0E⟩
 | n::l,vs,fp,h=>by
   rw[q0D]at h;unfold C.RdRows at h;obtain⟨v1,v2,f1,f2,rfl,rfl,h1,h2⟩:=h;obtain⟨rfl,rfl,h3⟩:=b6j h2;unfold a0F C.RdVals at h1;obtain⟨v,vs',g1,g2,rfl,rfl,k1,k2⟩:=h1;unfold C.RdVals at k2;obtain⟨rfl,rfl⟩:=k2;unfold C.Rd at k1;obtain⟨rfl,k3,rfl⟩:=k1;refine⟨rfl,rfl,fun m hm=>?_⟩;rcases q0B.1 hm with rfl|hm
   ·exact k3
   ·exact h3 m hm
def b5s{F:Nat->Prop}{w:World}:∀{l:List Int},(∀n,n∈l->IntKind.i64.min<=n/\n<=IntKind.i64.max)->C.RdRows F w (l.map a0F) (l.map (Value.int .i64)) []
 | [],h=>by unfold List.map C.RdRows;exact⟨rfl,rfl⟩
 | n::l,h=>by
   rw[q0D,q0D];unfold C.RdRows;refine⟨[.int .i64 n],_,[],[],rfl,rfl, ?_,b5s fun m hm=>h m (by simp[hm])⟩;unfold a0F C.RdVals;refine⟨_,[],[],[],rfl,rfl, ?_, ?_⟩
   ·unfold C.Rd;exact⟨rfl,h n z0E,rfl⟩
   ·unfold C.RdVals;exact⟨rfl,rfl⟩
def a1B{w:World}{os:Array Obj}{b:Nat}(h:b<w.heap.size):(grow w os).heap[b]? = w.heap[b]?:=by
 simp only[grow];exact Array.getElem?_append_left h
def a6m{α:Type}[Inhabited α](enc:α->Value){w:World}{blk off:Nat}{d:Array α}{b:Nat}(h:b≠blk):(putRow enc w blk off d).heap[b]? = w.heap[b]?:=by
 simp only[putRow,mapBlock,q5E];rw[if_neg (fun e=>h e.symm)]
def a6W{α:Type}[Inhabited α](enc:α->Value){w:World}{blk off:Nat}{d:Array α}{c:Array Value}{e:TypeId}{fr:Nat×Nat}(h:w.heap[blk]? = some (.cells c e fr)):(putRow enc w blk off d).heap[blk]? = some (.cells (putCells enc off d c) e fr):=by
 simp only[putRow,mapBlock,q5E,h];simp[onCells]
def d1s{α:Type}[Inhabited α]{enc:α->Value}{cf:α->List C}{z:List C}{ok:α->Prop}{f:FuncId}{srt:List α->List α}(hz:z.length=1)(hcl:∀x,(cf x).length=1)
  (H1:∀(F:Nat->Prop) (w:World) (l:List α) vs fp,C.RdRows F w (l.map cf) vs fp->vs=l.map enc/\fp=[]/\∀x,x∈l->ok x)
  (H2:∀(F:Nat->Prop) (w:World) (l:List α),(∀x,x∈l->ok x)->C.RdRows F w (l.map cf) (l.map enc) [])
  (hlen:∀l,(srt l).length=l.length) (hmem:∀l x,x∈srt l->x∈l) (hc:F9 P f=true)
  (run:∀(blk off cap:Nat) (zs:List α) (w:World),Holds enc w blk off zs.toArray->blk<w.heap.size->zs.length<4611686018427387904->Calls P f #[.slice (some ⟨blk,off,none⟩) zs.length cap] w fun e w'=>e=.returned (.tuple #[])/\∃n os,w'=grow (putRow enc (Sort.ahead w n) blk off (srt zs).toArray) os)
  (run0:∀(p:Option Addr) (cap:Nat) (w:World),Calls P f #[.slice p 0 cap] w fun e w'=>e=.returned (.tuple #[])/\w'=w)
  (l:List α) (hl:l.length<4611686018427387904):A0e P f [(false,[.sl true z (l.map cf)])] [(0,(false,[.sl true z ((srt l).map cf)]))] (.tup []):=by
 unfold A0e;refine⟨hc, ?_⟩;intro F w vs fpa h hnd hnf hF;unfold VsRd at h;obtain⟨v,r,f1,f2,rfl,rfl,h,hr⟩:=h;unfold VsRd at hr;obtain⟨rfl,rfl⟩:=hr;simp only[VRd]at h;obtain⟨c,hc1,h⟩:=h;simp only[K8]at hc1;subst hc1;unfold C.Rd at h;obtain⟨a,cap,rfl,h1,h2,h3,h4⟩:=h;simp only[W8]at h4;rw[q0A]at hnd hnf ⊢;rcases h4 with⟨hcap,rfl⟩|⟨b,o,vs,fp',rfl,rfl,hob,hca,hrr⟩
 ·have hl0:l=[]:=q0L.1 (by simp at h1;omega);subst hl0;have hs:srt []=[]:=q0L.1 (by rw[hlen];rfl);refine(run0 a cap w).mono ?_;rintro e w' ⟨rfl,rfl⟩;refine⟨F,_,[],[],rfl,⟨[],rfl,z0P⟩,⟨[],[],rfl, ?_,rfl⟩,⟨fun _ h=>h,fun _ h=>.inl h,hF,q0Z,z0E,fun _ _ _=>rfl,q0F _,rfl,Tp.of rfl rfl,rfl⟩⟩;simp only[VRd];refine⟨_,rfl, ?_⟩;unfold C.Rd;rw[hs];exact⟨a,cap,rfl,h1,h2,z0E,.inl ⟨hcap,rfl⟩⟩
 ·obtain⟨rfl,rfl,hok⟩:=H1 _ _ _ _ _ hrr;obtain⟨cc,e0,hbl,hsz⟩:=hob;have hbs:b<w.heap.size:=(hnf b z0E).2;have hH:Holds enc w b o l.toArray:=by
   intro j hj;simp at hj;refine⟨?_, ?_⟩
   ·have:=hca j z1B;simp only[q3R]at this;rw[this];simp[hj]
   ·simp[World.frozen?,hbl]
  have hrun:=run b o cap l w hH hbs hl;rw[show(List.map cf l).length=l.length by simp];refine hrun.mono ?_;rintro e w' ⟨rfl,n,os,rfl⟩;have hsize:∀W:World,W=putRow enc (Sort.ahead w n) b o (srt l).toArray->W.heap.size=w.heap.size:=by rintro W rfl;simp[Sort.ahead]
  have hb1:(putRow enc (Sort.ahead w n) b o (srt l).toArray).heap[b]? = some (.cells (putCells enc o (srt l).toArray cc) e0 (0,0)):=a6W enc hbl;have hsz1:(putRow enc (Sort.ahead w n) b o (srt l).toArray).heap.size=w.heap.size:=hsize _ rfl;have hb2:(grow (putRow enc (Sort.ahead w n) b o (srt l).toArray) os).heap[b]? = some (.cells (putCells enc o (srt l).toArray cc) e0 (0,0)):=by rw[a1B z0D,hb1]
  have hle:w.heap.size<=(grow (putRow enc (Sort.ahead w n) b o (srt l).toArray) os).heap.size:=by
   have:(grow (putRow enc (Sort.ahead w n) b o (srt l).toArray) os).heap.size=(putRow enc (Sort.ahead w n) b o (srt l).toArray).heap.size+os.size:=by simp only[grow];exact q3P
   omega
  refine⟨F,_,[],[b],rfl,⟨[],rfl,z0P⟩,⟨[b],[],rfl, ?_,rfl⟩,⟨fun _ h=>h,fun _ h=>.inl h,fun x hx=>q1O (hF x hx) hle,z0E, ?_, ?_,hle,rfl,⟨rfl,q3U _ _⟩,rfl⟩⟩
  ·simp only[VRd];refine⟨_,rfl, ?_⟩;unfold C.Rd;refine⟨some ⟨b,o,none⟩,cap,z2P,by simpa[hlen]using h1,h2, ?_,.inr ⟨b,o,(srt l).map enc,[],rfl,rfl, ?_, ?_,H2 _ _ _ fun x hx=>hok x (hmem l x hx)⟩⟩
   ·intro r hr;obtain⟨x,_,rfl⟩:=q0R.1 hr;rw[hcl,hz]
   ·exact⟨_,e0,hb2,z1K⟩
   ·intro j hj;have hj':j<(srt l).length:=by simpa using hj
    have h0:=cell?_putRow enc (Sort.ahead w n) b o l.toArray (srt l).toArray hH z2P j (by simpa using hj');have e1:(grow (putRow enc (Sort.ahead w n) b o (srt l).toArray) os).cell? ⟨b,o+j,none⟩=(putRow enc (Sort.ahead w n) b o (srt l).toArray).cell? ⟨b,o+j,none⟩:=World.cell?_of_block (by rw[hb2,hb1]);rw[e1,h0];simp[hj']
  ·intro x hx;simp only[q1J,q0E]at hx;subst hx;exact⟨(hnf x z0E).1,.inl z0E,z0D⟩
  ·intro x hx hn;have:x≠b:=fun e=>hn (by simp[e])
   rw[a1B z0D,a6m enc this];rfl
def c6n{α:Type}[Inhabited α]{enc:α->Value}{cf:α->List C}{z:List C}{ok:α->Prop}{f:FuncId}{srt:List α->List α}{zer:α}(hz:z.length=1)(hcl:∀x,(cf x).length=1)
  (H1:∀(F:Nat->Prop) (w:World) (l:List α) vs fp,C.RdRows F w (l.map cf) vs fp->vs=l.map enc/\fp=[]/\∀x,x∈l->ok x)
  (H2:∀(F:Nat->Prop) (w:World) (l:List α),(∀x,x∈l->ok x)->C.RdRows F w (l.map cf) (l.map enc) [])
  (hlen:∀l,(srt l).length<=l.length) (hmem:∀l x,x∈srt l->x∈l) (hc:F9 P f=true)
  (run:∀(blk off cap:Nat) (zs:List α) (w:World),Holds enc w blk off zs.toArray->blk<w.heap.size->zs.length<=9223372036854775807->zs.length<=cap->Calls P f #[.slice (some ⟨blk,off,none⟩) zs.length cap] w fun e w'=>e=.returned (.slice (some ⟨blk,off,none⟩) (srt zs).length cap)/\∃n,w'=putRow enc (Sort.ahead w n) blk off (srt zs++List.replicate (zs.length-(srt zs).length) zer).toArray)
  (run0:∀(p:Option Addr) (cap:Nat) (w:World),Calls P f #[.slice p 0 cap] w fun e w'=>e=.returned (.slice p 0 cap)/\w'=w)
  (l:List α):A0e P f [(false,[.sl true z (l.map cf)])] [] (.one (false,[.sl true z ((srt l).map cf)])):=by
 unfold A0e;refine⟨hc, ?_⟩;intro F w vs fpa h hnd hnf hF;unfold VsRd at h;obtain⟨v,r,f1,f2,rfl,rfl,h,hr⟩:=h;unfold VsRd at hr;obtain⟨rfl,rfl⟩:=hr;simp only[VRd]at h;obtain⟨c,hc1,h⟩:=h;simp only[K8]at hc1;subst hc1;unfold C.Rd at h;obtain⟨a,cap,rfl,h1,h2,h3,h4⟩:=h;simp only[W8]at h4;rw[q0A]at hnd hnf ⊢;rcases h4 with⟨hcap,rfl⟩|⟨b,o,vs,fp',rfl,rfl,hob,hca,hrr⟩
 ·have hl0:l=[]:=q0L.1 (by simp at h1;omega);subst hl0;have hs:srt []=[]:=q0L.1 (by have:=hlen [];simpa using this);refine(run0 a cap w).mono ?_;rintro e w' ⟨rfl,rfl⟩;refine⟨F,_,[],[],rfl, ?_,rfl,⟨fun _ h=>h,fun _ h=>.inl h,hF,q0Z,z0E,fun _ _ _=>rfl,q0F _,rfl,Tp.of rfl rfl,rfl⟩⟩;simp only[RRd,VRd];refine⟨_,rfl, ?_⟩;unfold C.Rd;rw[hs];exact⟨a,cap,rfl,h1,h2,z0E,.inl ⟨hcap,rfl⟩⟩
 ·obtain⟨rfl,rfl,hok⟩:=H1 _ _ _ _ _ hrr;obtain⟨cc,e0,hbl,hsz⟩:=hob;have hbs:b<w.heap.size:=(hnf b z0E).2;have hlc:l.length<=cap:=by simpa using h1
  have hH:Holds enc w b o l.toArray:=by
   intro j hj;simp at hj;refine⟨?_, ?_⟩
   ·have:=hca j z1B;simp only[q3R]at this;rw[this];simp[hj]
   ·simp[World.frozen?,hbl]
  have hrun:=run b o cap l w hH hbs (by simp only[maxLen]at h2;omega) hlc;rw[show(List.map cf l).length=l.length by simp];refine hrun.mono ?_;rintro e w' ⟨rfl,n,rfl⟩;have hll:=hlen l;generalize hD:(srt l++List.replicate (l.length-(srt l).length) zer).toArray=D;have hDs:D.size=l.length:=by rw[<-hD];simp;omega
  have hb1:(putRow enc (Sort.ahead w n) b o D).heap[b]? = some (.cells (putCells enc o D cc) e0 (0,0)):=a6W enc hbl;have hsz1:(putRow enc (Sort.ahead w n) b o D).heap.size=w.heap.size:=by simp[Sort.ahead]
  refine⟨F,_,[b],[],rfl, ?_,rfl,⟨fun _ h=>h,fun _ h=>.inl h,fun x hx=>by rw[hsz1];exact hF x hx,z0E, ?_, ?_,by rw[hsz1];exact q0F _,rfl,⟨rfl,q3U _ _⟩,rfl⟩⟩
  ·simp only[RRd,VRd];refine⟨_,rfl, ?_⟩;unfold C.Rd;refine⟨some ⟨b,o,none⟩,cap,z0E,z0X,h2, ?_,.inr ⟨b,o,(srt l).map enc,[],rfl,rfl, ?_, ?_,H2 _ _ _ fun x hx=>hok x (hmem l x hx)⟩⟩
   ·intro r hr;obtain⟨x,_,rfl⟩:=q0R.1 hr;rw[hcl,hz]
   ·exact⟨_,e0,hb1,z1K⟩
   ·intro j hj;have hj':j<(srt l).length:=by simpa using hj
    have h0:=cell?_putRow enc (Sort.ahead w n) b o l.toArray D hH (by rw[hDs];simp) j z0D;rw[h0,<-hD];simp[q4N,hj',show j<(srt l).length+(l.length-(srt l).length) by omega]
  ·intro x hx;simp only[q0A,q0E]at hx;subst hx;exact⟨(hnf x z0E).1,.inl z0E,z0D⟩
  ·intro x hx hn;have:x≠b:=fun e=>hn (by simp[e])
   rw[a6m enc this];rfl
def a6Y{F:Nat->Prop}{w:World}:∀{l:List (List UInt8)} {vs:List Value} {fp:List Nat},C.RdRows F w (l.map a0M) vs fp->vs=l.map encStr/\fp=[]/\∀n,n∈l->n.length<=maxLen
 | [],vs,fp,h=>by
   unfold List.map C.RdRows at h;exact⟨h.1,h.2,z0E⟩
 | n::l,vs,fp,h=>by
   rw[q0D]at h;unfold C.RdRows at h;obtain⟨v1,v2,f1,f2,rfl,rfl,h1,h2⟩:=h;obtain⟨rfl,rfl,h3⟩:=a6Y h2;unfold a0M C.RdVals at h1;obtain⟨v,vs',g1,g2,rfl,rfl,k1,k2⟩:=h1;unfold C.RdVals at k2;obtain⟨rfl,rfl⟩:=k2;unfold C.Rd at k1;obtain⟨rfl,k3,rfl⟩:=k1;refine⟨rfl,rfl,fun m hm=>?_⟩;rcases q0B.1 hm with rfl|hm
   ·exact k3
   ·exact h3 m hm
def b0d{F:Nat->Prop}{w:World}:∀{l:List (List UInt8)},(∀n,n∈l->n.length<=maxLen)->C.RdRows F w (l.map a0M) (l.map encStr) []
 | [],h=>by unfold List.map C.RdRows;exact⟨rfl,rfl⟩
 | n::l,h=>by
   rw[q0D,q0D];unfold C.RdRows;refine⟨[encStr n],_,[],[],rfl,rfl, ?_,b0d fun m hm=>h m (by simp[hm])⟩;unfold a0M C.RdVals;refine⟨_,[],[],[],rfl,rfl, ?_, ?_⟩
   ·unfold C.Rd;exact⟨rfl,h n z0E,rfl⟩
   ·unfold C.RdVals;exact⟨rfl,rfl⟩
def b4c(l:List Int):List Int:=l.mergeSort fun x y=>decide (x<=y)
def b4d(l:List (List UInt8)):List (List UInt8):=l.mergeSort fun x y=>decide (x<=y)
def d9p(Ly:Lays.n189 P ρ)(hc:F9 P (ρ.f 189)=true)(l:List Int)(hl:l.length<4611686018427387904):
  A0e P (ρ.f 189) [(false,[.sl true [.i .i64 0] (l.map a0F)])] [(0,(false,[.sl true [.i .i64 0] ((b4c l).map a0F)]))] (.tup []):=
 d1s (enc:=Value.int .i64) (ok:=fun n=>IntKind.i64.min<=n/\n<=IntKind.i64.max) (srt:=b4c) rfl (fun _=>rfl) (fun _ _ _ _ _ h=>b6j h) (fun _ _ _ h=>b5s h)
  (fun l=>List.length_mergeSort l) (fun l x h=>(List.mergeSort_perm l _).mem_iff.1 h) hc (fun blk off cap zs w hH hb hz=>Any.slices_Sort_int Ly blk off cap zs w hH hb hz) (fun p cap w=>Any.slices_Sort_int_none Ly p cap w) l hl
def d9r(Ly:Lays.n190 P ρ)(hc:F9 P (ρ.f 190)=true)(l:List (List UInt8))(hl:l.length<4611686018427387904):
  A0e P (ρ.f 190) [(false,[.sl true [.s []] (l.map a0M)])] [(0,(false,[.sl true [.s []] ((b4d l).map a0M)]))] (.tup []):=
 d1s (enc:=encStr) (ok:=fun n=>n.length<=maxLen) (srt:=b4d) rfl (fun _=>rfl) (fun _ _ _ _ _ h=>a6Y h) (fun _ _ _ h=>b0d h)
  (fun l=>List.length_mergeSort l) (fun l x h=>(List.mergeSort_perm l _).mem_iff.1 h) hc (fun blk off cap zs w hH hb hz=>Any.slices_Sort_string Ly blk off cap zs w hH hb hz) (fun p cap w=>Any.slices_Sort_string_none Ly p cap w) l hl
def a9w{α:Type}[Inhabited α][DecidableEq α](l:List α):(Lib.compact l).length<=l.length:=by
 unfold Lib.compact Lib.compactUpTo;rw[q0C];exact q3B (q1F _ _) z0E
def b6E{α:Type}[Inhabited α][DecidableEq α](l:List α)(x:α)(h:x∈Lib.compact l):x∈l:=by
 unfold Lib.compact Lib.compactUpTo at h;obtain⟨i,hi,rfl⟩:=q0R.1 h;have:=(q0N.1 hi).1;rw[q4J]at this;simp[this]
def c7i(Ly:Lays2.n20 P ρ)(hc:F9 P (ρ.f 20)=true)(l:List Int):
  A0e P (ρ.f 20) [(false,[.sl true [.i .i64 0] (l.map a0F)])] [] (.one (false,[.sl true [.i .i64 0] ((Lib.compact l).map a0F)])):=
 c6n (enc:=Value.int .i64) (ok:=fun n=>IntKind.i64.min<=n/\n<=IntKind.i64.max) (srt:=Lib.compact) (zer:=0) rfl (fun _=>rfl) (fun _ _ _ _ _ h=>b6j h) (fun _ _ _ h=>b5s h)
  a9w b6E hc (fun blk off cap zs w hH hb hz hcp=>Any.slices_Compact_int Ly blk off cap zs w hH hz hcp) (fun p cap w=>Any.slices_Compact_int_empty Ly p cap w) l
def c7k(Ly:Lays.n194 P ρ)(hc:F9 P (ρ.f 194)=true)(l:List (List UInt8)):
  A0e P (ρ.f 194) [(false,[.sl true [.s []] (l.map a0M)])] [] (.one (false,[.sl true [.s []] ((Lib.compact l).map a0M)])):=
 c6n (enc:=encStr) (ok:=fun n=>n.length<=maxLen) (srt:=Lib.compact) (zer:=[]) rfl (fun _=>rfl) (fun _ _ _ _ _ h=>a6Y h) (fun _ _ _ h=>b0d h)
  a9w b6E hc (fun blk off cap zs w hH hb hz hcp=>Any.slices_Compact_string Ly blk off cap zs w hH hz hcp) (fun p cap w=>Any.slices_Compact_string_empty Ly p cap w) l
end Go.Aw
