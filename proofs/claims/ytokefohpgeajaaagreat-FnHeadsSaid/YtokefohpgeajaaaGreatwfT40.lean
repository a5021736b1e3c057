/- Equalities bind; what holds; the bodies: the mathematics. No condition. -/
import Derived.Test.YtokefohpgeajaaaGreatwfT30
import Derived.Test.YtokefohpgeajaaaGreatrBx15wf
import Derived.Test.YtokefohpgeajaaaGreatrBx14wf
namespace Go.Aw
set_option maxHeartbeats 4000000
open Go.Proofs
set_option linter.all false
set_option maxRecDepth 100000
def eqS(l:d7)(b:List c4):List c4:=bif a0y l then(bif (k8 ⟨b⟩ l.A).2 then(bif (k8 ⟨b⟩ l.B).2 then b else a0S b l.B.Var (k8 ⟨b⟩ l.A).1)else(bif (k8 ⟨b⟩ l.B).2 then a0S b l.A.Var (k8 ⟨b⟩ l.B).1 else b))else b
def eqP(r:c6)(b:List c4):Nat->List c4
 | 0=>b
 | n+1=>eqS (r.Body.getD n default) (eqP r b n)
def a4x(r:c6)(b:List c4):List c4:=eqP r b r.Body.length
def eqI(r:c6)(b:List c4):Nat->List c4
 | 0=>b
 | k+1=>a4x r (eqI r b k)
def IsEq(r:c6)(b c:List c4):Prop:=∃k,eqI r b k=c/\a4x r c=c
def b4s{r:c6}{b c:List c4}{k:Nat}(h:eqI r b k=c)(hp:a4x r c=c):∀m,eqI r b (k+m)=c
 | 0=>h
 | m+1=>by rw[show k+(m+1)=(k+m)+1 from rfl,eqI,b4s h hp m,hp]
def IsEq.uniq{r:c6}{b c d:List c4}(h1:IsEq r b c)(h2:IsEq r b d):c=d:=by
 obtain⟨k,h1,p1⟩:=h1;obtain⟨m,h2,p2⟩:=h2;have a:=b4s h1 p1 m;have b:=b4s h2 p2 k;rw[q3K]at b;exact a.symm.trans b
open Classical in
noncomputable def eqR(r:c6)(b:List c4):List c4:=if h:∃c,IsEq r b c then Classical.choose h else b
def b9c{r:c6}{b c:List c4}(h:IsEq r b c):eqR r b=c:=by
 have hx:∃c,IsEq r b c:=⟨c,h⟩
 rw[eqR,dif_pos hx];exact(q5I hx).uniq h
inductive EqStep(l:d7)(b:List c4):List c4->Prop
 | same:EqStep l b b
 | right:a0y l=true->(k8 ⟨b⟩ l.A).2=true->(k8 ⟨b⟩ l.B).2=false->EqStep l b (a0S b l.B.Var (k8 ⟨b⟩ l.A).1)
 | left:a0y l=true->(k8 ⟨b⟩ l.B).2=true->(k8 ⟨b⟩ l.A).2=false->EqStep l b (a0S b l.A.Var (k8 ⟨b⟩ l.B).1)
def a2L(l:d7)(b:List c4):EqStep l b (eqS l b):=by
 rw[eqS];cases h0:a0y l with
 | false=>exact .same
 | true=>
   cases h1:(k8 ⟨b⟩ l.A).2 with
   | true=>
     cases h2:(k8 ⟨b⟩ l.B).2 with
     | true=>exact .same
     | false=>exact .right h0 h1 h2
   | false=>
     cases h2:(k8 ⟨b⟩ l.B).2 with
     | true=>exact .left h0 h2 h1
     | false=>exact .same
def b7O{l:d7}{b:List c4}(h0:a0y l=true)(h1:(k8 ⟨b⟩ l.A).2=true)(h2:(k8 ⟨b⟩ l.B).2=false):eqS l b=a0S b l.B.Var (k8 ⟨b⟩ l.A).1:=by rw[eqS,h0,h1,h2];rfl
def c1h{l:d7}{b:List c4}(h0:a0y l=true)(h1:(k8 ⟨b⟩ l.B).2=true)(h2:(k8 ⟨b⟩ l.A).2=false):eqS l b=a0S b l.A.Var (k8 ⟨b⟩ l.B).1:=by rw[eqS,h0,h1,h2];rfl
def c1i{l:d7}{b:List c4}(h0:a0y l=false):eqS l b=b:=by rw[eqS,h0];rfl
def EqStep.len{l:d7}{b c:List c4}(h:EqStep l b c):c=b\/c.length=b.length+1:=by
 cases h with
 | same=>exact .inl rfl
 | right _ _ _=>exact .inr (a2O _ _ _)
 | left _ _ _=>exact .inr (a2O _ _ _)
def b9b(r:c6)(b:List c4):∀n,eqP r b n=b\/b.length<(eqP r b n).length
 | 0=>.inl rfl
 | n+1=>by
   have h1:=b9b r b n;have h2:=(a2L (r.Body.getD n default) (eqP r b n)).len;rw[eqP];rcases h1 with h1|h1
   ·rw[h1]at h2 ⊢;rcases h2 with h2|h2
    ·exact .inl h2
    ·exact .inr (by omega)
   ·rcases h2 with h2|h2
    ·rw[h2];exact .inr h1
    ·exact .inr (by omega)
def b8d{r:c6}{b:List c4}(h:(a4x r b).length<=b.length):a4x r b=b:=by
 rcases b9b r b r.Body.length with h1|h1
 ·exact h1
 ·rw[a4x]at h;omega
def b3d{r:c6}{l:d7}(hl:l∈r.Body){t:d4}(ht:t=l.A\/t=l.B)(hv:(t.Var==[])=false):t.Var∈a2n r:=by
 refine q2I.2 ⟨l,hl,W9.2 (.inr (y5.2 ⟨t, ?_,by rw[a0a,hv];rfl,rfl⟩))⟩;rcases ht with rfl|rfl
 ·exact q4O
 ·exact q2N _ (q0D.2 rfl)
def c1A{r:c6}{b:List c4}{v:List UInt8}(x:d5)(hv:v∈a2n r)(hn:(y4 ⟨b⟩ v).2=false):miss r ((a0S b v x).map c4.Var)<miss r (b.map c4.Var):=by
 have hm:=a3Y hn;refine b0x (fun y hy=>?_) ⟨v,hv, ?_, ?_⟩
 ·simp only[q0U,q4T,q2K]at hy ⊢;intro h;rw[a1S x hm]at hy;exact hy (a2i.2 (.inr h))
 ·simp only[q0U,q4T,q2K];exact hm
 ·simp only[q1K,q4T,q0B];rw[a1S x hm];exact a2i.2 (.inl rfl)
def EqStep.miss{r:c6}{l:d7}{b c:List c4}(hl:l∈r.Body)(h:EqStep l b c):c=b\/(c.length=b.length+1/\miss r (c.map c4.Var)<miss r (b.map c4.Var)):=by
 cases h with
 | same=>exact .inl rfl
 | right _ _ h=>
   have h2:=a0n h;exact .inr ⟨a2O _ _ _,c1A _ (b3d hl (.inr rfl) h2.1) h2.2⟩
 | left _ _ h=>
   have h2:=a0n h;exact .inr ⟨a2O _ _ _,c1A _ (b3d hl (.inl rfl) h2.1) h2.2⟩
def a3D{r:c6}{b:List c4}:∀{n:Nat},n<=r.Body.length->(eqP r b n).length+miss r ((eqP r b n).map c4.Var)<=b.length+miss r (b.map c4.Var)/\(eqP r b n=b\/miss r ((eqP r b n).map c4.Var)<miss r (b.map c4.Var))
 | 0,_=>⟨q0A _,.inl rfl⟩
 | n+1,hn=>by
   obtain⟨i1,i2⟩:=a3D (r:=r) (b:=b) (n:=n) (by omega);have hm:r.Body.getD n default∈r.Body:=by rw[n8 default (by omega)];exact q0T _
   rw[eqP];rcases(a2L (r.Body.getD n default) (eqP r b n)).miss hm with h|⟨h1,h2⟩
   ·rw[h];exact⟨i1,i2⟩
   ·refine⟨by omega,.inr ?_⟩;rcases i2 with i2|i2
    ·rw[i2]at h2 ⊢;exact h2
    ·omega
def EqStep.ext{l:d7}{b c:List c4}(h:EqStep l b c):ExtB b c:=by
 cases h with
 | same=>exact ExtB.refl _
 | right _ _ h=>exact fun s x hs=>hs.set (a0n h).2
 | left _ _ h=>exact fun s x hs=>hs.set (a0n h).2
def c5o(r:c6)(b:List c4):∀n,ExtB b (eqP r b n)
 | 0=>ExtB.refl _
 | n+1=>(c5o r b n).trans (a2L _ _).ext
def c5m(r:c6)(b:List c4):∀k,ExtB b (eqI r b k)
 | 0=>ExtB.refl _
 | k+1=>(c5m r b k).trans (c5o r _ _)
def b5Z{b:List c4}{t:d4}(h:EnvS b)(ht:s6 t=true)(hv:(k8 ⟨b⟩ t).2=true):k9 (k8 ⟨b⟩ t).1=true:=by
 rw[k8]at hv ⊢;cases hn:t.Var==[]with
 | true=>
   rw[s6,hn]at ht;simp only[q4D,W6,W7]at ht;exact ht.1
 | false=>
   rw[hn,W6]at hv;rw[W6];rw[a2v]at hv ⊢;cases hf:b.find? (fun x=>x.Var==t.Var)with
   | none=>rw[hf]at hv;cases hv
   | some y=>exact(h.1 y (List.mem_of_find?_eq_some hf)).2
def EqStep.ok{r:c6}{l:d7}{b c:List c4}(hr:l4 r=true)(hl:l∈r.Body)(h:EqStep l b c)(hb:EnvS b):EnvS c:=by
 have hlit:a0y l=true->s6 l.A=true/\s6 l.B=true:=by
  intro he;simp only[l4,W7,q0S]at hr;have:=hr.2 l hl;simp only[a0y,W7]at he;rw[a1U,he.1,W4]at this;simp only[W7]at this;exact⟨this.1.2,this.2⟩
 cases h with
 | same=>exact hb
 | right h0 h1 h2=>exact hb.set (b5V (hlit h0).2 (a0n h2).1) (b5Z hb (hlit h0).1 h1) (a0n h2).2
 | left h0 h1 h2=>exact hb.set (b5V (hlit h0).1 (a0n h2).1) (b5Z hb (hlit h0).2 h1) (a0n h2).2
def c9D{r:c6}{b:List c4}(hr:l4 r=true)(hb:EnvS b):∀{n:Nat},n<=r.Body.length->EnvS (eqP r b n)
 | 0,_=>hb
 | n+1,hn=>(a2L _ _).ok hr (by rw[n8 default (by omega)];exact q0T _) (c9D hr hb (by omega))
def c9C{r:c6}{b:List c4}(hr:l4 r=true)(hb:EnvS b):∀k,EnvS (eqI r b k)
 | 0=>hb
 | k+1=>c9D hr (c9C hr hb k) (q0A _)
def b4r{r:c6}{b:List c4}:∀k,(eqI r b k).length+miss r ((eqI r b k).map c4.Var)<=b.length+miss r (b.map c4.Var)
 | 0=>q0A _
 | k+1=>q2J (a3D (q0A _)).1 (b4r k)
def c5w(r:c6):∀(m:Nat) (b:List c4),miss r (b.map c4.Var)<=m->∃c,IsEq r b c
 | 0,b,h=>⟨b,0,rfl,by
   rcases(a3D (r:=r) (b:=b) (q0A _)).2 with h1|h1
   ·exact h1
   ·omega⟩
 | m+1,b,h=>by
   rcases(a3D (r:=r) (b:=b) (q0A _)).2 with h1|h1
   ·exact⟨b,0,rfl,h1⟩
   ·obtain⟨c,k,h2,h3⟩:=c5w r m (a4x r b) (by rw[a4x];omega);refine⟨c,k+1, ?_,h3⟩;have key:∀k,eqI r (a4x r b) k=eqI r b (k+1):=by
     intro k
     induction k with
     | zero=>rfl
     | succ k ih=>rw[eqI,ih];rfl
    rw[<-key];exact h2
def b0v(r:c6)(b:List c4):IsEq r b (eqR r b):=by
 obtain⟨c,h⟩:=c5w r _ b (q0A _);rw[b9c h];exact h
def b3b(r:c6)(b:List c4):ExtB b (eqR r b):=by
 obtain⟨k,h,_⟩:=b0v r b;rw[<-h];exact c5m r b k
def c3K{r:c6}{b:List c4}(hr:l4 r=true)(hb:EnvS b):EnvS (eqR r b):=by
 obtain⟨k,h,_⟩:=b0v r b;rw[<-h];exact c9C hr hb k
def eqR_len(r:c6)(b:List c4):(eqR r b).length<=b.length+(a2n r).length:=by
 obtain⟨k,h,_⟩:=b0v r b;have:=b4r (r:=r) (b:=b) k;have:=b3e r (b.map c4.Var);rw[h]at*;omega
def domE(l:d7)(vs:List (List UInt8)):List (List UInt8):=bif a0y l then(bif u3 vs l.A then(bif u3 vs l.B then vs else a0f Op.bytesLess vs l.B.Var)else(bif u3 vs l.B then a0f Op.bytesLess vs l.A.Var else vs))else vs
def a4d(b:List c4)(t:d4):(k8 ⟨b⟩ t).2=u3 (b.map c4.Var) t:=by
 rw[k8,u3];cases t.Var==[]with
 | true=>rfl
 | false=>
   rw[W6,q3E];rw[q3R,d0n,q1Q]
def b9d(l:d7)(b:List c4):(eqS l b).map c4.Var=domE l (b.map c4.Var):=by
 rw[eqS,domE];cases a0y l with
 | false=>rfl
 | true=>
   rw[W4,W4,<-a4d,<-a4d];cases h1:(k8 ⟨b⟩ l.A).2 with
   | true=>
     cases h2:(k8 ⟨b⟩ l.B).2 with
     | true=>rfl
     | false=>exact a1S _ (a3Y (a0n h2).2)
   | false=>
     cases h2:(k8 ⟨b⟩ l.B).2 with
     | true=>exact a1S _ (a3Y (a0n h1).2)
     | false=>rfl
def b9a{r:c6}{b c:List c4}(h:b.map c4.Var=c.map c4.Var):∀n,(eqP r b n).map c4.Var=(eqP r c n).map c4.Var
 | 0=>h
 | n+1=>by rw[eqP,eqP,b9d,b9d,b9a h n]
def c5l{r:c6}{b c:List c4}(h:b.map c4.Var=c.map c4.Var):∀n,(eqI r b n).map c4.Var=(eqI r c n).map c4.Var
 | 0=>h
 | n+1=>b9a (c5l h n) _
def d0s{r:c6}{b c:List c4}(h:b.map c4.Var=c.map c4.Var)(hc:a4x r c=c):a4x r b=b:=by
 refine b8d ?_;have h1:=congrArg List.length (b9a (r:=r) h r.Body.length);have h2:=congrArg List.length h;simp only[q0H]at h1 h2;rw[a4x]at hc ⊢;rw[hc]at h1;omega
def eqR_dom{r:c6}{b c:List c4}(h:b.map c4.Var=c.map c4.Var):(eqR r b).map c4.Var=(eqR r c).map c4.Var:=by
 obtain⟨k,h1,p1⟩:=b0v r b;have h2:=c5l (r:=r) h k;rw[h1]at h2;have p2:a4x r (eqI r c k)=eqI r c k:=d0s h2.symm p1;rw[b9c (c:=eqI r c k) ⟨k,rfl,p2⟩,h2]
def b0R(s:d6)(e:c9)(l:d7):Bool:=bif l.Kind==2 then !a1x (a0u s l.Atom.Name).1.Rows (v8 e l.Atom.Args).1 else bif l.Kind==3 then z5 l.Op (k8 e l.A).1 (k8 e l.B).1 else true
def b5C(s:d6)(e:c9)(l:d7):Bool:=bif l.Kind==3 then z5 l.Op (k8 e l.A).1 (k8 e l.B).1 else a1x (a0u s l.Atom.Name).1.Rows (v8 e l.Atom.Args).1==(l.Kind==1)
def a3F(r:c6)(s:d6)(e:c9):Bool:=r.Body.all (b0R s e)
def a6U(r:c6)(s:d6)(e:c9):Bool:=r.Body.all (b5C s e)
def Rooted(s:d6)(e:c9)(l:d7):Prop:=(l.Kind==1)=true->∃row∈(a0u s l.Atom.Name).1.Rows,l.Atom.Args.length=row.V.length/\∀i,i<l.Atom.Args.length->Back e.Binds (l.Atom.Args.getD i default) (row.V.getD i default)
def Rooted.ext{s:d6}{e c:c9}{l:d7}(h:Rooted s e l)(he:ExtB e.Binds c.Binds):Rooted s c l:=fun hk=>by
 obtain⟨row,h1,h2,h3⟩:=h hk;exact⟨row,h1,h2,fun i hi=>he _ _ (h3 i hi)⟩
def Rooted.has{s:d6}{e:c9}{l:d7}(h:Rooted s e l)(hk:(l.Kind==1)=true):a1x (a0u s l.Atom.Name).1.Rows (v8 e l.Atom.Args).1=true:=by
 obtain⟨row,h1,h2,h3⟩:=h hk;rw[show v8 e l.Atom.Args=(row,true)from b0w h2 h3,a1x,q3T];exact⟨row,h1,by simp⟩
def d0h{r:c6}(hr:l4 r=true){l:d7}(hl:l∈r.Body):l.Kind=1\/l.Kind=2\/l.Kind=3:=by
 simp only[l4,W7,q0S]at hr;have:=hr.2 l hl;rw[a1U]at this;cases h:l.Kind==3 with
 | true=>exact .inr (.inr (by simpa using h))
 | false=>
   rw[h]at this;simp only[W6,W7,q2B,beq_iff_eq]at this;omega
def c9O{r:c6}{s:d6}{e:c9}(hr:l4 r=true)(h:∀l∈r.Body,Rooted s e l):a6U r s e=a3F r s e:=by
 rw[a6U,a3F,q3R,q0S,q0S];refine forall_congr' fun l=>forall_congr' fun hl=>?_
 rw[b5C,b0R];rcases d0h hr hl with hk|hk|hk
 ·have:=(h l hl).has (by rw[hk];rfl);rw[this,hk];simp
 ·rw[hk];cases a1x (a0u s l.Atom.Name).1.Rows (v8 e l.Atom.Args).1<;>simp
 ·rw[hk];exact Iff.rfl
def b5P{r:c6}(hr:l4 r=true){l:d7}(hl:l∈r.Body)(hk:(l.Kind==3)=false):l.Atom.Args.all s6=true/\l.Atom.Args.length<=6:=by
 simp only[l4,W7,q0S]at hr;have:=hr.2 l hl;rw[a1U,hk,W6]at this;simp only[a2Y,W7,q0B]at this;obtain⟨⟨⟨⟨_,⟨⟨_,h6⟩,hall⟩⟩,_⟩,_⟩,_⟩:=this;exact⟨hall,by omega⟩
def a7s{v:d6}(h:u7 v=true)(n:List UInt8):a0v (a0u v n).1=true:=by
 unfold a0u;split
 ·rename_i h0;have hl:=idxL_lt (p:=fun x:d8=>x.Name==n) (l:=v.Rels);have hm:(a5U (fun x:d8=>x.Name==n) v.Rels).toNat<v.Rels.length:=by omega
  have:=c2b h _ (q0T hm);simp only[n8 default hm];exact this
 ·rfl
def b8k{r:f5}(h:a0v r=true):r.Rows.Nodup:=by
 refine q3I.2 fun i j hi hj hij e=>?_
 have:=c4c h hij hj;rw[n8 default hi,n8 default hj,e,b8g]at this;omega
structure Jn(r:c6)(s:d6)(n:Nat)(l:List c9):Prop where
 alk:∃vs,Alk vs l
 root:∀e∈l,∀i,i<n->Rooted s e (r.Body.getD i default)
 len:∀e∈l,e.Binds.length<=6*n
def Jn.all{r:c6}{s:d6}(hr:l4 r=true)(hs:u7 s=true):∀{n:Nat} {l:List c9},n<=r.Body.length->a0z r s n=some l->Jn r s n l
 | 0,l,_,h=>by
   simp only[a0z,W0]at h;subst h;refine⟨⟨[],by simp,fun e he=>?_,fun e he=>?_⟩,fun e _ i hi=>by omega,fun e he=>?_⟩
   ·rw[q0D.1 he];exact⟨by simp,SS.nil⟩
   ·rw[q0D.1 he];rfl
   ·rw[q0D.1 he];simp
 | n+1,l,hn,h=>by
   have hm:r.Body.getD n default∈r.Body:=by rw[n8 default (by omega)];exact q0T _
   rw[a0z]at h;obtain⟨d,h1,h2⟩:=q1W.1 h;have ih:=Jn.all hr hs (by omega) h1;cases hk:(r.Body.getD n default).Kind==1 with
   | false=>
     rw[hk,W6,W0]at h2;subst h2;refine⟨ih.alk,fun e he i hi=>?_,fun e he=>by have:=ih.len e he;omega⟩;rcases q2X i n with h3|h3
     ·exact ih.root e he i h3
     ·obtain rfl:i=n:=by omega
      intro h4;rw[hk]at h4;cases h4
   | true=>
     rw[hk,W4]at h2;have h3:((r.Body.getD n default).Kind==3)=false:=by rw[beq_iff_eq]at hk;rw[hk];rfl
     obtain⟨ha,ha6⟩:=b5P hr hm h3;have hR:=a7s hs (r.Body.getD n default).Atom.Name;by_cases hl:(w5 (r.Body.getD n default).Atom.Args (a0u s (r.Body.getD n default).Atom.Name).1.Rows d).length<=2000
     ·rw[V0 hl,W4,W0]at h2;subst h2;obtain⟨vs,halk⟩:=ih.alk;refine⟨⟨_,halk.stage ha (b8k hR) fun x hx=>?_⟩,fun e he i hi=>?_,fun e he=>?_⟩
      ·obtain⟨i,hi,rfl⟩:=q2Y hx;have:=a3g hR hi;rw[n8 default hi]at this;exact q0S.2 this
      ·obtain⟨e0,he0,hc⟩:=q2I.1 he;obtain⟨row,hrow,hf⟩:=q3V.1 hc;have ff:=a2h hf;rcases q2X i n with h4|h4
       ·exact(ih.root e0 he0 i h4).ext ff.ext
       ·obtain rfl:i=n:=by omega
        exact fun _=>⟨row,hrow,ff.len,ff.back⟩
      ·obtain⟨e0,he0,hc⟩:=q2I.1 he;obtain⟨row,hrow,hf⟩:=q3V.1 hc;have ff:=a2h hf;have:=ff.lenB;have:=ih.len e0 he0;omega
     ·rw[V3 hl]at h2;cases h2
noncomputable def eqE(r:c6)(e:c9):c9:=⟨eqR r e.Binds⟩
noncomputable def a4w(r:c6)(s:d6)(l:List c9):List c9:=(l.map (eqE r)).filter (a3F r s)
noncomputable def l7(r:c6)(s:d6):List c9×Bool:=bif (a0H r s).2 then(t8 z9 [] (a4w r s (a0H r s).1),true)else([],false)
def c1I{r:c6}{s:d6}{vs:List (List UInt8)}{l:List c9}(hr:l4 r=true)(h:Alk vs l):∃ws,Alk ws (a4w r s l):=by
 have h0:∃ws,Alk ws (l.map (eqE r)):=by
  have hd:∀e∈l,∀e'∈l,(eqR r e.Binds).map c4.Var=(eqR r e'.Binds).map c4.Var:=fun e he e' he'=>eqR_dom ((h.dom e he).trans (h.dom e' he').symm)
  refine⟨((l.map (eqE r)).getD 0 default).Binds.map c4.Var, ?_,fun c hc=>?_,fun c hc=>?_⟩
  ·unfold List.Nodup;rw[List.pairwise_map];refine List.Pairwise.imp_of_mem ?_ h.nd;intro e e' he he' hne heq;have h1:eqR r e.Binds=eqR r e'.Binds:=congrArg c9.Binds heq;have h2:=b3b r e'.Binds;rw[<-h1]at h2;have:=c5p (h.ok e he) (h.ok e' he') ((h.dom e he).trans (h.dom e' he').symm) (b3b r e.Binds) h2;exact hne (by cases e;cases e';simp_all)
  ·obtain⟨e,he,rfl⟩:=q1E.1 hc;exact c3K hr (h.ok e he)
  ·obtain⟨e,he,rfl⟩:=q1E.1 hc;cases l with
   | nil=>cases he
   | cons a l=>exact hd e he a q4O
 obtain⟨ws,h1⟩:=h0;exact⟨ws,h1.nd.filter _,fun e he=>h1.ok e (q1M.1 he).1,fun e he=>h1.dom e (q1M.1 he).1⟩
def a9G(r:c6)(s:d6)(l:List c9):(a4w r s l).length<=l.length:=by
 have:=q2P (a3F r s) (l.map (eqE r));rw[q0H]at this;exact this
attribute [local irreducible] aft blk lpK retK AW A0p
attribute [local irreducible] RM
def b6S(e:c9)(v:List UInt8)(x:d5)(hpre:e.Binds.length<=1000):spZ 243 [(true,[u9 e.Binds]),(false,[.s v]),(true,[.i .i64 x.N,.s x.S])] [] (.one (true,[u9 ((⟨a0S e.Binds v x⟩:c9).Binds)])):=by
 refine sx' false true none Tryz.func243 (q' 3 [aX 1 0,aX 1 1,aX 2 2,aw [.sl j3]] (q' 8 [aG 0 3,ao (.mf 302 [.t 4]),ac 301 [9,10],aV 7] (.seq (q' 12 [am 7,aC .lss 12 0] (ci 13 (g' 14 [aG 0 3,aN,aV 7]))) (.seq (rm' [(true,0,f' 17 0 3),(true,1,l' 18 17),(true,3,m' 20 7),(true,4,l' 21 4),(true,5,e' 22 2 5),(true,6,o' 23 (.bld [.s,.i .i64,.s] [(0,1,.t 21),(1,2,.t 22)])),(false,2,c' 19 72 [18]),(false,7,o' 24 (.bsl 3 1 [.s,.i .i64,.s] [(0,.t 23)])),(false,8, c' 25 303 [19,20,24]),(false,9,o' 26 (.bld [.sl j3] [(0,1,.t 25)])),(false,10,s' 1 6 26)] [[0,1,2,3,4,5,7,6,8,9, 10]] [6,7,8,9,10,11]) .ret)))) [.c 6 true 1] [(72,[],a6m),(301,[],b1l),(303,[0,2],b7L)] ?_;intro hb hE;have hI:=c9P e.Binds v x;simp only[go_sem];(repeat' first|apply cj'|intro hc|apply z6);(all_goals(try((first|refine u1 6 rfl ?_);intro S hS B0 hB;simp only[go_sem,V7,q0O]at hS hB;(repeat(first|replace hS:=And.right hS|replace hS:=CJ.r hS));have Rr6:=congrArg (fun s:St=>s.sl 6) hS;have Rr18:=congrArg (fun s:St=>s.sl 18) hS;have Rr20:=congrArg (fun s:St=>s.sl 20) hS;have Rr23:=congrArg (fun s:St=>s.sl 23) hS;have Rb6:=congrArg (fun s:St=>s.bx 6) hS;have Rb7:=congrArg (fun s:St=>s.bx 7) hS;have Rb8:=congrArg (fun s:St=>s.bx 8) hS;have Rb9:=congrArg (fun s:St=>s.bx 9) hS;have Rb10:=congrArg (fun s:St=>s.bx 10) hS;have Rb11:=congrArg (fun s:St=>s.bx 11) hS;have Rb12:=congrArg (fun s:St=>s.bx 12) hS;clear hS;simp only[go_sem]at Rr6 Rr18 Rr20 Rr23 Rb6 Rb7 Rb8 Rb9 Rb10 Rb11 Rb12;(try clear hc);intro K hc;simp only[go_sem,Rr6,Rr18,Rr20,Rr23,Rb6,Rb7,Rb8,Rb9,Rb10,Rb11,Rb12,hB,V8,q0K,V6,q0G]at hc ⊢;simp only[go_sem,Rr6,Rr18,Rr20,Rr23,Rb6,Rb7,Rb8,Rb9,Rb10,Rb11,Rb12,hB,A7u,A7y,A6L,A6K,A7t,A6J,nf_put_sub,A7w,A7v,nf_put_susK,nf_put_dip,nf_put_put,A7x,A7s,A6M,j8,j6,j4,j5,j7,nf_sub_sub]at hc ⊢;(first|(simp only[hc,q0R,q0I];done)|((repeat' first|exact hc|apply V1);done)))));all_goals try exact om'
 ·rw[<-hI.2.2,c1M,V0 hc,W4]
 ·rw[c1M,V3 hc,W6]at hI;exact⟨⟨hI.1,hI.2.1⟩,by omega⟩
 ·rw[<-hI.2.2,c1M,V3 hc,W6]
noncomputable def a4n:CT:=p6 (fun(x:c9×(List UInt8)×d5) h=>b6S x.1 x.2.1 x.2.2 h)
@[go_sem] def c6J:=fun x0 v x1 x2=>nm' (fP' a4n rfl (⟨x0⟩,v,⟨x1,x2⟩))
def b2O(e:c9)(v:List UInt8)(x:d5)(hpre:e.Binds.length<=1000):spZ 255 [(true,[u9 e.Binds]),(false,[.s v]),(true,[.i .i64 x.N,.s x.S])] [] (.one (true,[u9 ((⟨a0S e.Binds v x⟩:c9).Binds)])):=by
 refine sx' false true none Tryz.func255 a6h [.c 6 true 1] [] ?_;intro hb hE;simp only[go_sem];repeat' first|apply cj'|intro hc|exact om'|fail
 refine lk' false [(true,14,0,200028)] [1,5,6,7,13,14] [10,12] [] (fun i:{i:Nat // i<=e.Binds.length}=>[(8,slV (.b ((e.Binds.take i.1).any (gtB v)))),(15,slV (.i .i64 i.1))]) (fun i=>[(14,[.ow 200028])]) (fun i=>[(200028,j3,(a5W (e.Binds.take i.1) v x).map c4.cells)]) (fun i=>e.Binds.length-i.1) (⟨0,by simp⟩) ?_;intro S0 hS0 i;obtain⟨i,hi⟩:=i;have hol:=c1H (e.Binds.take i) v x;rw[V9]at hol;have hsn:i<e.Binds.length->e.Binds.take (i+1)=e.Binds.take i++[e.Binds.getD i default]:=fun h=>l6 default h
 simp only[go_sem,hS0];repeat' first|apply cj'|intro hc|exact om'|fail
 ·have h1:=c1G (x:=x) hc.1 hc.2;rw[<-hsn (by omega)]at h1
  (refine lpK_n2 (⟨i+1,by omega⟩) _ (by simp only[go_sem];try rfl) ?_;simp only[go_sem,hS0]<;>repeat' first|apply V1|exact on'|fail)
  all_goals(first|exact congrArg (List.map c4.cells) h1.1.symm|(rw[h1.2];done)|(rw[h1.2];exact congrArg _ hc.1.symm))
 ·have h1:=c5E (x:=x) hc;rw[<-hsn (by omega)]at h1
  (refine lpK_n2 (⟨i+1,by omega⟩) _ (by simp only[go_sem];try rfl) ?_;simp only[go_sem,hS0]<;>repeat' first|apply V1|exact on'|fail)
  all_goals(first|exact congrArg (List.map c4.cells) h1.1.symm|(rw[h1.2];done)|(rw[h1.2];exact congrArg _ hc.1.symm))
 ·rw[k6 (by omega)]at hc ⊢;rw[a5W,hc,W6,b1c x hc]
 ·rw[k6 (by omega)]at hc ⊢;rw[a5W,hc,W4]
noncomputable def a5L:CT:=p6 (fun(x:c9×(List UInt8)×d5) h=>b2O x.1 x.2.1 x.2.2 h)
@[go_sem] def c3z:=fun x0 v x1 x2=>nm' (fP' a5L rfl (⟨x0⟩,v,⟨x1,x2⟩))
def b9r(e:c9)(args:List d4)(row:d3)(hpre:e.Binds.length<=500/\row.V.length<=6):spZ 242 [(true,[u9 e.Binds]),(false,[n9 args]),(true,[t5 row.V])] [] (.tup [(true,[u9 (((a4Q e args row).1).Binds)]),(false,[.b ((a4Q e args row).2)])]):=by
 refine sx' false true none Tryz.func242 (q' 5 [ax (o' 3 (.box 1 (.t 0))),aX 1 2,aw [.sl j3],aU false] (.seq (q' 12 [am 1,aN,aG 0 5,aN,aD .neq 13 16] (ci 17 (q' 18 [ao (.bld [.sl j3] []),aS 1 6 18,ab 7 false] .ret))) (.seq (q' 19 [am 1,aN,aK 0] (fO 0 22 [ar 21 20] 22 1 (q' 23 [am 21,ai 3 19 21,aE 3,ax (w' 9 [.s, .i .i64,.s]),av 8 23,aS 3 9 25] (q' 27 [ae 1 3,ae 3 9,ac 171 [27,28],aV 26,aZ 26 0,aZ 26 1,ax (w' 10 [.i .i64,.s]),aS 2 10 30,aV 11] (.block 2 (q' 33 [am 11,aO 33,aV 32] (cd 32 (.rego [(true,1,f' 36 0 9),(true,2,l' 37 36),(true,3,f' 38 0 5),(true,4,l' 39 38),(true,5,m' 40 8),(true,6,i' 41 2 39 40),(true,7,e' 42 2 41),(false,0,e' 35 1 3),(false,8,c' 43 243 [35,37,42]),(false,9,s' 1 3 43)] [18,19,10,11]) (.seq (G' 45 [ae 2 10,aG 0 5,am 8,aI 2,aE 2,ao (.eqs true [.i .i64,.s] (.t 45) (.t 50)),aV 44]) (ci 44 (q' 52 [ao (.bld [.sl j3] []),aS 1 6 52,ab 7 false] .ret)))))))) (g' 53 [aA 21]))) (q' 54 [ae 1 3,aS 1 6 54,ab 7 true] .ret)))) [.c 6 true 1,.t 7] [(171,[],a1c),(243,[],a4n)] ?_;intro hb hE;obtain⟨hp1,hp2⟩:=hpre;simp only[go_sem];repeat' first|apply cj'|intro hc|exact om'|fail
 ·rw[a4Q,V3 (by intro h;rw[h]at hc;simp at hc)];exact⟨rfl,rfl⟩
 have hl:args.length=row.V.length:=by simpa[Int.ofNat_inj,bne]using hc
 clear hc;refine lq' false [3,5,6,19,20] [10,11,19] [] (fun i:{q:Nat×List c4 // q.1<=args.length/\a2g e.Binds args row.V q.1=some q.2}=>[(21,slV (.i .i64 i.1.1))]) (fun i=>[(6,[.c (u9 i.1.2)]),(12,[.nl j3])]) nl' (fun i=>args.length-i.1.1) (⟨(0,e.Binds),by simp,rfl⟩) ?_;intro S0 hS0 i;obtain⟨⟨i,c⟩,hi,hf⟩:=i;simp only at hi hf;have hcl:=a9k hf;simp only[go_sem,hS0];repeat' first|apply cj'|intro hc|exact om'|fail
 ·exact nx0 ⟨(i+1,a0S c (args.getD i default).Var (row.V.getD i default)),by simp only;omega,c5r hf hc⟩
 ·rename_i hv;rw[a4Q,V0 hl,W4,b9h hf (by omega) hv hc];exact⟨rfl,rfl⟩
 ·rename_i hv;exact nx0 ⟨(i+1,c),by simp only;omega,b4v hf hv (by rw[a8f,hc.1,hc.2];rfl)⟩
 ·obtain rfl:i=args.length:=by omega
  rw[a4Q,V0 hl,W4,hf];exact⟨rfl,rfl⟩
noncomputable def a8V:CT:=p6 (fun(x:c9×(List d4)×d3) h=>b9r x.1 x.2.1 x.2.2 h)
@[go_sem] def c8m:=fun x0 x1 x2=>nm' (fP' a8V rfl (⟨x0⟩,x1,⟨x2⟩))
def b2N(e:c9)(args:List d4)(row:d3)(hpre:e.Binds.length<=500/\row.V.length<=6):spZ 163 [(true,[u9 e.Binds]),(false,[n9 args]),(true,[t5 row.V])] [] (.tup [(true,[u9 (((a4Q e args row).1).Binds)]),(false,[.b ((a4Q e args row).2)])]):=by
 refine sx' false true none Tryz.func163 (q' 5 [ax (o' 3 (.box 1 (.t 0))),aX 1 2,aw [.sl j3],aU false] (.seq (q' 14 [am 1,aN,aG 0 5,aN,aD .neq 15 18] (ci 19 (q' 20 [ao (.bld [.sl j3] []),aS 1 6 20,ab 7 false] .ret))) (q' 21 [ao (.bsl 3 0 [.s,.i .i64,.s] []),aG 0 3,ao (.app 3 40 [.s,.i .i64,.s] (.t 21) (.t 23)),ao (.bld [.sl j3] [(0,1,.t 24)]),ax (w' 8 [.sl j3]),aS 1 8 25] (.seq (q' 26 [am 1,aN,aK 0] (fO 0 29 [ar 28 27] 29 1 (q' 30 [am 28,ai 3 26 28,aE 3,ax (w' 10 [.s,.i .i64,.s]),av 9 30,aS 3 10 32] (q' 33 [af 1 10,aE 2,ax (w' 11 [.i .i64,.s]),aS 2 11 34] (.seq (q' 35 [aG 0 10,aY .neq 36 []] (ci 37 (q' 39 [ae 1 8,aG 0 10,ac 254 [39,41],aV 38,aZ 38 0,aZ 38 1,ax (w' 12 [.i .i64,.s]),aS 2 12 43,aV 13] (.seq (q' 45 [am 13,aO 45] (ci 46 (.seq (.rego [(true,1,f' 48 0 10),(true,2,l' 49 48),(true,3,f' 50 0 5),(true,4,l' 51 50),(true,5,m' 52 9),(true,6,i' 53 2 51 52),(true,7,e' 54 2 53),(false,0,e' 47 1 8),(false,8,c' 55 255 [47,49,54]),(false,9,s' 1 8 55)] [20,21,10,11]) (g' 56 [aG 0 5,am 9,aI 2,aE 2,aS 2 12 60])))) (g' 61 [ae 2 12,aS 2 11 61]))))) (.seq (G' 62 [ae 2 11,aG 0 5,am 9,aI 2,aE 2,ao (.eqs true [.i .i64,.s] (.t 62) (.t 67))]) (ci 68 (q' 69 [ao (.bld [.sl j3] []),aS 1 6 69,ab 7 false] .ret)))))) (g' 70 [aA 28]))) (q' 71 [ae 1 8,aS 1 6 71,ab 7 true] .ret))))) [.c 6 true 1,.t 7] [(254,[],a2F),(255,[],a7X)] ?_;intro hb hE;obtain⟨hp1,hp2⟩:=hpre;simp only[go_sem];repeat' first|apply cj'|intro hc|exact om'|fail
 ·rw[a4Q,V3 (by intro h;rw[h]at hc;simp at hc)];exact⟨rfl,rfl⟩
 have hl:args.length=row.V.length:=by simpa[Int.ofNat_inj,bne]using hc
 clear hc;refine lk' false [(true,16,0,200032)] [5,6,8,26,27] [10,11,21] [] (fun i:{q:Nat×List c4 // q.1<=args.length/\a2g e.Binds args row.V q.1=some q.2}=>[(28,slV (.i .i64 i.1.1))]) (fun i=>[(16,[.ow 200032]),(12,[.nl j3])]) (fun i=>[(200032,j3,i.1.2.map c4.cells)]) (fun i=>args.length-i.1.1) (⟨(0,e.Binds),by simp,rfl⟩) ?_;intro S0 hS0 i;obtain⟨⟨i,c⟩,hi,hf⟩:=i;simp only at hi hf;have hcl:=a9k hf;simp only[go_sem,hS0];repeat' first|apply cj'|intro hc|exact om'|fail
 ·rename_i hv;exact nk0 ⟨(i+1,a0S c (args.getD i default).Var (row.V.getD i default)),by simp only;omega,c5r hf (by rw[a9P hv];exact hc)⟩
 ·rename_i hv ho;rw[a4Q,V0 hl,W4,b9h hf (by omega) (by rw[a9P hv];exact ho) (by rw[a9P hv];exact hc)];exact⟨rfl,rfl⟩
 ·rename_i hv ho;exact nk0 ⟨(i+1,c),by simp only;omega,b4v hf (by rw[a9P hv];exact ho) (by rw[a9P hv,a8f,hc.1,hc.2];rfl)⟩
 ·rename_i hv;rw[a4Q,V0 hl,W4,b9h hf (by omega) (by rw[a7v hv]) (by rw[a7v hv];exact hc)];exact⟨rfl,rfl⟩
 ·rename_i hv;exact nk0 ⟨(i+1,c),by simp only;omega,b4v hf (by rw[a7v hv]) (by rw[a7v hv,a8f,hc.1,hc.2];rfl)⟩
 ·obtain rfl:i=args.length:=by omega
  rw[a4Q,V0 hl,W4,hf];exact⟨rfl,rfl⟩
noncomputable def a5K:CT:=p6 (fun(x:c9×(List d4)×d3) h=>b2N x.1 x.2.1 x.2.2 h)
@[go_sem] def c3y:=fun x0 x1 x2=>nm' (fP' a5K rfl (⟨x0⟩,x1,⟨x2⟩))
def body8{r:c6}(h:l4 r=true):r.Body.length<=8:=by
 simp only[l4,W7,q0B]at h;omega
def y6{α:Type}{l:List α}{i:Nat}(d:α)(h:i<l.length):l.getD i d∈l:=by
 rw[n8 d h];exact q0T _
def c1P{r:f5}(h:a0v r=true){i:Nat}(hi:i<r.Rows.length):(r.Rows.getD i default).V.length<=6:=by
 simp only[a0v,W7,q0U]at h;exact(b8n (a2y (a3O h.2 hi))).1
abbrev arA(r:c6)(n:Nat):List d4:=(r.Body.getD n default).Atom.Args
abbrev arR(r:c6)(s:d6)(n:Nat):List d3:=(a0u s (r.Body.getD n default).Atom.Name).1.Rows
def b2o(A:List d4)(e:c9)(R:List d3)(base:List c9):Nat->List c9
 | 0=>base
 | k+1=>b2o A e R base k++(b4t A e (R.getD k default)).toList
def b8N{A:List d4}{e:c9}{R:List d3}{base:List c9}:∀{k:Nat},k<=R.length->b2o A e R base k=base++a3Z A (R.take k) e
 | 0,_=>by simp[b2o,a3Z]
 | k+1,h=>by
   rw[b2o,b8N (by omega)];cases hf:b4t A e (R.getD k default)with
   | none=>rw[rows_no (by omega) hf];simp
   | some c=>rw[d0C (by omega) hf];simp
def c0p{A:List d4}{e:c9}{R:List d3}{base:List c9}{k:Nat}(h:k<=R.length):(b2o A e R base k).length<=base.length+R.length:=by
 rw[b8N h,W5];have:=c7P A (R.take k) e;rw[V9]at this;omega
def c0o{A:List d4}{R:List d3}{now:List c9}{j:Nat}(h:j<now.length):b2o A (now.getD j default) R (w5 A R (now.take j)) R.length=w5 A R (now.take (j+1)):=by
 rw[b8N (q0A _),List.take_length,c4d h]
def b6U(r:c6)(s:d6)(hpre:l4 r=true/\u7 s=true):spZ 150 [(true,[.i .i64 r.Kind,.s r.Head.Name,n9 r.Head.Args,a0r r.Body]),(true,[v9 s.Rels])] [] (.tup [(false,[kTEnv ((a0H r s).1)]),(false,[.b ((a0H r s).2)])]):=by
 refine sy' Tryz.func150 (q' 2 [aX 4 0,aX 1 1,ao (.mov (.k (.v false [.nl a1t]))),aU false] (q' 18 [ao (.bld [.sl j3] []),ao (.bsl 1 1 [.sl j3] [(0,.t 18)]),aV 6] (.seq (q' 20 [aG 3 2,aN,aK 0] (fO 0 24 [ar 23 22] 24 1 (q' 25 [ai 10 21 23,aE 10,ax (w' 8 [.i .i64,.s,.sl j3,.i .i64,.s,.i .i64,.s,.s,.i .i64,.s]),aS 10 8 26] (.seq (q' 27 [aG 0 8,aC .neq 28 1] (ci 29 (.exit 1))) (q' 31 [ae 1 3,af 1 8,aG 0 32,ac 82 [31,34],aV 30,aZ 30 0,aZ 30 1,ax (w' 9 [.i .i64,.sl o8]),aS 2 9 36,aV 10] (q' 38 [ao (.bsl 1 0 [.sl j3] []),aV 11] (.seq (q' 39 [am 6,aN,aK 0] (fO 2 42 [ar 41 40] 42 3 (q' 43 [ai 1 39 41,aE 1,ax (w' 13 [.sl j3]),aS 1 13 44] (.seq (q' 45 [aG 1 9,aN,aK 0] (fO 4 49 [ar 48 47] 49 5 (q' 50 [ai 1 46 48,aE 1,ax (w' 15 [.sl l3]),aS 1 15 51] (q' 53 [ae 1 13,af 1 8,aG 1 54,ae 1 15,ac 242 [53,56,57],aV 52,aZ 52 0,aZ 52 1,ax (w' 16 [.sl j3]),aS 1 16 59,aV 17] (q' 61 [am 17] (ci 61 (g' 62 [am 11,ae 1 16,ao (.bsl 1 1 [.sl j3] [(0,.t 63)]),ao (.app 1 24 [.sl j3] (.t 62) (.t 64)),aV 11]))))) (g' 66 [aA 48]))) (q' 67 [am 11,aN,aC .gtr 68 2000] (ci 69 (q' 4 [ao (.mov (.k (.v false [.nl a1t]))),aU false] .ret))))) (g' 70 [aA 41]))) (g' 71 [am 11,aV 6])))))) (g' 72 [aA 23]))) (q' 73 [am 6,aV 4,ab 5 true] .ret)))) [.t 4,.t 5] [(82,[],a5l),(242,[],a8V)] ?_;intro hb hE;obtain⟨hr,hs⟩:=hpre;have hb8:=body8 hr;simp only[go_sem];repeat' first|apply cj'|intro hc|exact om'|fail
 refine lk' false [(false,6,0,100012)] [3,21,22] [6] [] (fun i:{q:Nat×List c9 // q.1<=r.Body.length/\a0z r s q.1=some q.2}=>[(6,.v false [.ow 100012]),(23,slV (.i .i64 i.1.1))]) nl' (fun i=>[(100012,a1t,i.1.2.map (c9.cells false false))]) (fun i=>r.Body.length-i.1.1) (⟨(0,[⟨[]⟩]),by simp,rfl⟩) ?_;intro S0 hS0 i;obtain⟨⟨n,now⟩,hn,hj⟩:=i;simp only at hn hj;have hJ:=Jn.all hr hs hn hj;have hl:=b0B hj;have hR:=a7s hs (r.Body.getD n default).Atom.Name;have hRl:=b1a hR;have hRe:(arR r s n).length=(a0u s (r.Body.getD n default).Atom.Name).1.Rows.length:=rfl;simp only[go_sem,hS0];repeat' first|apply cj'|intro hc|exact om'|fail
 ·exact nk0 ⟨(n+1,now),by simp only;omega,b4K hj (by simpa[bne]using hc)⟩
 ·have hk:((r.Body.getD n default).Kind==1)=true:=by simpa[bne]using hc
  refine a1v 100012 ?_;refine lk' false [(false,11,0,100022)] [3,8,9,21,22,23,39,40] [6,16,18] [] (fun i:{j:Nat // j<=now.length/\(w5 (arA r n) (arR r s n) (now.take j)).length<=2000}=>[(11,.v false [.ow 100022]),(41,slV (.i .i64 i.1))]) nl' (fun i=>[(100022,a1t,(w5 (arA r n) (arR r s n) (now.take i.1)).map (c9.cells false false))]) (fun i=>now.length-i.1) (⟨0,by simp,by simp[w5]⟩) ?_;intro S1 hS1 i;obtain⟨j,hj1,hj2⟩:=i;simp only[go_sem,hS0,hS1];repeat' first|apply cj'|intro hc|exact om'|fail
  ·have hm:=y6 (l:=now) default (i:=j) (by omega);have he6:=hJ.len _ hm;have hall:=c0o (A:=arA r n) (R:=arR r s n) (now:=now) (j:=j) (by omega);refine lk' false [(false,11,0,100022)] [3,8,9,13,21,22,23,39,40,41,46,47] [6,16,18,26] [] (fun i:{k:Nat // k<=(arR r s n).length}=>[(11,.v false [.ow 100022]),(48,slV (.i .i64 i.1))]) nl' (fun i=>[(100022,a1t,(b2o (arA r n) (now.getD j default) (arR r s n) (w5 (arA r n) (arR r s n) (now.take j)) i.1).map (c9.cells false false))]) (fun i=>(arR r s n).length-i.1) (⟨0,by simp⟩) ?_;intro S2 hS2 i;obtain⟨k,hk1⟩:=i;have hlk:=c0p (A:=arA r n) (e:=now.getD j default) (R:=arR r s n) (base:=w5 (arA r n) (arR r s n) (now.take j)) hk1;simp only[go_sem,hS0,hS1,hS2];repeat' first|apply cj'|intro hc|exact om'|fail
   ·exact⟨by omega,c1P hR (by omega)⟩
   ·(refine lpK_n2 (⟨k+1,by omega⟩) _ (by simp only[go_sem,hS0,hS1];try rfl) ?_;simp only[go_sem,hS0,hS1,hS2]<;>repeat' first|apply V1|exact on'|fail)
    all_goals(rw[b2o,b4u hc];rfl)
   ·(refine lpK_n2 (⟨k+1,by omega⟩) _ (by simp only[go_sem,hS0,hS1];try rfl) ?_;simp only[go_sem,hS0,hS1,hS2]<;>repeat' first|apply V1|exact on'|fail)
    all_goals(rw[b2o,b9g hc];simp)
   ·obtain rfl:k=(arR r s n).length:=by omega
    rw[hall]at hc;rw[b7U hj (by omega) hk (j:=j+1) (show 2000<(w5 (arA r n) (arR r s n) (now.take (j+1))).length by omega)];exact⟨rfl,rfl⟩
   ·obtain rfl:k=(arR r s n).length:=by omega
    rw[hall]at hc
    (refine lpK_n2 (⟨j+1,by omega,by omega⟩) _ (by simp only[go_sem,hS0,hS1];try rfl) ?_;simp only[go_sem,hS0,hS1,hS2]<;>repeat' first|apply V1|exact on'|fail)
    all_goals rw[hall]
  ·rw[k6 (by omega)]at hj2
   (refine lpK_n2 (⟨(n+1,w5 (arA r n) (arR r s n) now),by simp only;omega,c1n hj hk hj2⟩) _ (by simp only[go_sem,hS0,hS1];try rfl) ?_;simp only[go_sem,hS0,hS1]<;>repeat' first|apply V1|exact on'|fail)
   all_goals rw[k6 (by omega)]
 ·obtain rfl:n=r.Body.length:=by omega
  rw[c1o hj];exact⟨rfl,rfl⟩
noncomputable def a7I:CT:=p6 (fun(x:c6×d6) h=>b6U x.1 x.2 h)
@[go_sem] def c6L:=fun x0 x1 x2 x3 x4=>nm' (fP' a7I rfl (⟨x0,⟨x1,x2⟩,x3⟩,⟨x4⟩))
def b2p(l:d7)(b:List c4):Bool:=a0y l&&((k8 ⟨b⟩ l.A).2&&!(k8 ⟨b⟩ l.B).2||(k8 ⟨b⟩ l.B).2&&!(k8 ⟨b⟩ l.A).2)
def eqG(r:c6)(b:List c4):Nat->Bool
 | 0=>false
 | n+1=>eqG r b n||b2p (r.Body.getD n default) (eqP r b n)
def b8Z{l:d7}{b:List c4}(h:b2p l b=false):eqS l b=b:=by
 rw[b2p]at h;rw[eqS];cases h0:a0y l with
 | false=>rfl
 | true=>
   rw[h0]at h;cases h1:(k8 ⟨b⟩ l.A).2<;>cases h2:(k8 ⟨b⟩ l.B).2<;>rw[h1,h2]at h<;>first|rfl|(exact absurd h (by decide))
def c9B{r:c6}{l:d7}{b:List c4}(hl:l∈r.Body)(h:b2p l b=true):miss r ((eqS l b).map c4.Var)<miss r (b.map c4.Var):=by
 rcases(a2L l b).miss hl with h1|⟨_,h1⟩
 ·exfalso;have h2:=congrArg List.length h1;rw[b2p,W7]at h;obtain⟨h0,h⟩:=h;rw[eqS,h0]at h2;cases h3:(k8 ⟨b⟩ l.A).2<;>cases h4:(k8 ⟨b⟩ l.B).2<;>rw[h3,h4]at h h2
  ·exact absurd h (by decide)
  ·simp only[W4,W6,a2O]at h2;omega
  ·simp only[W4,W6,a2O]at h2;omega
  ·exact absurd h (by decide)
 ·exact h1
def c3J{r:c6}{b:List c4}:∀{n:Nat},eqG r b n=false->eqP r b n=b
 | 0,_=>rfl
 | n+1,h=>by
   rw[eqG,q1A]at h;have h1:=b8Z h.2;rw[c3J h.1]at h1;rw[eqP,c3J h.1,h1]
def c5j{r:c6}{b:List c4}:∀{n:Nat},n<=r.Body.length->eqG r b n=true->miss r ((eqP r b n).map c4.Var)<miss r (b.map c4.Var)
 | 0,_,h=>by cases h
 | n+1,hn,h=>by
   have hm:=y6 (l:=r.Body) default (i:=n) (by omega);have hle:=(a3D (r:=r) (b:=b) (n:=n) (by omega)).2;rw[eqG,q2B]at h;rw[eqP];rcases h with h|h
   ·have h1:=c5j (by omega) h;rcases(a2L (r.Body.getD n default) (eqP r b n)).miss hm with h2|⟨_,h2⟩
    ·rw[h2];exact h1
    ·omega
   ·have h1:=c9B hm h;rcases hle with h2|h2
    ·rw[h2]at h1 ⊢;exact h1
    ·omega
def c1g{r:c6}{b:List c4}(hV:(a2n r).length<=64){n:Nat}(hn:n<=r.Body.length):(eqP r b n).length<=b.length+64:=by
 have h1:=(a3D (r:=r) (b:=b) hn).1;have h2:=b3e r (b.map c4.Var);omega
def c1f{r:c6}{b:List c4}(hV:(a2n r).length<=64)(k:Nat):(eqI r b k).length<=b.length+64:=by
 have h1:=b4r (r:=r) (b:=b) k;have h2:=b3e r (b.map c4.Var);omega
def c5D{l:d7}(h:(l.Kind != 3)=true\/(l.Op != 1)=true):a0y l=false:=by
 rw[a0y];rcases h with h|h<;>simp only[bne,q0U]at h<;>rw[h]<;>simp
def b3h{l:d7}(h:(l.Kind != 3)=false/\(l.Op != 1)=false):a0y l=true:=by
 simp only[bne,q1K]at h;rw[a0y,h.1,h.2];rfl
def b2t(op:Int)(a:d5)(b:d5):spZ 244 [(false,[.i .i64 op]),(true,[.i .i64 a.N,.s a.S]),(true,[.i .i64 b.N,.s b.S])] [] (.one (false,[.b (z5 op a b)])):=by
 refine sy' Tryz.func244 (q' 4 [aX 2 1,aX 2 2,aU false] (.seq (q' 7 [ae 2 4,ac 168 [7],aO 8,am 9,aH 10 false [be 2 5,bc 168 [11],bO 12],aQ 10 13] (ci 14 (q' 6 [aU false] .ret))) (.seq (q' 15 [am 0] (.block 0 (q' 17 [aC .eql 15 1,aV 16] (cd 16 (q' 18 [ae 2 4,ae 2 5,ao (.eqs false [.i .i64,.s] (.t 18) (.t 19)),aV 6] .ret) (q' 22 [aC .eql 15 2,aV 21] (cd 21 (q' 23 [ae 2 4,ae 2 5,ao (.eqs true [.i .i64,.s] (.t 23) (.t 24)),aV 6] .ret) (q' 27 [aC .eql 15 3,aV 26] (cd 26 (q' 28 [ae 2 4,ae 2 5,ac 248 [28,29],aC .lss 30 0,aV 6] .ret) (q' 33 [aC .eql 15 4,aV 32] (ci 32 (q' 34 [ae 2 4,ae 2 5,ac 248 [34,35],aC .leq 36 0,aV 6] .ret))))))))))) (q' 6 [aU false] .ret)))) [.t 6] [(168,[],a1b),(248,[],a1Z)] ?_;intro hb hE;simp only[go_sem];repeat' first|apply cj'|intro hc|exact om'|fail
 ·rcases hc with h|h<;>simp[z5,h]
 ·rename_i h;simp[z5,h,hc,vEq]
 ·rename_i h h1;simp[z5,h,hc,h1,vEq]
 ·rename_i h h1 h2;simp only[z5,h.1,h.2,hc,h1,h2,W4,W6,q0N];exact b4c h.1 h.2
 ·rename_i h h1 h2 h3;simp only[z5,h.1,h.2,hc,h1,h2,h3,W4,W6,q0N];exact b4b h.1 h.2
 ·rename_i h h1 h2 h3;simp only[z5,h.1,h.2,hc,h1,h2,h3,W6,q0N]
noncomputable def a5z:CT:=o9 (fun(x:Int×d5×d5)=>b2t x.1 x.2.1 x.2.2)
@[go_sem] def c3f:=fun op x0 x1 x2 x3=>nm' (fQ' a5z rfl (op,⟨x0,x1⟩,⟨x2,x3⟩))
def b2z(op:Int)(a:d5)(b:d5):spZ 257 [(false,[.i .i64 op]),(true,[.i .i64 a.N,.s a.S]),(true,[.i .i64 b.N,.s b.S])] [] (.one (false,[.b (z5 op a b)])):=by
 refine sy' Tryz.func257 (q' 4 [aX 2 1,aX 2 2,aU false] (.seq (q' 7 [ae 2 4,ac 312 [7],aO 8,am 9,aH 10 false [be 2 5,bc 312 [11],bO 12],aQ 10 13] (ci 14 (q' 6 [aU false] .ret))) (.seq (q' 15 [am 0] (.block 0 (q' 17 [aC .eql 15 1,aV 16] (cd 16 (q' 18 [ae 2 4,ae 2 5,ao (.eqs false [.i .i64,.s] (.t 18) (.t 19)),aV 6] .ret) (q' 22 [aC .eql 15 2,aV 21] (cd 21 (q' 23 [ae 2 4,ae 2 5,ao (.eqs true [.i .i64,.s] (.t 23) (.t 24)),aV 6] .ret) (q' 27 [aC .eql 15 3,aV 26] (cd 26 (q' 28 [ae 2 4,ae 2 5,ac 314 [28,29],aV 6] .ret) (q' 32 [aC .eql 15 4,aV 31] (ci 31 (q' 33 [ae 2 4,ae 2 5,ac 314 [33,34],am 35,aH 36 false [be 2 4,be 2 5,bo (.eqs false [.i .i64,.s] (.t 37) (.t 38))],aQ 36 39,aV 6] .ret))))))))))) (q' 6 [aU false] .ret)))) [.t 6] [(312,[],a1d),(314,[],a4L)] ?_;intro hb hE;simp only[go_sem];repeat' first|apply cj'|intro hc|exact om'|fail
 ·rcases hc with h|h<;>simp[z5,h]
 ·rename_i h;simp[z5,h,hc,vEq]
 ·rename_i h h1;simp[z5,h,hc,h1,vEq]
 ·rename_i h h1 h2;simp only[z5,a3l,h.1,h.2,hc,h1,h2,W4,W6,q0N]
 ·rename_i h h1 h2 h3;simp only[z5,a3l,h.1,h.2,hc,h1,h2,h3,W4,W6,q0N,vEq]
 ·rename_i h h1 h2 h3;simp only[z5,h.1,h.2,hc,h1,h2,h3,W6,q0N]
noncomputable def a5E:CT:=o9 (fun(x:Int×d5×d5)=>b2z x.1 x.2.1 x.2.2)
@[go_sem] def c3l:=fun op x0 x1 x2 x3=>nm' (fQ' a5E rfl (op,⟨x0,x1⟩,⟨x2,x3⟩))
def b2v(r:c6)(e:c9)(hpre:l4 r=true/\e.Binds.length<=100):spZ 151 [(true,[.i .i64 r.Kind,.s r.Head.Name,n9 r.Head.Args,a0r r.Body]),(true,[u9 e.Binds])] [] (.one (true,[u9 ((eqE r e).Binds)])):=by
 refine sx' false true none Tryz.func151 (q' 2 [aX 4 0,aX 1 1,aw [.sl j3]] (.seq (q' 5 [aU true] (lO 0 (.seq (q' 12 [am 5] (cd 12 .skip (.exit 0))) (.block 1 (q' 5 [aU false] (q' 13 [aG 3 2,aN,aK 0] (fO 2 17 [ar 16 15] 17 3 (q' 18 [ai 10 14 16,aE 10,ax (w' 7 [.i .i64,.s,.sl j3,.i .i64,.s,.i .i64,.s,.s,.i .i64,.s]),aS 10 7 19] (.seq (q' 20 [aG 0 7,aC .neq 21 3,am 22,aH 23 false [bf 3 7,bL,bC .neq 25 1],aQ 23 26] (ci 27 (.exit 3))) (q' 29 [ae 1 3,af 4 7,aE 3,ac 171 [29,31],aV 28,aZ 28 0,aZ 28 1,ax (w' 8 [.i .i64,.s]),aS 2 8 33,aV 9] (q' 36 [ae 1 3,af 7 7,aE 3,ac 171 [36,38],aV 35,aZ 35 0,aZ 35 1,ax (w' 10 [.i .i64, .s]),aS 2 10 40,aV 11] (.block 4 (q' 43 [aM [9,43],aH 44 true [bm 11,bO 45],aP 44 46,aV 42] (cd 42 (q' 48 [ae 1 3,af 7 7,aG 0 49,ae 2 8,ac 243 [48,51,52],aS 1 3 53] (g' 5 [aU true])) (q' 55 [aM [11,55],aH 56 true [bm 9,bO 57],aP 56 58,aV 54] (ci 54 (q' 60 [ae 1 3,af 4 7,aG 0 61,ae 2 10,ac 243 [60,63,64],aS 1 3 65] (g' 5 [aU true]))))))))))) (g' 66 [aA 16])))))))) (q' 67 [ae 1 3,aS 1 4 67] .ret))) [.c 4 true 1] [(171,[],a1c),(243,[],a4n)] ?_;intro hb hE;obtain⟨hr,he⟩:=hpre;have hV:=a3m hr;simp only[go_sem];repeat' first|apply cj'|intro hc|exact om'|fail
 refine lq' false [2,3,4] [4,8] [] (fun i:{q:Bool×List c4 // (∃k,eqI r e.Binds k=q.2)/\(q.1=false->a4x r q.2=q.2)}=>[(5,slV (.b i.1.1))]) (fun i=>[(6,[.c (u9 i.1.2)])]) nl' (fun i=>2*miss r (i.1.2.map c4.Var)+(bif i.1.1 then 1 else 0)) (⟨(true,e.Binds),⟨0,rfl⟩,by intro h;cases h⟩) ?_;intro S0 hS0 i;obtain⟨⟨g,c⟩,⟨k,hk⟩,hp⟩:=i;simp only at hk hp;have hcl:c.length<=e.Binds.length+64:=by rw[<-hk];exact c1f hV k
 simp only[go_sem,hS0];repeat' first|apply cj'|intro hc|exact om'|fail
 ·skip
  refine lq' false [2,3,4,14,15] [4,8] [] (fun i:{j:Nat // j<=r.Body.length}=>[(5,slV (.b (eqG r c i.1))),(16,slV (.i .i64 i.1))]) (fun i=>[(6,[.c (u9 (eqP r c i.1))])]) nl' (fun i=>r.Body.length-i.1) (⟨0,by simp⟩) ?_;intro S1 hS1 i;obtain⟨j,hj⟩:=i;have hl2:=c1g (b:=c) hV hj;simp only[go_sem,hS0,hS1];repeat' first|apply cj'|intro hc|exact om'|fail
  ·have h0:=c5D hc
   (refine lpK_n2 (⟨j+1,by omega⟩) _ rfl ?_;simp only[go_sem,hS0,hS1]<;>repeat' first|apply V1|exact on'|fail)
   all_goals first|(rw[eqP,c1i h0];done)|(rw[eqG,b2p,h0];simp;done)
  ·rename_i h1;have h0:=b3h h1
   (refine lpK_n2 (⟨j+1,by omega⟩) _ rfl ?_;simp only[go_sem,hS0,hS1]<;>repeat' first|apply V1|exact on'|fail)
   all_goals first|(rw[eqP,b7O h0 hc.1 hc.2];done)|(rw[eqG,b2p,h0,hc.1,hc.2];simp;done)
  ·rename_i h1 h2;have h0:=b3h h1
   (refine lpK_n2 (⟨j+1,by omega⟩) _ rfl ?_;simp only[go_sem,hS0,hS1]<;>repeat' first|apply V1|exact on'|fail)
   all_goals first|(rw[eqP,c1h h0 hc.1 hc.2];done)|(rw[eqG,b2p,h0,hc.1,hc.2];simp;done)
  ·rename_i h1 h2;have h3:b2p (r.Body.getD j default) (eqP r c j)=false:=by rw[b2p,h2,hc];simp
   (refine lpK_n2 (⟨j+1,by omega⟩) _ rfl ?_;simp only[go_sem,hS0,hS1]<;>repeat' first|apply V1|exact on'|fail)
   all_goals first|(rw[eqP,b8Z h3];done)|(rw[eqG,h3,Bool.or_false];done)
  ·obtain rfl:j=r.Body.length:=by omega
   have h1:eqG r c r.Body.length=false->eqP r c r.Body.length=c:=c3J;have h2:=c5j (r:=r) (b:=c) (q0A _);have h4:eqI r e.Binds (k+1)=eqP r c r.Body.length:=by rw[eqI,hk];rfl
   cases hG:eqG r c r.Body.length with
   | true=>
     have h5:=h2 hG
     (refine lpK_n2 (⟨(true,eqP r c r.Body.length),⟨k+1,h4⟩,by intro h;cases h⟩) _ rfl ?_;simp only[go_sem,hS0,hS1]<;>repeat' first|apply V1|exact on'|fail)
     all_goals first|rfl|(rename_i h;rw[h];simp only[W4];omega)|(simp only[*,W4];omega)|trace_state
   | false=>
     have h5:=h1 hG;rw[h5]
     (refine lpK_n2 (⟨(false,c),⟨k,hk⟩,fun _=>h5⟩) _ rfl ?_;simp only[go_sem,hS0,hS1]<;>repeat' first|apply V1|exact on'|fail)
     all_goals first|rfl|(simp only[*,W4,W6];omega)|trace_state
 ·exact congrArg (List.map c4.cells) (b9c ⟨k,hk,hp hc⟩).symm
noncomputable def a5B:CT:=p6 (fun(x:c6×c9) h=>b2v x.1 x.2 h)
@[go_sem] def c3h:=fun x0 x1 x2 x3 x4=>nm' (fP' a5B rfl (⟨x0,⟨x1,x2⟩,x3⟩,⟨x4⟩))
def b5A(e:c9)(t:d4):spZ 256 [(true,[u9 e.Binds]),(true,[.s t.Var,.i .i64 t.Val.N,.s t.Val.S])] [] (.tup [(true,[.i .i64 (((k8 e t).1).N),.s (((k8 e t).1).S)]),(false,[.b ((k8 e t).2)])]):=by
 refine sy' Tryz.func256 (q' 2 [aX 1 0,aX 3 1,aw [.i .i64,.s],aU false] (.seq (q' 6 [aG 0 3,aY .eql 7 []] (ci 8 (q' 9 [af 1 3,aE 2,aS 2 4 10,ab 5 true] .ret))) (q' 11 [ae 1 2,aG 0 3,ac 254 [11,13],aZ 14 0,aZ 14 1,aS 2 4 15,aV 5] .ret))) [.c 4 true 2,.t 5] [(254,[],a2F)] ?_;intro hb hE;simp only[go_sem];repeat' first|apply cj'|intro hc|exact om'|fail
 all_goals first|(rw[k8,hc];exact⟨⟨rfl,rfl⟩,rfl⟩)|trace_state
noncomputable def a3A:CT:=o9 (fun(x:c9×d4)=>b5A x.1 x.2)
@[go_sem] def c5h:=fun x0 x1 x2 x3=>nm' (fQ' a3A rfl (⟨x0⟩,⟨x1,⟨x2,x3⟩⟩))
def b2P(r:c6)(e:c9)(hpre:l4 r=true/\e.Binds.length<=100):spZ 164 [(true,[.i .i64 r.Kind,.s r.Head.Name,n9 r.Head.Args,a0r r.Body]),(true,[u9 e.Binds])] [] (.one (true,[u9 ((eqE r e).Binds)])):=by
 refine sx' false true none Tryz.func164 (q' 2 [aX 4 0,aX 1 1,aw [.sl j3]] (.seq (q' 5 [ao (.mov (.k (.v false [.c (.i .i64 (-1))])))] (lO 0 (.seq (q' 12 [am 5,aG 0 3,aN,ar 12 15] (cd 16 .skip (.exit 0))) (.block 1 (q' 17 [aG 0 3,aN,aV 5] (q' 20 [aG 3 2,aN,aK 0] (fO 2 24 [ar 23 22] 24 3 (q' 25 [am 23,aV 6] (q' 26 [aG 3 2,am 6,aI 10,aE 10,ax (w' 7 [.i .i64,.s,.sl j3,.i .i64,.s,.i .i64,.s,.s,.i .i64,.s]),aS 10 7 30] (.seq (q' 31 [aG 0 7,aC .neq 32 3,am 33,aH 34 false [bf 3 7,bL,bC .neq 36 1],aQ 34 37] (ci 38 (.exit 3))) (q' 40 [ae 1 3,af 4 7,aE 3,ac 256 [40,42],aV 39,aZ 39 0,aZ 39 1,ax (w' 8 [.i .i64,.s]),aS 2 8 44,aV 9] (q' 47 [ae 1 3,af 7 7,aE 3,ac 256 [47,49],aV 46,aZ 46 0,aZ 46 1,ax (w' 10 [.i .i64,.s]),aS 2 10 51,aV 11] (.seq (q' 53 [aM [9,53],aH 54 true [bm 11,bO 55],aP 54 56] (ci 57 (g' 58 [ae 1 3,af 7 7,aG 0 59,ae 2 8,ac 255 [58,61,62],aS 1 3 63]))) (q' 64 [aM [11,64],aH 65 true [bm 9,bO 66],aP 65 67] (ci 68 (g' 69 [ae 1 3,af 4 7,aG 0 70,ae 2 10,ac 255 [69,72,73],aS 1 3 74]))))))))) (g' 75 [aA 23])))))))) (q' 76 [ae 1 3,aS 1 4 76] .ret))) [.c 4 true 1] [(256,[],a3A),(255,[],a5L)] ?_;intro hb hE;obtain⟨hr,he⟩:=hpre;have hV:=a3m hr;simp only[go_sem];repeat' first|apply cj'|intro hc|exact om'|fail
 refine lq' false [2,3,4] [4,8] [] (fun i:{q:Int×List c4 // (∃k,eqI r e.Binds k=q.2)/\-1<=q.1/\(¬q.1<q.2.length->a4x r q.2=q.2)}=>[(5,slV (.i .i64 i.1.1))]) (fun i=>[(6,[.c (u9 i.1.2)])]) nl' (fun i=>2*miss r (i.1.2.map c4.Var)+(bif decide (i.1.1<i.1.2.length)then 1 else 0)) (⟨(-1,e.Binds),⟨0,rfl⟩,by simp,by simp only;omega⟩) ?_;intro S0 hS0 i;obtain⟨⟨g,c⟩,⟨k,hk⟩,hg,hp⟩:=i;simp only at hk hg hp;have hcl:c.length<=e.Binds.length+64:=by rw[<-hk];exact c1f hV k
 simp only[go_sem,hS0];repeat' first|apply cj'|intro hc|exact om'|fail
 ·skip
  refine lq' false [2,3,4,5,22] [4,8] [] (fun i:{j:Nat // j<=r.Body.length}=>[(23,slV (.i .i64 i.1))]) (fun i=>[(6,[.c (u9 (eqP r c i.1))])]) nl' (fun i=>r.Body.length-i.1) (⟨0,by simp⟩) ?_;intro S1 hS1 i;obtain⟨j,hj⟩:=i;have hl2:=c1g (b:=c) hV hj;simp only[go_sem,hS0,hS1];repeat' first|apply cj'|intro hc|exact om'|fail
  ·have h0:=c5D hc
   (refine lpK_n2 (⟨j+1,by omega⟩) _ rfl ?_;simp only[go_sem,hS0,hS1]<;>repeat' first|apply V1|exact on'|fail)
   all_goals rw[eqP,c1i h0]
  ·rename_i h1 h2;rw[h2.2]at hc;exact absurd hc.1 (by decide)
  ·rename_i h1 h2;rw[h2.2]at hc;exact absurd hc.1 (by decide)
  ·rename_i h1 h2;have h0:=b3h h1
   (refine lpK_n2 (⟨j+1,by omega⟩) _ rfl ?_;simp only[go_sem,hS0,hS1]<;>repeat' first|apply V1|exact on'|fail)
   all_goals rw[eqP,b7O h0 h2.1 h2.2]
  ·rename_i h1 h2;have h0:=b3h h1
   (refine lpK_n2 (⟨j+1,by omega⟩) _ rfl ?_;simp only[go_sem,hS0,hS1]<;>repeat' first|apply V1|exact on'|fail)
   all_goals rw[eqP,c1h h0 hc.1 hc.2]
  ·rename_i h1 h2;have h3:b2p (r.Body.getD j default) (eqP r c j)=false:=by rw[b2p,h2,hc];simp
   (refine lpK_n2 (⟨j+1,by omega⟩) _ rfl ?_;simp only[go_sem,hS0,hS1]<;>repeat' first|apply V1|exact on'|fail)
   all_goals rw[eqP,b8Z h3]
  ·obtain rfl:j=r.Body.length:=by omega
   have h4:eqI r e.Binds (k+1)=eqP r c r.Body.length:=by rw[eqI,hk];rfl
   have h5:=(a3D (r:=r) (b:=c) (q0A _)).2;have h6:¬(c.length:Int)<(eqP r c r.Body.length).length->a4x r (eqP r c r.Body.length)=eqP r c r.Body.length:=fun h=>by
    have:a4x r c=c:=b8d (by rw[a4x];omega);rw[a4x]at this;rw[this];exact this
   have h7:2*miss r ((eqP r c r.Body.length).map c4.Var)+(bif decide ((c.length:Int)<(eqP r c r.Body.length).length)then 1 else 0)<2*miss r (c.map c4.Var)+(bif decide (g<(c.length:Int))then 1 else 0):=by
    rw[V0 (p:=g<(c.length:Int)) (by omega),W4];rcases h5 with h5|h5
    ·rw[h5,V3 (by omega),W6];omega
    ·cases decide ((c.length:Int)<(eqP r c r.Body.length).length)<;>simp only[W4,W6]<;>omega
   (refine lpK_n2 (⟨(c.length,eqP r c r.Body.length),⟨k+1,h4⟩,by simp only;omega,h6⟩) _ rfl ?_;simp only[go_sem,hS0,hS1]<;>repeat' first|apply V1|exact on'|fail)
   all_goals first|exact h7|trace_state
 ·exact congrArg (List.map c4.cells) (b9c ⟨k,hk,hp (by omega)⟩).symm
noncomputable def a5M:CT:=p6 (fun(x:c6×c9) h=>b2P x.1 x.2 h)
@[go_sem] def c3A:=fun x0 x1 x2 x3 x4=>nm' (fP' a5M rfl (⟨x0,⟨x1,x2⟩,x3⟩,⟨x4⟩))
def a9j{b:List c4}{args:List d4}(hb:EnvS b)(ha:args.all s6=true)(hl:args.length<=6):a0M (v8 ⟨b⟩ args).1=true:=by
 rw[v8];cases h:args.all (fun t=>(k8 ⟨b⟩ t).2)with
 | false=>rfl
 | true=>
   rw[W4,a0M,V0 (by rw[q0H];omega),q0N,q0S];intro x hx;obtain⟨t,ht,rfl⟩:=q1E.1 hx;exact b5Z hb (q0S.1 ha t ht) (q0S.1 h t ht)
def b7X{r:c6}(hr:l4 r=true){i:Nat}(hi:i<r.Body.length)(hk:((r.Body.getD i default).Kind==3)=false):(r.Body.getD i default).Atom.Args.all s6=true/\(r.Body.getD i default).Atom.Args.length<=6:=b5P hr (y6 default hi) hk
def k2_3{k:Int}(h:(k==2)=true):(k==3)=false:=by rw[beq_iff_eq]at h;rw[h];rfl
def hH_no{r:c6}{s:d6}{e:c9}{i:Nat}(hi:i<r.Body.length)(h:b0R s e (r.Body.getD i default)=false):a3F r s e=false:=all_false (p:=b0R s e) (d:=default) hi h
def hX_no{r:c6}{s:d6}{e:c9}{i:Nat}(hi:i<r.Body.length)(h:b5C s e (r.Body.getD i default)=false):a6U r s e=false:=all_false (p:=b5C s e) (d:=default) hi h
def b9t(r:c6)(s:d6)(e:c9)(hpre:l4 r=true/\u7 s=true/\EnvS e.Binds):spZ 152 [(true,[.i .i64 r.Kind,.s r.Head.Name,n9 r.Head.Args,a0r r.Body]),(true,[v9 s.Rels]),(true,[u9 e.Binds])] [] (.one (false,[.b (a3F r s e)])):=by
 refine sy' Tryz.func152 (q' 3 [aX 4 0,aX 1 1,aX 1 2,aU false] (.seq (q' 17 [aG 3 3,aN,aK 0] (fO 0 21 [ar 20 19] 21 1 (q' 22 [ai 10 18 20,aE 10,ax (w' 8 [.i .i64,.s,.sl j3,.i .i64,.s,.i .i64,.s,.s,.i .i64,.s]),aS 10 8 23] (q' 24 [aG 0 8] (.block 2 (q' 27 [aC .eql 25 2,aV 26] (cd 26 (q' 29 [ae 1 5,af 1 8,aG 1 30,ac 81 [29,32],aV 28,aZ 28 0,aZ 28 1,ax (w' 9 [.sl l3]),aS 1 9 34,aV 10] (q' 37 [ae 1 4,af 1 8,aG 0 38,ac 82 [37,40],aV 36,aZ 36 0,aZ 36 1,ax (w' 11 [.i .i64,.sl o8]),aS 2 11 42,aV 12] (q' 44 [ae 2 11,ae 1 9,ac 86 [44,45]] (ci 46 (q' 6 [aU false] .ret))))) (q' 48 [aC .eql 25 3,aV 47] (ci 47 (q' 50 [ae 1 5,af 4 8,aE 3,ac 171 [50,52],aV 49,aZ 49 0,aZ 49 1,ax (w' 13 [.i .i64,.s]),aS 2 13 54,aV 14] (q' 57 [ae 1 5,af 7 8,aE 3,ac 171 [57,59],aV 56,aZ 56 0,aZ 56 1,ax (w' 15 [.i .i64,.s]),aS 2 15 61,aV 16] (q' 63 [aG 3 8,ae 2 13,ae 2 15,ac 244 [64,65,66],aO 67] (ci 68 (q' 6 [aU false] .ret)))))))))))) (g' 69 [aA 20]))) (q' 6 [aU true] .ret))) [.t 6] [(81,[],a3Q),(82,[],a5l),(86,[],a8r),(171,[],a1c),(244,[],a5z)] ?_;intro hb hE;obtain⟨hr,hs,he⟩:=hpre;simp only[go_sem];repeat' first|apply cj'|intro hc|exact om'|fail
 refine lq' false [4,5,18,19] [8,10] [] (fun i:{i:Nat // i<=r.Body.length/\(r.Body.take i).all (b0R s e)=true}=>[(20,slV (.i .i64 i.1))]) nl' nl' (fun i=>r.Body.length-i.1) (⟨0,by simp⟩) ?_;intro S0 hS0 i;obtain⟨i,hi,ha⟩:=i;have hR:=a7s hs (r.Body.getD i default).Atom.Name;have hT:=fun(h1:i<r.Body.length) (h2:((r.Body.getD i default).Kind==2)=true)=>b7X hr h1 (k2_3 h2)
 simp only[go_sem,hS0];repeat' first|apply cj'|intro hc|exact om'|fail
 ·exact(hT (by omega) hc).2
 ·exact⟨hR,a9j he (hT (by omega) hc).1 (hT (by omega) hc).2⟩
 ·rename_i h1;rw[hH_no (i:=i) (by omega) (by rw[b0R,h1,W4,hc];rfl)]
 ·rename_i h1;exact nx0 ⟨i+1,by omega,a2H (p:=b0R s e) default (by omega) ha (by rw[b0R,h1,W4,hc];rfl)⟩
 ·rename_i h1 h2;rw[hH_no (i:=i) (by omega) (by rw[b0R,h1,W6,h2,W4];exact hc)]
 ·rename_i h1 h2;exact nx0 ⟨i+1,by omega,a2H (p:=b0R s e) default (by omega) ha (by rw[b0R,h1,W6,h2,W4];exact hc)⟩
 ·rename_i h1;exact nx0 ⟨i+1,by omega,a2H (p:=b0R s e) default (by omega) ha (by rw[b0R,h1,W6,hc];rfl)⟩
 ·rw[k6 (by omega)]at ha;rw[a3F,ha]
noncomputable def a8X:CT:=p6 (fun(x:c6×d6×c9) h=>b9t x.1 x.2.1 x.2.2 h)
@[go_sem] def c8o:=fun x0 x1 x2 x3 x4 x5=>nm' (fP' a8X rfl (⟨x0,⟨x1,x2⟩,x3⟩,⟨x4⟩,⟨x5⟩))
def b2R(r:c6)(s:d6)(e:c9)(hpre:l4 r=true):spZ 165 [(true,[.i .i64 r.Kind,.s r.Head.Name,n9 r.Head.Args,a0r r.Body]),(true,[v9 s.Rels]),(true,[u9 e.Binds])] [] (.one (false,[.b (a6U r s e)])):=by
 refine sy' Tryz.func165 (q' 3 [aX 4 0,aX 1 1,aX 1 2,aU false] (.seq (q' 15 [aG 3 3,aN,aK 0] (fO 0 19 [ar 18 17] 19 1 (q' 20 [am 18,aV 7] (q' 21 [aG 3 3,am 7,aI 10,aE 10,ax (w' 8 [.i .i64,.s,.sl j3,.i .i64,.s,.i .i64,.s,.s,.i .i64,.s]),aS 10 8 25] (.seq (q' 26 [aG 0 8,aC .eql 27 3] (ci 28 (q' 30 [ae 1 5,af 4 8,aE 3,ac 256 [30,32],aV 29,aZ 29 0,aZ 29 1,ax (w' 9 [.i .i64,.s]),aS 2 9 34,aV 10] (q' 37 [ae 1 5,af 7 8,aE 3,ac 256 [37,39],aV 36,aZ 36 0,aZ 36 1,ax (w' 11 [.i .i64,.s]),aS 2 11 41,aV 12] (.seq (q' 43 [aG 3 8,ae 2 9,ae 2 11,ac 257 [44,45,46],aO 47] (ci 48 (q' 6 [aU false] .ret))) (.exit 1)))))) (q' 50 [ae 1 5,af 1 8,aG 1 51,ac 178 [50,53],aV 49,aZ 49 0,aZ 49 1,ax (w' 13 [.sl l3]),aS 1 13 55,aV 14] (.seq (G' 57 [ae 1 4,af 1 8,aG 0 58,ae 1 13,ac 258 [57,60,61],aG 0 8,aC .eql 64 1,ao (.binb .neq (.t 62) (.t 65))]) (ci 66 (q' 6 [aU false] .ret))))))) (g' 67 [aA 18]))) (q' 6 [aU true] .ret))) [.t 6] [(178,[],a6N),(258,[],a9f),(256,[],a3A),(257,[],a5E)] ?_;intro hb hE;simp only[go_sem];repeat' first|apply cj'|intro hc|exact om'|fail
 refine lq' false [3,4,5,17] [6,8,10] [] (fun i:{i:Nat // i<=r.Body.length/\(r.Body.take i).all (b5C s e)=true}=>[(18,slV (.i .i64 i.1))]) nl' nl' (fun i=>r.Body.length-i.1) (⟨0,by simp⟩) ?_;intro S0 hS0 i;obtain⟨i,hi,ha⟩:=i;have hT:=fun(h1:i<r.Body.length) (h2:((r.Body.getD i default).Kind==3)=false)=>b7X hpre h1 h2
 simp only[go_sem,hS0];repeat' first|apply cj'|intro hc|exact om'|fail
 ·rename_i h1;rw[hX_no (i:=i) (by omega) (by rw[b5C,h1,W4];exact hc)]
 ·rename_i h1;exact nx0 ⟨i+1,by omega,a2H (p:=b5C s e) default (by omega) ha (by rw[b5C,h1,W4];exact hc)⟩
 ·exact(hT (by omega) hc).2
 ·rename_i h1;rw[hX_no (i:=i) (by omega) (by rw[b5C,h1,W6];exact hc)]
 ·rename_i h1;exact nx0 ⟨i+1,by omega,a2H (p:=b5C s e) default (by omega) ha (by rw[b5C,h1,W6];exact hc)⟩
 ·rw[k6 (by omega)]at ha;rw[a6U,ha]
noncomputable def a5O:CT:=p6 (fun(x:c6×d6×c9) h=>b2R x.1 x.2.1 x.2.2 h)
@[go_sem] def c3C:=fun x0 x1 x2 x3 x4 x5=>nm' (fP' a5O rfl (⟨x0,⟨x1,x2⟩,x3⟩,⟨x4⟩,⟨x5⟩))
end Go.Aw
namespace Go.Aw
open Go.Proofs Go.Shelf
attribute [local irreducible] aft blk lpK retK AW A0p
set_option linter.all false
set_option maxRecDepth 100000
set_option maxHeartbeats 4000000
attribute [local irreducible] RM
def Comp(vs:List (List UInt8))(e:c9):Prop:=EnvS e.Binds/\e.Binds.map c4.Var=vs
def Comp.len{vs:List (List UInt8)}{a b:c9}(ha:Comp vs a)(hb:Comp vs b):a.Binds.length=b.Binds.length:=by
 have:=congrArg List.length (ha.2.trans hb.2.symm);simpa using this
def Comp.cmp{vs:List (List UInt8)}{a b:c9}(ha:Comp vs a)(hb:Comp vs b):a3C a.Binds b.Binds=bif z9 a b then-1 else bif z9 b a then 1 else 0:=
 b4p (fun x hx=>(ha.1.1 x hx).2) (fun x hx=>(hb.1.1 x hx).2) (ha.2.trans hb.2.symm)
def Comp.eq0{vs:List (List UInt8)}{a b:c9}(ha:Comp vs a)(hb:Comp vs b)(h:(a3C a.Binds b.Binds==0)=true):a=b:=by
 rw[ha.cmp hb]at h;cases h1:z9 a b with
 | true=>rw[h1,W4]at h;exact absurd h (by decide)
 | false=>
   cases h2:z9 b a with
   | true=>rw[h1,h2,W6,W4]at h;exact absurd h (by decide)
   | false=>exact a2u.tri _ _ h1 h2
def Comp.ne0{vs:List (List UInt8)}{a b:c9}(ha:Comp vs a)(hb:Comp vs b)(h:(a3C a.Binds b.Binds==0)=false):¬a=b:=by
 rintro rfl;rw[ha.cmp hb,a2u.irr]at h;exact absurd h (by decide)
def Comp.lt1{vs:List (List UInt8)}{a b:c9}(ha:Comp vs a)(hb:Comp vs b):(a3C a.Binds b.Binds==-1)=z9 a b:=by
 rw[ha.cmp hb];cases z9 a b with
 | true=>rfl
 | false=>cases z9 b a<;>rfl
def Comp.by{vs:List (List UInt8)}{a b:c9}(ha:Comp vs a)(hb:Comp vs b):decide (a2V a.Binds.length (b8W a.Binds b.Binds)<0)=z9 a b:=by
 have h1:sgn (a2V a.Binds.length (b8W a.Binds b.Binds))=a3C a.Binds b.Binds:=c0P fun i hi=>b1z (ha.1.1 _ (y6 default hi)).2 (hb.1.1 _ (y6 default (by rw[<-ha.len hb];exact hi))).2
 rw[ha.cmp hb]at h1;generalize a2V a.Binds.length (b8W a.Binds b.Binds)=x at h1;unfold sgn at h1;cases h:z9 a b with
 | true=>rw[h,W4]at h1;exact V0 (by omega)
 | false=>
   rw[h,W6]at h1;cases h2:z9 b a with
   | true=>rw[h2,W4]at h1;exact V3 (by omega)
   | false=>rw[h2,W6]at h1;exact V3 (by omega)
def b2S(a:c9)(b:c9)(hpre:a.Binds.length=b.Binds.length):spZ 259 [(true,[u9 a.Binds]),(true,[u9 b.Binds])] [] (.one (false,[.i .i64 (a3C a.Binds b.Binds)])):=by
 refine sy' Tryz.func259 (q' 2 [aX 1 0,aX 1 1,aK 0] (.seq (q' 6 [aG 0 2,aN,aK 0] (fO 0 10 [ar 9 8] 10 1 (q' 11 [am 9,aV 5] (.seq (.seq (G' 12 [aG 0 2,am 5,aI 3,aF 1,aE 2,aG 0 3,am 5,aI 3,aF 1,aE 2,ac 315 [17,23]]) (ci 24 (q' 4 [ao (.mov (.k (.v false [.c (.i .i64 (-1))])))] .ret))) (.seq (G' 25 [aG 0 3,am 5,aI 3,aF 1,aE 2,aG 0 2,am 5,aI 3,aF 1,aE 2,ac 315 [30,36]]) (ci 37 (q' 4 [aK 1] .ret))))) (g' 38 [aA 9]))) (q' 4 [aK 0] .ret))) [.t 4] [(315,[],a3s)] ?_;intro hb hE;simp only[go_sem];repeat' first|apply cj'|intro hc|exact om'|fail
 refine lq' false [2,3,8] [4,6] [] (fun i:{i:Nat // i<=a.Binds.length/\∀j,j<i->a7y (a.Binds.getD j default).Val (b.Binds.getD j default).Val=0}=>[(9,slV (.i .i64 i.1))]) nl' nl' (fun i=>a.Binds.length-i.1) (⟨0,by simp⟩) ?_;intro S0 hS0 i;obtain⟨i,hi,hz⟩:=i;simp only[go_sem,hS0];repeat' first|apply cj'|intro hc|exact om'|fail
 ·rw[b1p hz (by rw[a7y,hc,W4];decide) (by omega),a7y,hc];rfl
 ·rename_i h1;rw[b1p hz (by rw[a7y,h1,hc];decide) (by omega),a7y,h1,hc];rfl
 ·rename_i h1;exact nx0 ⟨i+1,by omega,fun j hj=>(q2U.1 hj).elim (hz j) (fun q=>q▸(by rw[a7y,h1,hc];rfl))⟩
 ·rw[c1d fun j hj=>hz j (by omega)]
noncomputable def a5P:CT:=p6 (fun(x:c9×c9) h=>b2S x.1 x.2 h)
@[go_sem] def c3D:=fun x0 x1=>nm' (fP' a5P rfl (⟨x0⟩,⟨x1⟩))
def b7u(l:List c9)(e:c9)(hpre:l.length<=4000/\∃vs,Comp vs e/\∀x∈l,Comp vs x):spZ 166 [(false,[b7V l]),(true,[u9 e.Binds])] [] (.one (false,[b7V (a0f z9 l e)])):=by
 refine sx' false true none Tryz.func166 (q' 3 [aX 1 1,ao (.mov (.k (.v false [.nl a1t])))] (q' 9 [ao (.bsl 1 0 [.sl j3] []),aV 5] (q' 6 [aU false] (.seq (q' 10 [am 0,aN,aK 0] (fO 0 13 [ar 12 11] 13 1 (q' 14 [am 12,aV 7] (.seq (G' 15 [ae 1 3,aM [0,7],aI 1,aE 1,ac 259 [15,19],aV 8]) (.seq (q' 21 [am 8,aC .eql 21 0] (ci 22 (q' 23 [am 0,aV 4] .ret))) (.seq (q' 24 [am 6,aO 24,am 25,aH 26 true [bm 8,bC .eql 27 (-1)],aP 26 28] (ci 29 (q' 30 [am 5,ae 1 3,ao (.bsl 1 1 [.sl j3] [(0,.t 31)]),ao (.app 1 24 [.sl j3] (.t 30) (.t 32)),aV 5] (g' 6 [aU true])))) (g' 34 [aM [5,0,7],aI 1,aE 1,ao (.bsl 1 1 [.sl j3] [(0,.t 38)]),ao (.app 1 24 [.sl j3] (.t 34) (.t 39)),aV 5]))))) (g' 41 [aA 12]))) (.seq (q' 42 [am 6,aO 42] (ci 43 (g' 44 [am 5,ae 1 3,ao (.bsl 1 1 [.sl j3] [(0,.t 45)]),ao (.app 1 24 [.sl j3] (.t 44) (.t 46)),aV 5]))) (q' 48 [am 5,aV 4] .ret)))))) [.t 4] [(259,[],a5P)] ?_;intro hb hE;obtain⟨hlen,vs,he,hl0⟩:=hpre;simp only[go_sem];repeat' first|apply cj'|intro hc|exact om'|fail
 refine lk' false [(false,5,0,100010)] [0,3,11] [6] [] (fun i:{i:Nat // i<=l.length/\¬e∈l.take i}=>[(5,.v false [.ow 100010]),(6,slV (.b ((l.take i.1).any (z9 e)))),(12,slV (.i .i64 i.1))]) nl' (fun i=>[(100010,a1t,(a0J z9 e (l.take i.1)).map (c9.cells false false))]) (fun i=>l.length-i.1) (⟨0,by simp⟩) ?_;intro S0 hS0 i;obtain⟨i,hi,hm⟩:=i;have hl:=a9r z9 e (l.take i);rw[V9]at hl;have hC:=fun(h:i<l.length)=>hl0 _ (y6 (l:=l) default h)
 simp only[go_sem,hS0];repeat' first|apply cj'|intro hc|exact om'|fail
 ·exact he.len (hC (by omega))
 ·have hm2:e∈l:=by rw[he.eq0 (hC (by omega)) hc];exact y6 default (by omega)
  rw[a0f,if_pos hm2]
 ·rename_i h0;have hx:=l6 (l:=l) default (i:=i) (by omega);have hn:¬e∈l.take (i+1):=by rw[hx];simp only[W9,q0D];rintro(h|h);exact hm h;exact he.ne0 (hC (by omega)) h0 h
  have h5:z9 e (l.getD i default)=true:=by rw[<-he.lt1 (hC (by omega))];exact hc.2
  have h1:(l.take (i+1)).any (z9 e)=true:=by rw[hx,q1J,hc.1,q2H,h5];rfl
  have h2:a0J z9 e (l.take (i+1))=a0J z9 e (l.take i)++[e]++[l.getD i default]:=by rw[hx,a9q hc.1 h5]
  (refine lpK_n2 (⟨i+1,by omega,hn⟩) _ (by simp only[go_sem];try rfl) ?_;simp only[go_sem,hS0]<;>repeat' first|apply V1|exact on'|fail)
  all_goals first|rw[h1]|rw[h2]|trace_state
 ·rename_i h0;have hx:=l6 (l:=l) default (i:=i) (by omega);have hn:¬e∈l.take (i+1):=by rw[hx];simp only[W9,q0D];rintro(h|h);exact hm h;exact he.ne0 (hC (by omega)) h0 h
  have h3:(l.take (i+1)).any (z9 e)=(l.take i).any (z9 e)/\a0J z9 e (l.take (i+1))=a0J z9 e (l.take i)++[l.getD i default]:=by
   rw[hx];cases h:(l.take i).any (z9 e)with
   | true=>exact⟨by rw[q1J,h];rfl,a6V h⟩
   | false=>
     rw[h,he.lt1 (hC (by omega))]at hc;have hc2:z9 e (l.getD i default)=false:=hc;exact⟨by rw[q1J,h,q2H,hc2];rfl,b4F h hc2⟩
  (refine lpK_n2 (⟨i+1,by omega,hn⟩) _ (by simp only[go_sem];try rfl) ?_;simp only[go_sem,hS0]<;>repeat' first|apply V1|exact on'|fail)
  all_goals first|rw[h3.1]|rw[h3.2]|trace_state
 ·rw[k6 (by omega)]at hc hm ⊢;rw[a6X hm hc]
 ·rw[k6 (by omega)]at hc hm ⊢;rw[a6W hm hc]
noncomputable def a7Y:CT:=p6 (fun(x:(List c9)×c9) h=>b7u x.1 x.2 h)
@[go_sem] def c7m:=fun l x0=>nm' (fP' a7Y rfl (l,⟨x0⟩))
def c7F(a:List c9)(hpre:a.length<4611686018427387904/\∃vs,∀x∈a,Comp vs x):spZ 153 [(false,[.sl true [.sl false [.s [],.i .i64 0,.s []] []] (a.map (c9.cells false false))]),(false,[.f 154 []])] [(0,(false,[.sl true [.sl false [.s [],.i .i64 0,.s []] []] ((a1s z9 a).map (c9.cells false false))]))] (.tup []):=by
 obtain⟨hlen,vs,hd⟩:=hpre;exact b8o Tryz.sortEnv (by kernel_rfl) (k:=1) (fun w=>rfl) (fun w=>rfl) (cf:=c9.cells false false) (cb:=c9.cells false false) (z:=[.sl false [.s [],.i .i64 0,.s []] []]) rfl (fun x=>by simp only[go_sem]) (fun _=>rfl) (dom:=Comp vs) (fun x y=>a2V x.Binds.length (b8W x.Binds y.Binds)) a2u (fun x y hx hy=>hx.by hy) (enters_of Tryz.func154 (by kernel_rfl) rfl) (fun x y hx hy=>a9t x y (hx.len hy)) a hd hlen
noncomputable def b7M:CT:=p6 (fun(x:(List c9)) h=>c7F x h)
@[go_sem] def d1l:=fun a=>nm' (fP' b7M rfl a)
def a7q{r:c6}{s:d6}{l:List c9}{i:Nat}(h:i<l.length):a4w r s (l.take (i+1))=a4w r s (l.take i)++(bif a3F r s (eqE r (l.getD i default))then[eqE r (l.getD i default)]else[]):=by
 rw[a4w,a4w,l6 default h,q1U,List.filter_append]
 congr 1
 all_goals(simp only[V8,q0K,q5L,List.filter_nil];cases a3F r s (eqE r (l.getD i default))<;>rfl)
def a3H{r:c6}{s:d6}(hr:l4 r=true)(hs:u7 s=true):(a0H r s).1.length<=2000/\(∀e∈(a0H r s).1,e.Binds.length<=100/\EnvS e.Binds/\∀l∈r.Body,Rooted s e l)/\∃vs,∀e∈a4w r s (a0H r s).1,Comp vs e:=by
 rw[a0H];cases h:a0z r s r.Body.length with
 | none=>exact⟨by simp,by simp,[],by simp[a4w]⟩
 | some l=>
   have hJ:=Jn.all hr hs (q0A _) h;have h8:=body8 hr;obtain⟨vs,ha⟩:=hJ.alk;obtain⟨ws,hb⟩:=c1I (s:=s) hr ha;refine⟨b0B h,fun e he=>⟨by have:=hJ.len e he;omega,ha.ok e he,fun x hx=>?_⟩,ws,fun e he=>⟨hb.ok e he,hb.dom e he⟩⟩;obtain⟨i,hi,rfl⟩:=q2Y hx;have:=hJ.root e he i hi
   rwa [n8 default hi]at this
def c3R{r:c6}{s:d6}(hr:l4 r=true)(hs:u7 s=true):(a4w r s (a0H r s).1).Nodup:=by
 rw[a0H];cases h:a0z r s r.Body.length with
 | none=>simp[a4w]
 | some l=>
   obtain⟨vs,ha⟩:=(Jn.all hr hs (q0A _) h).alk;obtain⟨ws,hb⟩:=c1I (s:=s) hr ha;exact hb.nd
def c7U{l:List c9}(h:l.Nodup):a1s z9 l=t8 z9 [] l:=by
 refine SS.uniq a2u (SS.of_sorted a2u (a3i a2u l) ((a1i z9 l).nodup_iff.2 h)) (SS.puts a2u SS.nil) fun x=>?_
 rw[b0T,w9];simp
def b6T(r:c6)(s:d6)(hpre:l4 r=true/\u7 s=true):spZ 71 [(true,[.i .i64 r.Kind,.s r.Head.Name,n9 r.Head.Args,a0r r.Body]),(true,[v9 s.Rels])] [] (.tup [(false,[kTEnv ((l7 r s).1)]),(false,[.b ((l7 r s).2)])]):=by
 refine sy' Tryz.func71 (q' 2 [aX 4 0,aX 1 1,ao (.mov (.k (.v false [.nl a1t]))),aU false] (q' 12 [ae 4 2,ae 1 3,ac 150 [12,13],aV 11,aZ 11 0,aZ 11 1,av 6 15,aV 7] (.seq (q' 17 [am 7,aO 17] (ci 18 (q' 4 [ao (.mov (.k (.v false [.nl a1t]))),aU false] .ret))) (q' 19 [ao (.bsl 1 0 [.sl j3] []),aV 8] (.seq (q' 20 [am 6,aN,aK 0] (fO 0 23 [ar 22 21] 23 1 (q' 24 [ai 1 20 22,aE 1,ax (w' 10 [.sl j3]),aS 1 10 25] (q' 26 [ae 4 2,ae 1 10,ac 151 [26,27],aS 1 10 28] (q' 29 [ae 4 2,ae 1 3,ae 1 10,ac 152 [29,30,31]] (ci 32 (g' 33 [am 8,ae 1 10,ao (.bsl 1 1 [.sl j3] [(0,.t 34)]),ao (.app 1 24 [.sl j3] (.t 33) (.t 35)),aV 8]))))) (g' 37 [aA 22]))) (q' 38 [am 8,ao (.call 153 [.t 38,.k (.v false [.c (.f 154 [])])])] (q' 40 [am 8,aV 4,ab 5 true] .ret))))))) [.t 4,.t 5] [(150,[],a7I),(151,[],a5B),(152,[],a8X),(153,[0],b7M)] ?_;intro hb hE;have hpre0:=hpre;obtain⟨hr,hs⟩:=hpre;obtain⟨hl,hf,vs,hv⟩:=a3H hr hs;have hnd:=c3R hr hs;simp only[go_sem];repeat' first|apply cj'|intro hc|exact om'|fail
 ·rw[l7,hc];exact⟨rfl,rfl⟩
 refine lk' false [(false,8,0,100016)] [2,3,20,21] [4,6] [1792] (fun i:{i:Nat // i<=(a0H r s).1.length}=>[(8,.v false [.ow 100016]),(22,slV (.i .i64 i.1))]) nl' (fun i=>[(100016,a1t,(a4w r s ((a0H r s).1.take i.1)).map (c9.cells false false))]) (fun i=>(a0H r s).1.length-i.1) (⟨0,by simp⟩) ?_;intro S0 hS0 i;obtain⟨i,hi⟩:=i;have hol:=a9G r s ((a0H r s).1.take i);rw[V9]at hol;have hm:=fun(h:i<(a0H r s).1.length)=>hf _ (y6 default h)
 simp only[go_sem,hS0];repeat' first|apply cj'|intro hc|exact om'|fail
 ·exact⟨⟨hr,hs⟩,c3K hr (hm (by omega)).2.1⟩
 ·(refine lpK_n2 (⟨i+1,by omega⟩) _ (by simp only[go_sem];try rfl) ?_;simp only[go_sem,hS0]<;>repeat' first|apply V1|exact on'|fail)
  all_goals(rw[a7q (by omega),hc];rfl)
 ·(refine lpK_n2 (⟨i+1,by omega⟩) _ (by simp only[go_sem];try rfl) ?_;simp only[go_sem,hS0]<;>repeat' first|apply V1|exact on'|fail)
  all_goals(rw[a7q (by omega),hc];simp)
 ·rw[k6 (by omega)];exact⟨by have:=a9G r s (a0H r s).1;omega,vs,hv⟩
 ·rename_i h1;rw[k6 (by omega),c7U hnd,l7,h1];exact⟨rfl,rfl⟩
noncomputable def a4o:CT:=p6 (fun(x:c6×d6) h=>b6T x.1 x.2 h)
@[go_sem] def c6K:=fun x0 x1 x2 x3 x4=>nm' (fP' a4o rfl (⟨x0,⟨x1,x2⟩,x3⟩,⟨x4⟩))
def d0u{vs:List (List UInt8)}:∀{l a:List c9},(∀x∈a,Comp vs x)->(∀x∈l,Comp vs x)->∀x∈t8 z9 a l,Comp vs x:=fun{l a} h1 h2 x hx=>(w9.1 hx).elim (h1 x) (h2 x)
def b4E{r:c6}{s:d6}{e:c9}(hr:l4 r=true)(h:∀l∈r.Body,Rooted s e l):a6U r s (eqE r e)=a3F r s (eqE r e):=
 c9O hr fun l hl=>(h l hl).ext (b3b r e.Binds)
def d0o{r:c6}{s:d6}{l:List c9}{i:Nat}{x:c9}(h:x∈a4w r s (l.take i)):x∈a4w r s l:=by
 rw[a4w,q1M,q1E]at h ⊢;obtain⟨⟨e,he,hx⟩,h2⟩:=h;exact⟨⟨e,q2F he,hx⟩,h2⟩
def c4b(a l:List c9)(e:c9):t8 z9 a (l++[e])=a0f z9 (t8 z9 a l) e:=by
 simp only[t8,q3P,q2S,List.foldl_nil]
def b0O(r:c6)(s:d6)(hpre:l4 r=true/\u7 s=true):spZ 76 [(true,[.i .i64 r.Kind,.s r.Head.Name,n9 r.Head.Args,a0r r.Body]),(true,[v9 s.Rels])] [] (.tup [(false,[b7V ((l7 r s).1)]),(false,[.b ((l7 r s).2)])]):=by
 refine sx' false true none Tryz.func76 (q' 2 [aX 4 0,aX 1 1,ao (.mov (.k (.v false [.nl a1t]))),aU false] (q' 19 [ao (.bld [.sl j3] []),ao (.bsl 1 1 [.sl j3] [(0,.t 19)]),aV 6] (.seq (q' 21 [aG 3 2,aN,aK 0] (fO 0 25 [ar 24 23] 25 1 (q' 26 [am 24,aV 7] (q' 27 [aG 3 2,am 7,aI 10,aE 10,ax (w' 8 [.i .i64,.s,.sl j3,.i .i64,.s,.i .i64,.s,.s,.i .i64,.s]),aS 10 8 31] (.seq (q' 32 [aG 0 8,aC .neq 33 1] (ci 34 (.exit 1))) (q' 36 [ae 1 3,af 1 8,aG 0 37,ac 162 [36,39],aV 35,aZ 35 0,aZ 35 1,ax (w' 9 [.i .i64,.sl o8]),aS 2 9 41,aV 10] (q' 43 [ao (.bsl 1 0 [.sl j3] []),aV 11] (.seq (q' 44 [am 6,aN,aK 0] (fO 2 47 [ar 46 45] 47 3 (q' 48 [am 46,aV 12] (.seq (q' 49 [aG 1 9,aN,aK 0] (fO 4 53 [ar 52 51] 53 5 (q' 54 [am 52,aV 13] (.seq (rm' [(true,0,m' 56 6),(true,1,m' 57 12),(true,2,i' 58 1 56 57),(true,3,e' 59 1 58),(true,4,f' 60 1 8),(true,5,f' 61 1 60),(true,6,l' 62 61),(true,7,f' 63 1 9),(true,8,l' 64 63),(true,9,m' 65 13),(true,10,i' 66 1 64 65),(true,11,e' 67 1 66),(false,12,c' 68 163 [59,62,67]),(false,13,m' 55 68),(false,14,o' 69 (.ext (.t 55) 0)),(false,15,o' 70 (.ext (.t 55) 1)),(false,16,w' 14 [.sl j3]),(false,17,s' 1 14 69),(false,18,m' 15 70)] [[0,1,2,3,4,5,6,7,8,9,10,11,12,13,14, 16,15,17,18],[0,1,2,3,4,5,6,7,8,9,10,11,12,13,14,16,17,15,18],[0,1,2,3,4,5,6,7,8,9,10,11,12,13,15,16,14,17,18],[0, 1,2,3,4,5,6,7,8,9,10,11,12,13,16,14,15,17,18],[0,1,2,3,4,5,6,7,8,9,10,11,12,13,16,14,17,15,18],[0,1,2,3,4,5,6,7, 8,9,10,11,12,16,13,14,15,17,18],[0,1,2,3,4,5,6,7,8,9,10,11,12,16,13,14,17,15,18],[0,1,2,3,4,5,6,7,8,9,10,11,16,12, 13,14,15,17,18],[0,1,2,3,4,5,6,7,8,9,10,11,16,12,13,14,17,15,18]] [16,17,18,19]) (q' 71 [am 15] (ci 71 (g' 72 [am 11,ae 1 14,ao (.bsl 1 1 [.sl j3] [(0,.t 73)]),ao (.app 1 24 [.sl j3] (.t 72) (.t 74)),aV 11]))))) (g' 76 [aA 52]))) (q' 77 [am 11,aN,aC .gtr 78 2000] (ci 79 (q' 4 [ao (.mov (.k (.v false [.nl a1t]))),aU false] .ret))))) (g' 80 [aA 46]))) (g' 81 [am 11,aV 6]))))))) (g' 82 [aA 24]))) (q' 83 [ao (.bsl 1 0 [.sl j3] []),aV 16] (.seq (q' 84 [am 6,aN,aK 0] (fO 6 87 [ar 86 85] 87 7 (q' 88 [am 86,aV 17] (.seq (rm' [(true,0,e' 89 4 2),(true,1,m' 90 6),(true,2,m' 91 17),(true,3,i' 92 1 90 91),(true,4,e' 93 1 92),(false,5,c' 94 164 [89,93]),(false,6,w' 18 [.sl j3]),(false,7,s' 1 18 94)] [[0,1,2,3,4,6,5,7]] [4,5]) (q' 95 [ae 4 2,ae 1 3,ae 1 18,ac 165 [95,96,97]] (ci 98 (g' 99 [am 16,ae 1 18,ac 166 [99,100],aV 16]))))) (g' 102 [aA 86]))) (q' 103 [am 16,aV 4,ab 5 true] .ret)))))) [.t 4,.t 5] [(162,[],a4r),(163,[],a5K),(164,[],a5M),(165,[],a5O),(166,[],a7Y)] ?_;intro hb hE;obtain⟨hr,hs⟩:=hpre;have hb8:=body8 hr;simp only[go_sem];(repeat' first|apply cj'|intro hc|apply z6);(all_goals(try(refine(show A3U _ _ _ _ _ _ from ?_);simp only[go_sem]at hc ⊢;simp only[go_sem,A7u,A7y,A6L,A6K,A7t,A6J,nf_put_sub,A7w,A7v,nf_put_susK,nf_put_dip,nf_put_put,A7x,A7s,A6M,j8,j6,j4,j5,j7,nf_sub_sub]at hc ⊢;simp only[hc,q0R,q0I];done)));all_goals try exact om'
 refine lk' false [(false,6,0,100012)] [2,3,23] [4,6,17,19,5] [] (fun i:{q:Nat×List c9 // q.1<=r.Body.length/\a0z r s q.1=some q.2}=>[(6,.v false [.ow 100012]),(24,slV (.i .i64 i.1.1))]) nl' (fun i=>[(100012,a1t,i.1.2.map (c9.cells false false))]) (fun i=>r.Body.length-i.1.1) (⟨(0,[⟨[]⟩]),by simp,rfl⟩) ?_;intro S0 hS0 i;obtain⟨⟨n,now⟩,hn,hj⟩:=i;simp only at hn hj;have hJ:=Jn.all hr hs hn hj;have hl:=b0B hj;have hR:=a7s hs (r.Body.getD n default).Atom.Name;have hRl:=b1a hR;have hRe:(arR r s n).length=(a0u s (r.Body.getD n default).Atom.Name).1.Rows.length:=rfl;simp only[go_sem,hS0];(repeat' first|apply cj'|intro hc|apply z6);(all_goals(try(refine(show A3U _ _ _ _ _ _ from ?_);simp only[go_sem,hS0]at hc ⊢;simp only[go_sem,hS0,A7u,A7y,A6L,A6K,A7t,A6J,nf_put_sub,A7w,A7v,nf_put_susK,nf_put_dip,nf_put_put,A7x,A7s,A6M,j8,j6,j4,j5,j7,nf_sub_sub]at hc ⊢;simp only[hc,q0R,q0I];done)));all_goals try exact om'
 ·exact nk0 ⟨(n+1,now),by simp only;omega,b4K hj (by simpa[bne]using hc)⟩
 ·have hk:((r.Body.getD n default).Kind==1)=true:=by simpa[bne]using hc
  refine a1v 100012 ?_;refine lk' false [(false,11,0,100022)] [2,3,6,8,9,23,24,45] [4,6,16,18,17,19,5] [] (fun i:{j:Nat // j<=now.length/\(w5 (arA r n) (arR r s n) (now.take j)).length<=2000}=>[(11,.v false [.ow 100022]),(46,slV (.i .i64 i.1))]) nl' (fun i=>[(100022,a1t,(w5 (arA r n) (arR r s n) (now.take i.1)).map (c9.cells false false))]) (fun i=>now.length-i.1) (⟨0,by simp,by simp[w5]⟩) ?_;intro S1 hS1 i;obtain⟨j,hj1,hj2⟩:=i;simp only[go_sem,hS0,hS1];(repeat' first|apply cj'|intro hc|apply z6);(all_goals(try(refine(show A3U _ _ _ _ _ _ from ?_);simp only[go_sem,hS0,hS1]at hc ⊢;simp only[go_sem,hS0,hS1,A7u,A7y,A6L,A6K,A7t,A6J,nf_put_sub,A7w,A7v,nf_put_susK,nf_put_dip,nf_put_put,A7x,A7s,A6M,j8,j6,j4,j5,j7,nf_sub_sub]at hc ⊢;simp only[hc,q0R,q0I];done)));all_goals try exact om'
  ·have hm:=y6 (l:=now) default (i:=j) (by omega);have he6:=hJ.len _ hm;have hall:=c0o (A:=arA r n) (R:=arR r s n) (now:=now) (j:=j) (by omega);refine lk' false [(false,11,0,100022)] [2,3,6,8,9,12,23,24,45,46,51] [4,6,16,18,17,19,5] [] (fun i:{k:Nat // k<=(arR r s n).length}=>[(11,.v false [.ow 100022]),(52,slV (.i .i64 i.1))]) nl' (fun i=>[(100022,a1t,(b2o (arA r n) (now.getD j default) (arR r s n) (w5 (arA r n) (arR r s n) (now.take j)) i.1).map (c9.cells false false))]) (fun i=>(arR r s n).length-i.1) (⟨0,by simp⟩) ?_;intro S2 hS2 i;obtain⟨k,hk1⟩:=i;have hlk:=c0p (A:=arA r n) (e:=now.getD j default) (R:=arR r s n) (base:=w5 (arA r n) (arR r s n) (now.take j)) hk1;simp only[go_sem,hS0,hS1,hS2];(repeat' first|apply cj'|intro hc|apply z6);(all_goals(try((first|refine u1 12 rfl ?_);intro S hS B0 hB;simp only[go_sem,hS0,hS1,hS2,V7,q0O]at hS hB;(repeat(first|replace hS:=And.right hS|replace hS:=CJ.r hS));have Rr59:=congrArg (fun s:St=>s.sl 59) hS;have Rr62:=congrArg (fun s:St=>s.sl 62) hS;have Rr67:=congrArg (fun s:St=>s.sl 67) hS;have Rb16:=congrArg (fun s:St=>s.bx 16) hS;have Rb17:=congrArg (fun s:St=>s.bx 17) hS;have Rb18:=congrArg (fun s:St=>s.bx 18) hS;have Rb19:=congrArg (fun s:St=>s.bx 19) hS;clear hS;simp only[go_sem,hS0,hS1,hS2]at Rr59 Rr62 Rr67 Rb16 Rb17 Rb18 Rb19;(try clear hc);intro K hc;simp only[go_sem,hS0,hS1,hS2,Rr59,Rr62,Rr67,Rb16,Rb17,Rb18,Rb19,hB,V8,q0K,V6,q0G]at hc ⊢;simp only[go_sem,hS0,hS1,hS2,Rr59,Rr62,Rr67,Rb16,Rb17,Rb18,Rb19,hB,A7u,A7y,A6L,A6K,A7t,A6J,nf_put_sub,A7w,A7v,nf_put_susK,nf_put_dip,nf_put_put,A7x,A7s,A6M,j8,j6,j4,j5,j7,nf_sub_sub]at hc ⊢;(first|(simp only[hc,q0R,q0I];done)|((repeat' first|exact hc|apply V1);done)))));all_goals try exact om'
   ·exact⟨by omega,c1P hR (by omega)⟩
   ·(refine lpK_n2 (⟨k+1,by omega⟩) _ (by simp only[go_sem,hS0,hS1];try rfl) ?_;simp only[go_sem,hS0,hS1,hS2]<;>repeat' first|apply V1|exact on'|fail)
    all_goals(rw[b2o,b4u hc];rfl)
   ·(refine lpK_n2 (⟨k+1,by omega⟩) _ (by simp only[go_sem,hS0,hS1];try rfl) ?_;simp only[go_sem,hS0,hS1,hS2]<;>repeat' first|apply V1|exact on'|fail)
    all_goals(rw[b2o,b9g hc];simp)
   ·obtain rfl:k=(arR r s n).length:=by omega
    rw[hall]at hc;rw[l7,b7U hj (by omega) hk (j:=j+1) (show 2000<(w5 (arA r n) (arR r s n) (now.take (j+1))).length by omega)];exact⟨rfl,rfl⟩
   ·obtain rfl:k=(arR r s n).length:=by omega
    rw[hall]at hc
    (refine lpK_n2 (⟨j+1,by omega,by omega⟩) _ (by simp only[go_sem,hS0,hS1];try rfl) ?_;simp only[go_sem,hS0,hS1,hS2]<;>repeat' first|apply V1|exact on'|fail)
    all_goals rw[hall]
  ·rw[k6 (by omega)]at hj2
   (refine lpK_n2 (⟨(n+1,w5 (arA r n) (arR r s n) now),by simp only;omega,c1n hj hk hj2⟩) _ (by simp only[go_sem,hS0,hS1];try rfl) ?_;simp only[go_sem,hS0,hS1]<;>repeat' first|apply V1|exact on'|fail)
   all_goals rw[k6 (by omega)]
 obtain rfl:n=r.Body.length:=by omega
 have hJR:=c1o hj;obtain⟨_,hf,vs,hv⟩:=a3H hr hs;rw[hJR]at hf hv;simp only at hf hv;refine a1v 100012 ?_;refine a1v 10624 ?_;refine lq' false [2,3,6,85] [4,6,5] [] (fun i:{i:Nat // i<=now.length}=>[(16,.v false [.c (b7V (t8 z9 [] (a4w r s (now.take i.1))))]),(86,slV (.i .i64 i.1))]) nl' nl' (fun i=>now.length-i.1) (⟨0,by simp⟩) ?_;intro S3 hS3 i;obtain⟨i,hi⟩:=i;have hol:=a9G r s (now.take i);rw[V9]at hol;have hpl:=a1B z9 (a4w r s (now.take i)) [];have hm:=fun(h:i<now.length)=>hf _ (y6 default h)
 have hsub:∀k,∀x∈a4w r s (now.take k),Comp vs x:=fun k x hx=>hv x (d0o hx)
 have hsy:=fun(h:i<now.length) (hc:a6U r s (eqE r (now.getD i default))=true)=>(a7q (r:=r) (s:=s) h).trans (by rw[(b4E hr (hm h).2.2).symm,hc,W4])
 have hsn:=fun(h:i<now.length) (hc:a6U r s (eqE r (now.getD i default))=false)=>(a7q (r:=r) (s:=s) h).trans (by rw[(b4E hr (hm h).2.2).symm,hc,W6,q0J])
 simp only[go_sem,hS0,hS3];(repeat' first|apply cj'|intro hc|apply z6);(all_goals(try((first|refine u1 5 rfl ?_);intro S hS B0 hB;simp only[go_sem,hS0,hS3,V7,q0O]at hS hB;(repeat(first|replace hS:=And.right hS|replace hS:=CJ.r hS));have Rr89:=congrArg (fun s:St=>s.sl 89) hS;have Rr93:=congrArg (fun s:St=>s.sl 93) hS;have Rb4:=congrArg (fun s:St=>s.bx 4) hS;have Rb5:=congrArg (fun s:St=>s.bx 5) hS;clear hS;simp only[go_sem,hS0,hS3]at Rr89 Rr93 Rb4 Rb5;(try clear hc);intro K hc;simp only[go_sem,hS0,hS3,Rr89,Rr93,Rb4,Rb5,hB,V8,q0K,V6,q0G]at hc ⊢;simp only[go_sem,hS0,hS3,Rr89,Rr93,Rb4,Rb5,hB,A7u,A7y,A6L,A6K,A7t,A6J,nf_put_sub,A7w,A7v,nf_put_susK,nf_put_dip,nf_put_put,A7x,A7s,A6M,j8,j6,j4,j5,j7,nf_sub_sub]at hc ⊢;(first|(simp only[hc,q0R,q0I];done)|((repeat' first|exact hc|apply V1);done)))));all_goals try exact om'
 ·have h1:=hsy (by omega) hc;refine⟨by simp only[q0X]at hpl;omega,vs,hsub (i+1) _ (by rw[h1];simp),d0u (by intro x hx;cases hx) (hsub i)⟩
 ·have h1:=hsy (by omega) hc
  (refine lpK_n2 (⟨i+1,by omega⟩) _ rfl ?_;simp only[go_sem,hS0,hS3]<;>repeat' first|apply V1|exact on'|fail)
  all_goals rw[h1,c4b]
 ·have h1:=hsn (by omega) hc
  (refine lpK_n2 (⟨i+1,by omega⟩) _ rfl ?_;simp only[go_sem,hS0,hS3]<;>repeat' first|apply V1|exact on'|fail)
  all_goals rw[h1]
 ·rw[k6 (by omega),l7,hJR];exact⟨rfl,rfl⟩
noncomputable def a2t:CT:=p6 (fun(x:c6×d6) h=>b0O x.1 x.2 h)
@[go_sem] def c2w:=fun x0 x1 x2 x3 x4=>nm' (fP' a2t rfl (⟨x0,⟨x1,x2⟩,x3⟩,⟨x4⟩))
end Go.Aw
namespace Go.Aw
open Go.Proofs
attribute [local irreducible] aft blk lpK retK AW A0p
set_option linter.all false
set_option maxRecDepth 100000
set_option maxHeartbeats 4000000
attribute [local irreducible] RM
def a2I{r:c6}{s:d6}(hr:l4 r=true)(hs:u7 s=true):(l7 r s).1.length<=2000/\∀e∈(l7 r s).1,e.Binds.length<=164:=by
 obtain⟨hl,hf,_⟩:=a3H hr hs;rw[l7];cases(a0H r s).2 with
 | false=>exact⟨q2G _,by intro e he;cases he⟩
 | true=>
   rw[W4];refine⟨?_,fun e he=>?_⟩
   ·have h1:=a1B z9 (a4w r s (a0H r s).1) [];have h2:=a9G r s (a0H r s).1;simp only[q0X]at h1;simp only;omega
   ·have h1:=(w9.1 he).resolve_left (by intro h;cases h);rw[a4w,q1M,q1E]at h1;obtain⟨⟨e',he',rfl⟩,_⟩:=h1;have h3:=(hf e' he').1;have h4:=eqR_len r e'.Binds;have h5:=a3m hr;simp only[eqE];omega
noncomputable def a0p(r:c6)(s:d6):List c9×Bool:=bif l4 r&&(!decide (0<((a0P r).length:Int))&&u7 s)then l7 r s else([],false)
def c6z(r:c6)(s:d6):(a0p r s).1.length<=2000/\∀e∈(a0p r s).1,e.Binds.length<=164:=by
 unfold a0p;cases h:l4 r&&(!decide (0<((a0P r).length:Int))&&u7 s)with
 | false=>exact⟨q2G _,by intro e he;cases he⟩
 | true=>
   simp only[W7]at h;exact a2I h.1 h.2.2
def b4a{r:c6}{s:d6}(h:(l4 r=false\/0<((a0P r).length:Int))\/u7 s=false):a0p r s=([],false):=by
 have:(l4 r&&(!decide (0<((a0P r).length:Int))&&u7 s))=false:=by
  rcases h with(h|h)|h
  ·rw[h];rfl
  ·rw[V0 h];simp
  ·rw[h];simp
 rw[a0p,this,W6]
def a7m{r:c6}{s:d6}(h:(l4 r=true/\¬0<((a0P r).length:Int))/\u7 s=true):a0p r s=l7 r s:=by
 rw[a0p,h.1.1,h.2,V3 h.1.2];rfl
def c0A{r:c6}{s:d6}(h:(l7 r s).2=false):(l7 r s).1=[]:=by
 unfold l7 at*;cases hj:(a0H r s).2 with
 | false=>rfl
 | true=>rw[hj]at h;cases h
def b7a(r:c6)(s:d6):spZ 24 [(true,[.i .i64 r.Kind,.s r.Head.Name,n9 r.Head.Args,a0r r.Body]),(true,[v9 s.Rels])] [] (.tup [(false,[b7V ((a0p r s).1)]),(false,[.b ((a0p r s).2)])]):=by
 refine sx' false true none Tryz.func24 (q' 2 [aX 4 0,aX 1 1,ao (.mov (.k (.v false [.nl a1t]))),aU false] (.seq (q' 6 [ae 4 2,ac 73 [6],aO 7,am 8,aH 9 false [be 4 2,bc 74 [10],bN,bC .gtr 12 0],aQ 9 13,am 14,aH 15 false [be 1 3,bc 75 [16],bO 17],aQ 15 18] (ci 19 (q' 4 [ao (.mov (.k (.v false [.nl a1t]))),aU false] .ret))) (q' 20 [ae 4 2,ae 1 3,ac 76 [20,21],aZ 22 0,aZ 22 1,av 4 23,aV 5] .ret))) [.t 4,.t 5] [(73,[],a1m),(74,[],a4J),(75,[],a6z),(76,[],a2t)] ?_;intro hb hE;simp only[go_sem];repeat' first|apply cj'|intro hc|exact om'|fail
 ·rw[b4a hc];exact⟨rfl,rfl⟩
 ·exact⟨hc.1.1,hc.2⟩
 ·rw[a7m hc];exact⟨rfl,rfl⟩
noncomputable def a7L:CT:=o9 (fun(x:c6×d6)=>b7a x.1 x.2)
@[go_sem] def c6R:=fun x0 x1 x2 x3 x4=>nm' (fQ' a7L rfl (⟨x0,⟨x1,x2⟩,x3⟩,⟨x4⟩))
def a8c(r:c6)(s:d6):spZ 23 [(true,[.i .i64 r.Kind,.s r.Head.Name,n9 r.Head.Args,a0r r.Body]),(true,[v9 s.Rels])] [] (.tup [(false,[kDEnv ((a0p r s).1)]),(false,[.b ((a0p r s).2)])]):=by
 refine sx' true false none Tryz.func23 (q' 2 [aX 4 0,aX 1 1,ao (.mov (.k (.v false [.nl a1t]))),aU false] (.seq (q' 11 [ae 4 2,ac 69 [11],aO 12,am 13,aH 14 false [be 4 2,bc 67 [15],bN,bC .gtr 17 0],aQ 14 18,am 19,aH 20 false [be 1 3,bc 70 [21],bO 22],aQ 20 23] (ci 24 (q' 4 [ao (.mov (.k (.v false [.nl a1t]))),aU false] .ret))) (q' 26 [ae 4 2,ae 1 3,ac 71 [26,27],aV 25,aZ 25 0,aZ 25 1,av 6 29,aV 7] (.seq (q' 31 [am 7,aO 31] (ci 32 (q' 4 [ao (.mov (.k (.v false [.nl a1t]))),aU false] .ret))) (q' 33 [ao (.bsl 1 0 [.sl j3] []),aV 8] (.seq (q' 34 [am 6,aN,aK 0] (fO 0 37 [ar 36 35] 37 1 (q' 38 [ai 1 34 36,aE 1,ax (w' 10 [.sl j3]),aS 1 10 39] (g' 40 [am 8,aG 0 10,ac 72 [42],ao (.bld [.sl j3] [(0,1,.t 43)]),ao (.bsl 1 1 [.sl j3] [(0,.t 44)]),ao (.app 1 24 [.sl j3] (.t 40) (.t 45)),aV 8])) (g' 47 [aA 36]))) (q' 48 [am 8,aV 4,ab 5 true] .ret))))))) [.t 4,.t 5] [(69,[],a2A),(67,[],a2q),(70,[],a3o),(71,[],a4o),(72,[],a6m)] ?_;intro hb hE;simp only[go_sem];repeat' first|apply cj'|intro hc|exact om'|fail
 ·rw[b4a hc];exact⟨rfl,rfl⟩
 ·exact⟨hc.1.1,hc.2⟩
 ·rename_i h1;rw[a7m h1,hc,c0A hc];exact⟨rfl,rfl⟩
 rename_i h1;obtain⟨hl,hb⟩:=a2I h1.1.1 h1.2;refine a1v 3584 ?_;refine lk' true [(false,8,0,100016)] [34,35] [] [] (fun i:{i:Nat // i<=(l7 r s).1.length}=>[(8,.v false [.ow 100016]),(36,slV (.i .i64 i.1))]) nl' (fun i=>[(100016,zTEnv,((l7 r s).1.take i.1).map (c9.cells true true))]) (fun i=>(l7 r s).1.length-i.1) (⟨0,by simp⟩) ?_;intro S0 hS0 i;obtain⟨i,hi⟩:=i;have hm:=fun(h:i<(l7 r s).1.length)=>hb _ (y6 default h)
 have hsn:i<(l7 r s).1.length->(l7 r s).1.take (i+1)=(l7 r s).1.take i++[(l7 r s).1.getD i default]:=fun h=>l6 default h
 have hol:((l7 r s).1.take i).length=i:=by rw[V9];omega
 simp only[go_sem,hS0];repeat' first|apply cj'|intro hc|exact om'|fail
 ·(refine lpK_n2 (⟨i+1,by omega⟩) _ (by simp only[go_sem];try rfl) ?_;simp only[go_sem,hS0]<;>repeat' first|apply V1|exact on'|fail)
  all_goals rw[hsn (by omega)]
 ·rw[a7m h1,k6 (by omega)];exact⟨rfl,Eq.symm (by assumption)⟩
noncomputable def b6H:CT:=o9 (fun(x:c6×d6)=>a8c x.1 x.2)
@[go_sem] def c6C:=fun x0 x1 x2 x3 x4=>nm' (fQ' b6H rfl (⟨x0,⟨x1,x2⟩,x3⟩,⟨x4⟩))
end Go.Aw
namespace Go.Aw
open Go.Proofs Go.Shelf Go.Sort Go.Lib Go.RowKit
set_option linter.all false
set_option maxRecDepth 1000000
set_option maxHeartbeats 4000000
def c0T(a:Option Addr)(cap:Nat)(g:Nat)(w:World):Calls Tryz.prog 266 #[.slice a 0 cap,.func (.func g) #[] #[]] w fun e w'=>e=.returned (.slice a 0 cap)/\w'=w:=by
 have h1:((0:Nat):Int)<2:=by omega
 go_enter Tryz.func266,Tryz.ntmps266
 go_wp2
 go_ret
 exact⟨rfl,rfl⟩
def c3H{α:Type}[Inhabited α](k:Nat)(zE:∀w,(Go.sizeOf 70).run Tryz.prog w=.ok k w)(z:Value)(hzv:∀w,(zeroValue 70).run Tryz.prog w=.ok z w)(hzs:z.cells.size=k)(hz1:∀n,∀v∈(Builtin.zeroCells z.cells n).toList,v.oneCell'=true)(enc:α->List Value)(hk:∀x,(enc x).length=k)(h1:∀x,∀v∈enc x,v.oneCell'=true)(eq:α->α->Bool)(g:Nat)(eg:∀args w,(callFunc g args).run Tryz.prog w=.ok (.enter g args) w)
  (blk off cap:Nat) (d:Array α) (w:World) (hq:b8w Tryz.prog g enc k eq blk off d.size w) (hH:HoldsK enc k w blk off d) (hblk:blk<w.heap.size) (hcap:d.size<=cap) (hsz:d.size<4611686018427387904):
  Calls Tryz.prog 266 #[.slice (some ⟨blk,off,none⟩) d.size cap,.func (.func g) #[] #[]] w fun e w'=>e=.returned (.slice (some ⟨blk,off,none⟩) (keptUpTo (kpE eq d) d d.size).length cap)/\b8v enc k w blk off d (kpE eq d) w':=by
 have u0:=run_underlying Tryz.underlying73;have mixed:Tryz.prog.follows Departure.mixedOrders=true:=by kernel_rfl
 have aE:∀w,(isAgg 70).run Tryz.prog w=.ok true w:=fun w=>rfl
 have R:RowK enc k w blk off d:=⟨hk,h1,hH,hblk⟩
 obtain⟨kp,HK⟩:∃kp:Nat->Bool,Hid (kp=kpE eq d):=⟨_,rfl⟩
 rw[show kpE eq d=kp from HK.out.symm];have same:∀W,SWK enc k w blk off d W->(∀j,j<d.size->kp j=true)->(keptUpTo kp d d.size).length=d.size/\b8v enc k w blk off d kp W:=by
  rintro W ⟨n,os,rfl⟩ hall;have e:keptUpTo kp d d.size=d.toList:=by rw[keptUpTo_all kp d _ hall,range_map_get]
  unfold b8v;rw[e];refine⟨by simp,n,os,d,[],rfl,fun j hj=>?_,by simp,rfl⟩;have hj':j<d.size:=by simpa using hj
  rw[getElem!_pos d j hj',V4 hj];simp
 have hz0:∀j,j<1->kp j=true:=fun j hj=>by
  obtain rfl:j=0:=by omega
  rw[HK.out];simp[kpE]
 have HZ:Aside (∀w,(zeroValue 70).run Tryz.prog w=.ok z w):=hzv;have HZ1:Aside (∀n,∀v∈(Builtin.zeroCells z.cells n).toList,v.oneCell'=true):=hz1;have HZS:Aside (z.cells.size=k):=hzs;clear hzv hz1 hzs;have HS:Aside _:=same;have HC:Aside _:=hq;have HR:Aside _:=R;clear same hq R hH hblk hk h1;by_cases h2:d.size<2
 ·have h2z:(d.size:Int)<2:=by omega
  go_enter Tryz.func266,Tryz.ntmps266
  go_wp2
  go_ret
  obtain⟨e1,e2⟩:=HS.out w (SWK.start HR.out.hH) (fun j hj=>hz0 j (by omega));exact⟨by rw[e1];rfl,e2⟩
 ·have h2z:¬(d.size:Int)<2:=by omega
  go_enter Tryz.func266,Tryz.ntmps266
  go_wp2
  go_loopg [5] d.size (fun gg s5 wr=>∃kk:Nat,1<=kk/\kk<=d.size/\d.size-kk<=gg/\s5=.int .i64 kk/\Aside (SWK enc k w blk off d wr)/\Aside (∀j,j<kk->kp j=true))
  case atStart=>exact⟨1,q0A _,by omega,by omega,rfl,SWK.start HR.out.hH,hz0⟩
  case round=>
   obtain⟨kk,hk1,hkd,hg,rfl,SW,A⟩:=hrel;by_cases hlt:kk<d.size
   ·have hltz:(kk:Int)<(d.size:Int):=by omega
    obtain⟨kq,rfl⟩:∃kq,kk=kq+1:=⟨kk-1,by omega⟩
    have hwp:IntKind.i64.wrap (kq:Int)=(kq:Int):=by rw[IntKind.wrap_i64];omega
    have jz:(kq:Int)+1<(d.size:Int):=by omega
    have jz1:(kq:Int)<(d.size:Int):=by omega
    have p0:(0:Int)<=(kq:Int)+1:=by omega
    have e0:((kq:Int)+1).toNat=kq+1:=by omega
    have lj:=SW.out.ld HR.out rfl Tryz.prog (kq+1) hlt;have lp:=SW.out.ld HR.out rfl Tryz.prog kq (by omega);have hcg:=c8S SW.out HC.out rfl d[kq+1]! d[kq]!;generalize hx:d[kq+1]! = x at lj hcg;generalize hy:d[kq]! = y at lp hcg;have B:Aside (d[kq+1]! = x/\d[kq]! = y):=⟨hx,hy⟩
    clear hx hy hz0;cases hq:eq x y with
    | false=>
      rw[hq]at hcg
      go_wp2_with fail
      go_quiet_grown (first|(go_at_fn g;refine Calls.grown_of (hcg _ _)))
      go_wp2
      go_roundg (d.size-(kq+2))
      case measure=>omega
      case rel=>
       refine⟨kq+2,by omega,by omega,q0A _,by go_num,SW.out.grown _ _,(show Aside _ from fun j hj=>?_)⟩;by_cases e:j=kq+1
       ·subst e;rw[HK.out];exact c5z (by rw[B.out.1,q5C,B.out.2];exact hq)
       ·exact A.out j (by omega)
    | true=>
      rw[hq]at hcg
      go_wp2_with fail
      go_quiet_grown (first|(go_at_fn g;refine Calls.grown_of (hcg _ _)))
      have SW2:Aside (SWK enc k w blk off d (grow (wr.drewN nq) osq)):=SW.out.grown nq osq;clear lj lp hcg;show Exit.then _ _ _ _ (grow (wr.drewN nq) osq);generalize grow (wr.drewN nq) osq=w2 at SW2 ⊢;have hkc:(kq:Int)+1<=(d.size:Int):=by omega
      have hkc2:(kq:Int)+1<=(cap:Int):=by omega
      have hdc:(d.size:Int)<=(cap:Int):=by omega
      go_wp2
      go_loopg [5,7] d.size (fun gg s5 s7 wr2=>∃(i m:Nat) (dk:Array α),s5=.int .i64 i/\s7=.int .i64 m/\1<=m/\kq+1+m<=d.size/\d.size-(kq+1+m)<=gg/\Aside (SWK enc k w blk off dk wr2)/\Aside (KeptInv kp d (kq+1+m) i dk))
      case atStart=>exact⟨kq+1,1,d,by first|rfl|go_num,rfl,q0A _,by omega,by omega,SW2,KeptInv.start A.out (by rw[HK.out];exact c5y (by omega) (by rw[B.out.1,q5C,B.out.2];exact hq))⟩
      case round=>
       obtain⟨i,m,dk,rfl,rfl,hm1,hmd,hg2,SWr,I⟩:=hrel;have hds:=I.out.size;have hil:=I.out.lt;by_cases hlt2:kq+1+m<d.size
       ·obtain⟨mq,rfl⟩:∃mq,m=mq+1:=⟨m-1,by omega⟩
        have hadd:∀z,off+(kq+1)*k+z*k=off+(kq+1+z)*k:=fun z=>by rw[q1Y (kq+1) z k];omega
        have lj:=SWr.out.ld HR.out hds Tryz.prog (kq+1+(mq+1)) (by omega);have lp:=SWr.out.ld HR.out hds Tryz.prog (kq+1+mq) (by omega);have hcg:=c8S SWr.out HC.out hds dk[kq+1+(mq+1)]! dk[kq+1+mq]!;have hx2:dk[kq+1+(mq+1)]! = d[kq+1+(mq+1)]!:=I.out.high _ (by omega);have hy2:dk[kq+1+mq]! = d[kq+1+mq]!:=I.out.high _ (by omega);generalize dk[kq+1+(mq+1)]! = u at lj hcg hx2;generalize dk[kq+1+mq]! = v at lp hcg hy2;have C:Aside (u=d[kq+1+(mq+1)]!/\v=d[kq+1+mq]!):=⟨hx2,hy2⟩
        clear hx2 hy2;have hwm:IntKind.i64.wrap (mq:Int)=(mq:Int):=by rw[IntKind.wrap_i64];omega
        have m0:(0:Int)<=(mq:Int)+1:=by omega
        have m1:((mq:Int)+1).toNat=mq+1:=by omega
        have mz:(mq:Int)+1<((d.size-(kq+1):Nat):Int):=by omega
        have mz1:(mq:Int)<((d.size-(kq+1):Nat):Int):=by omega
        have hsm:mq+1<d.size-(kq+1):=by omega
        have hsm1:mq<d.size-(kq+1):=by omega
        have hB:i*k+k<=dk.size*k:=by
         have:=q1G k (show i+1<=dk.size by omega);rwa [q1Y,q4K]at this
        have iz:(i:Int)<(d.size:Int):=by omega
        have izn:i<d.size:=by omega
        cases hq2:eq u v with
        | false=>
          rw[hq2]at hcg
          go_wp2_with fail
          go_quiet_grown (first|(go_at_fn g;refine Calls.grown_of (hcg _ _)))
          have SW3:=SWr.out.grown nq osq;clear lj lp hcg;show Exit.then _ _ _ _ (grow (wr.drewN nq) osq);generalize grow (wr.drewN nq) osq=w3 at SW3 ⊢;have lj3:=SW3.load HR.out hds Tryz.prog (kq+1+(mq+1)) (by omega);have hx2:dk[kq+1+(mq+1)]! = u:=(I.out.high _ (by omega)).trans C.out.1.symm;rw[hx2]at lj3;have s1:Sem.run Tryz.prog (storeCells ⟨blk,off+i*k,none⟩ (enc u) 0) w3=.ok () (w3.setCells blk (off+i*k) (enc u)):=stores_of_holds Tryz.prog (SW3.holds HR.out.hblk HR.out.hH hds) (i*k) _ (by rw[HR.out.hk,size_flatK];exact hB) (HR.out.h1 _);have hsU:(enc u).length=k:=HR.out.hk _;have SW4:Aside (SWK enc k w blk off (dk.setIfInBounds i u) (w3.setCells blk (off+i*k) (enc u))):=c6p SW3 HR.out.hk HR.out.hblk i (by omega) u;clear SW3 hx2 hB;obtain⟨cU,hcU⟩:∃c,c=enc u:=⟨_,rfl⟩
          rw[<-hcU]at lj3 s1 hsU SW4;clear hcU
          go_wp2
          go_roundg (d.size-(kq+1+(mq+2)))
          case measure=>omega
          case rel=>
           refine⟨i+1,mq+2,dk.setIfInBounds i u,by go_num,by go_num,by omega,by omega,q0A _,SW4,(show Aside _ from ?_)⟩;have:=I.out.keep hlt2 (by rw[HK.out];exact c5z (by rw[<-C.out.1,show kq+1+(mq+1)-1=kq+1+mq by omega,<-C.out.2];exact hq2))
           rwa [<-C.out.1]at this
        | true=>
          rw[hq2]at hcg
          go_wp2_with fail
          go_quiet_grown (first|(go_at_fn g;refine Calls.grown_of (hcg _ _)))
          have SW3:Aside (SWK enc k w blk off dk (grow (wr.drewN nq) osq)):=SWr.out.grown nq osq;clear lj lp hcg;show Exit.then _ _ _ _ (grow (wr.drewN nq) osq);generalize grow (wr.drewN nq) osq=w3 at SW3 ⊢
          go_wp2
          go_roundg (d.size-(kq+1+(mq+2)))
          case measure=>omega
          case rel=>exact⟨i,mq+2,dk,rfl,by go_num,by omega,by omega,q0A _,SW3,I.out.skip (by rw[HK.out];exact c5y (by omega) (by rw[<-C.out.1,show kq+1+(mq+1)-1=kq+1+mq by omega,<-C.out.2];exact hq2))⟩
       ·have hend:kq+1+m=d.size:=by omega
        have hmz:¬(m:Int)<((d.size-(kq+1):Nat):Int):=by omega
        have hmn:¬m<d.size-(kq+1):=by omega
        have hin:0<d.size-i:=by omega
        have hidz:(i:Int)<=(d.size:Int):=by omega
        have hicz:(i:Int)<=(cap:Int):=by omega
        have hHk:HoldsK enc k wr blk off dk:=SWr.out.holds HR.out.hblk HR.out.hH hds;have hzl:(Builtin.zeroCells z.cells (d.size-i)).toList.length=(d.size-i)*k:=by simp[Builtin.zeroCells,HZS.out]
        have hcl:∀ty,(Builtin.clear_ #[73] ty #[.slice (some ⟨blk,off+i*k,none⟩) (d.size-i) (cap-i)]).run Tryz.prog wr=.ok (.tuple #[]) (wr.setCells blk (off+i*k) (Builtin.zeroCells z.cells (d.size-i)).toList):=fun ty=>
         c1V wr _ _ ty z Tryz.underlying73 HZ.out (HZ1.out _) blk (off+i*k) _ hin
          (fun j hj=>by rw[HZS.out]at hj;rw[q3L,(hHk (i*k+j) (by rw[size_flatK,hds,<-Nat.sub_add_cancel (show i<=d.size by omega),q1Y];omega)).1];rfl)
          (fun j hj=>by rw[HZS.out]at hj;rw[q3L];exact(hHk (i*k+j) (by rw[size_flatK,hds,<-Nat.sub_add_cancel (show i<=d.size by omega),q1Y];omega)).2)
        generalize(Builtin.zeroCells z.cells (d.size-i)).toList=zs at hcl hzl;clear hHk
        go_wp2
        go_ret
        have hI:=I.out;rw[hend]at hI;refine⟨by rw[hI.len];rfl, ?_⟩;obtain⟨n,os,hw⟩:=SWr.out;refine⟨n,os,dk,zs,hds,fun j hj=>hI.low j (by rw[<-hI.len];exact hj), ?_,by rw[hI.len,<-hw]⟩;rw[hI.len,hzl,<-q1Y];exact q1G k (by omega)
   ·obtain rfl:kk=d.size:=by omega
    have hltz:¬(d.size:Int)<(d.size:Int):=by omega
    go_wp2
    go_ret
    obtain⟨e1,e2⟩:=HS.out _ SW.out A.out;exact⟨by rw[e1];rfl,e2⟩
def c0U:CpfRuns Tryz.prog 266 1:=⟨c0T,fun enc hk h1 eq g eg blk off cap d w hq hH hblk hcap hsz=>c3H 1 (fun w=>rfl) (.agg #[.slice none 0 0]) (fun w=>rfl) rfl (b7w (by decide) (by simp[Value.cells,Value.oneCell'])) enc hk h1 eq g eg blk off cap d w hq hH hblk hcap hsz⟩
end Go.Aw
namespace Go.Aw
open Go.Proofs Go.Shelf
attribute [local irreducible] aft blk lpK retK AW A0p
set_option linter.all false
set_option maxRecDepth 100000
set_option maxHeartbeats 4000000
attribute [local irreducible] RM
def q0(a b:d3):Bool:=a3I vLt a.V b.V
def a4W:STO q0 where
 irr x:=a9O.lex.irr x.V
 tr x y z:=a9O.lex.tr x.V y.V z.V
 tri x y h1 h2:=by
  have:=a9O.lex.tri x.V y.V h1 h2;cases x;cases y;simp_all
def b5I:∀{a b:List d5},okL a->okL b->a1a a b=bif a3I vLt a b then-1 else bif a3I vLt b a then 1 else 0
 | [],[],_,_=>rfl
 | [],_::_,_,_=>rfl
 | _::_,[],_,_=>rfl
 | x::a,y::b,ha,hb=>by
   have hx:=ha x (by simp);have hy:=hb y (by simp);have ih:=b5I (okL.tl ha) (okL.tl hb);rw[a1a,<-b9U hx hy,<-b9U hy hx,a3I,a3I];cases h1:vLt x y with
   | true=>rw[a9O.asy h1];rfl
   | false=>
     cases h2:vLt y x with
     | true=>rfl
     | false=>rw[W6,W6,ih];rfl
def bRow_by{a b:d3}(ha:okL a.V)(hb:okL b.V):decide (a1z a.V b.V<0)=q0 a b:=by
 have h:=b5I ha hb;rw[q0];cases h1:a3I vLt a.V b.V with
 | true=>rw[h1,W4]at h;exact V0 ((a8R ha hb).2 h)
 | false=>
   rw[h1,W6]at h;refine V3 fun h2=>?_
   rw[(a8R ha hb).1 h2]at h;cases h3:a3I vLt b.V a.V<;>rw[h3]at h<;>exact absurd h (by decide)
def a9J{a b:d3}(ha:okL a.V)(hb:okL b.V):(a1a a.V b.V==-1)=q0 a b:=by
 rw[b5I ha hb,q0];cases a3I vLt a.V b.V with
 | true=>rfl
 | false=>cases a3I vLt b.V a.V<;>rfl
def c3T(l:List d5)(hpre:l.length<1000000):spZ 261 [(false,[.sl false [.i .i64 0,.s []] (l.map d5.cells)])] [] (.one (false,[.sl true [.i .i64 0,.s []] (l.map d5.cells)])):=by
 exact b0q (d:=[.i .i64 0,.s []]) Tryz.cloneVal (by kernel_rfl) (hi:=rfl) (hz0:=rfl) (hz1:=rfl) (bytes:=24) (hz2:=rfl) (hzs:=rfl) (by decide) (fun w=>rfl) _ (by rw[q0H];omega)
noncomputable def b4e:CT:=p6 (fun(x:(List d5)) h=>c3T x h)
@[go_sem] def d0Y:=fun l=>nm' (fP' b4e rfl l)
def b4V(r:d3)(hpre:r.V.length<1000000):spZ 172 [(true,[t5 r.V])] [] (.one (true,[a5s r.V])):=by
 refine sy' Tryz.func172 (q' 1 [aX 1 0,aw [.sl l3]] (q' 3 [aG 0 1,ac 261 [4],ao (.bld [.sl l3] [(0,1,.t 5)]),aS 1 2 6] .ret)) [.c 2 true 1] [(261,[],b4e)] ?_;intro hb hE;simp only[go_sem];repeat' first|apply cj'|intro hc|exact om'|fail
noncomputable def a6v:CT:=p6 (fun(x:d3) h=>b4V x h)
@[go_sem] def c4z:=fun x0=>nm' (fP' a6v rfl ⟨x0⟩)
def c7G(a:List d3)(hpre:a.length<4611686018427387904/\∀x∈a,okL x.V):spZ 265 [(false,[.sl true [.sl true [.i .i64 0,.s []] []] (a.map (d3.cells true true))]),(false,[.f 173 []])] [(0,(false,[.sl true [.sl true [.i .i64 0,.s []] []] ((a1s q0 a).map (d3.cells true true))]))] (.tup []):=by
 obtain⟨hlen,hd⟩:=hpre;exact b8o Tryz.sortRow (by kernel_rfl) (k:=1) (fun w=>rfl) (fun w=>rfl) (cf:=d3.cells true true) (cb:=d3.cells false false) (z:=[.sl true [.i .i64 0,.s []] []]) rfl (fun x=>by simp only[go_sem]) (fun _=>rfl) (dom:=fun x=>okL x.V) (fun x y=>a1z x.V y.V) a4W (fun x y hx hy=>bRow_by hx hy) (enters_of Tryz.func173 (by kernel_rfl) rfl) (fun x y _ _=>a9u x y) a hd hlen
noncomputable def b7N:CT:=p6 (fun(x:(List d3)) h=>c7G x h)
@[go_sem] def d1m:=fun a=>nm' (fP' b7N rfl a)
def c9Y(a:List d3)(hpre:a.length<4611686018427387904):spZ 266 [(false,[.sl true [.sl true [.i .i64 0,.s []] []] (a.map (d3.cells true true))]),(false,[.f 267 []])] [] (.one (false,[.sl true [.sl true [.i .i64 0,.s []] []] ((Lib.compact a).map (d3.cells true true))])):=by
 have h:=cpf_out (P:=Tryz.prog) c0U (by kernel_rfl) (cf:=d3.cells true true) (cb:=d3.cells false false) (z:=[.sl true [.i .i64 0,.s []] []]) rfl (fun x=>by simp only[go_sem]) (fun _=>rfl) (dom:=fun _=>True) (fun x y:d3=>decide (x.V=y.V)) (enters_of Tryz.func267 (by kernel_rfl) rfl) (fun x y _ _=>a6Y x y) a (fun _ _=>trivial) hpre;rw[show(fun x y:d3=>decide (x.V=y.V))=fun x y=>decide (x=y)from funext fun x=>funext fun y=>by cases x;cases y;simp,b6I]at h;exact h
noncomputable def c0C:CT:=p6 (fun(x:(List d3)) h=>c9Y x h)
@[go_sem] def c_cpfRow_eq:=fun a=>nm' (fP' c0C rfl a)
def b4U(r:f5)(hpre:r.Rows.length<=200000/\∀x∈r.Rows,x.V.length<1000):spZ 83 [(true,[.i .i64 r.Arity,a1f r.Rows])] [] (.one (true,[.i .i64 r.Arity,c1q r.Rows])):=by
 refine sx' true false none Tryz.func83 (q' 1 [aX 2 0,aw [.i .i64,.sl o8]] (q' 6 [aG 0 1,ao (.bld [.i .i64,.sl o8] [(0,1,.t 7)]),ax (w' 3 [.i .i64,.sl o8]),aS 2 3 8] (.seq (q' 9 [aG 1 1,aN,aK 0] (fO 0 13 [ar 12 11] 13 1 (q' 14 [ai 1 10 12,aE 1,ax (w' 5 [.sl l3]),aS 1 5 15] (rm' [(true,2,e' 18 1 5),(false,0,f' 16 1 3),(false,1,l' 17 16),(false,3,c' 19 172 [18]),(false,4,o' 20 (.bsl 1 1 [.sl l3] [(0,.t 19)])),(false,5,o' 21 (.app 1 24 [.sl l3] (.t 17) (.t 20))),(false,6,f' 22 1 3),(false,7,s' 1 22 21)] [[0,1,3,2,4,5,6,7],[0,1,3,4,2,5,6,7],[0,3,1,2,4,5,6,7],[0,3,1,4,2,5,6,7],[0,3,4,1,2,5,6,7]] [10,11])) (g' 23 [aA 12]))) (q' 24 [ae 2 3,aS 2 2 24] .ret)))) [.c 2 true 2] [(172,[],a6v)] ?_;intro hb hE;obtain⟨hl,hv⟩:=hpre;simp only[go_sem];(repeat' first|apply cj'|intro hc|apply z6);(all_goals(try(refine(show A3U _ _ _ _ _ _ from ?_);simp only[go_sem]at hc ⊢;simp only[go_sem,A7u,A7y,A6L,A6K,A7t,A6J,nf_put_sub,A7w,A7v,nf_put_susK,nf_put_dip,nf_put_put,A7x,A7s,A6M,j8,j6,j4,j5,j7,nf_sub_sub]at hc ⊢;simp only[hc,q0R,q0I];done)));all_goals try exact om'
 refine lk' true [(true,6,1,200012)] [2,3,10,11] [4,11] [] (fun i:{i:Nat // i<=r.Rows.length}=>[(12,slV (.i .i64 i.1))]) (fun i=>[(6,[.c (.i .i64 r.Arity),.ow 200012])]) (fun i=>[(200012,c5N,(r.Rows.take i.1).map (d3.cells true true))]) (fun i=>r.Rows.length-i.1) (⟨0,by simp⟩) ?_;intro S0 hS0 i;obtain⟨i,hi⟩:=i;have hm:=fun(h:i<r.Rows.length)=>hv _ (y6 default h)
 have hol:(r.Rows.take i).length=i:=by rw[V9];omega
 have hsn:i<r.Rows.length->r.Rows.take (i+1)=r.Rows.take i++[r.Rows.getD i default]:=fun h=>l6 default h
 simp only[go_sem,hS0];(repeat' first|apply cj'|intro hc|apply z6);(all_goals(try((first|refine u1 1 rfl ?_);intro S hS B0 hB;simp only[go_sem,hS0,V7,q0O]at hS hB;(repeat(first|replace hS:=And.right hS|replace hS:=CJ.r hS));have Rr3:=congrArg (fun s:St=>s.sl 3) hS;have Rr18:=congrArg (fun s:St=>s.sl 18) hS;have Rb6:=congrArg (fun s:St=>s.bx 6) hS;have Rb10:=congrArg (fun s:St=>s.bx 10) hS;have Rb11:=congrArg (fun s:St=>s.bx 11) hS;have Ro200012:=congrArg (fun s:St=>s.ow 200012) hS;clear hS;simp only[go_sem,hS0]at Rr3 Rr18 Rb6 Rb10 Rb11 Ro200012;(try clear hc);intro K hc;simp only[go_sem,hS0,Rr3,Rr18,Rb6,Rb10,Rb11,Ro200012,hB,V8,q0K,V6,q0G]at hc ⊢;simp only[go_sem,hS0,Rr3,Rr18,Rb6,Rb10,Rb11,Ro200012,hB,A7u,A7y,A6L,A6K,A7t,A6J,nf_put_sub,A7w,A7v,nf_put_susK,nf_put_dip,nf_put_put,A7x,A7s,A6M,j8,j6,j4,j5,j7,nf_sub_sub]at hc ⊢;(first|(simp only[hc,q0R,q0I];done)|((repeat' first|exact hc|apply V1);done)))));all_goals try exact om'
 ·(refine lpK_n2 (⟨i+1,by omega⟩) _ (by simp only[go_sem];try rfl) ?_;simp only[go_sem,hS0]<;>repeat' first|apply V1|exact on'|fail)
  all_goals rw[hsn (by omega)]
 ·rw[k6 (by omega)]
noncomputable def a6u:CT:=p6 (fun(x:f5) h=>b4U x h)
@[go_sem] def c4y:=fun x0 x1=>nm' (fP' a6u rfl ⟨x0,x1⟩)
def b1b(a:Int)(rows:List d3):f5×Bool:=bif decide (300<((Lib.compact (a1s q0 rows)).length:Int))then(default,false)else(⟨a,Lib.compact (a1s q0 rows)⟩,true)
def b9w(arity:Int)(rows:List d3)(hpre:rows.length<=100000/\∀x∈rows,okL x.V/\x.V.length<1000):spZ 177 [(false,[.i .i64 arity]),(false,[a1f rows])] [] (.tup [(true,[.i .i64 (((b1b arity rows).1).Arity),c1q (((b1b arity rows).1).Rows)]),(false,[.b ((b1b arity rows).2)])]):=by
 refine sx' true false none Tryz.func177 (q' 4 [aw [.i .i64,.sl o8],aU false] (q' 7 [aM [0,1],ao (.bld [.i .i64,.sl o8] [(0,1,.t 7),(1, 1,.t 8)]),ac 83 [9],ax (w' 6 [.i .i64,.sl o8]),aS 2 6 10] (q' 11 [aG 1 6,ao (.call 265 [.t 12,.k (.v false [.c (.f 173 [])])])] (q' 14 [aG 1 6,ao (.call 266 [.t 15,.k (.v false [.c (.f 267 [])])]),af 1 6,aS 1 17 16] (.seq (q' 18 [aG 1 6,aN,aC .gtr 20 300] (ci 21 (q' 22 [ao (.bld [.i .i64,.sl o8] []),aS 2 4 22,ab 5 false] .ret))) (q' 23 [ae 2 6,aS 2 4 23,ab 5 true] .ret)))))) [.c 4 true 2,.t 5] [(83,[],a6u),(265,[0],b7N),(266,[0],c0C)] ?_;intro hb hE;obtain⟨hl,hv⟩:=hpre;have hs:=(a1i q0 rows).length_eq;simp only[go_sem];repeat' first|apply cj'|intro hc|exact om'|fail
 ·exact⟨by omega,fun x hx=>(hv x hx).2⟩
 ·exact⟨by omega,fun x hx=>(hv x hx).1⟩
 ·rw[b1b,V0 hc];exact⟨⟨rfl,rfl⟩,rfl⟩
 ·rw[b1b,V3 hc];exact⟨⟨rfl,rfl⟩,rfl⟩
noncomputable def a8Z:CT:=p6 (fun(x:Int×(List d3)) h=>b9w x.1 x.2 h)
@[go_sem] def c8r:=fun x0 x1=>nm' (fP' a8Z rfl (x0,x1))
def a9h(l:List d3):Lib.compact (a1s q0 l)=t8 q0 [] l:=
 a5o a4W (SS.puts a4W SS.nil) fun x=>by rw[w9];simp
end Go.Aw
