/- Equalities bind; what holds; the bodies: the mathematics. No condition. -/
import Derived.Test.YtokefohpgeajaaaGreatweT30
import Derived.Test.YtokefohpgeajaaaGreatrBx15we
import Derived.Test.YtokefohpgeajaaaGreatrBx14we
namespace Go.Aw
set_option maxHeartbeats 4000000
open Go.Proofs
set_option linter.all false
set_option maxRecDepth 100000
def eqS(l:d6)(b:List c4):List c4:=bif a0r l then(bif (k8 ⟨b⟩ l.A).2 then(bif (k8 ⟨b⟩ l.B).2 then b else a0N b l.B.Var (k8 ⟨b⟩ l.A).1)else(bif (k8 ⟨b⟩ l.B).2 then a0N b l.A.Var (k8 ⟨b⟩ l.B).1 else b))else b
def eqP(r:c7)(b:List c4):Nat->List c4
 | 0=>b
 | n+1=>eqS (r.Body.getD n default) (eqP r b n)
def a4m(r:c7)(b:List c4):List c4:=eqP r b r.Body.length
def eqI(r:c7)(b:List c4):Nat->List c4
 | 0=>b
 | k+1=>a4m r (eqI r b k)
def IsEq(r:c7)(b c:List c4):Prop:=∃k,eqI r b k=c/\a4m r c=c
def b3L{r:c7}{b c:List c4}{k:Nat}(h:eqI r b k=c)(hp:a4m r c=c):∀m,eqI r b (k+m)=c
 | 0=>h
 | m+1=>by rw[show k+(m+1)=(k+m)+1 from rfl,eqI,b3L h hp m,hp]
def IsEq.uniq{r:c7}{b c d:List c4}(h1:IsEq r b c)(h2:IsEq r b d):c=d:=by
 obtain⟨k,h1,p1⟩:=h1;obtain⟨m,h2,p2⟩:=h2;have a:=b3L h1 p1 m;have b:=b3L h2 p2 k;rw[q3G]at b;exact a.symm.trans b
open Classical in
noncomputable def eqR(r:c7)(b:List c4):List c4:=if h:∃c,IsEq r b c then Classical.choose h else b
def b8k{r:c7}{b c:List c4}(h:IsEq r b c):eqR r b=c:=by
 have hx:∃c,IsEq r b c:=⟨c,h⟩
 rw[eqR,dif_pos hx];exact(q5D hx).uniq h
inductive EqStep(l:d6)(b:List c4):List c4->Prop
 | same:EqStep l b b
 | right:a0r l=true->(k8 ⟨b⟩ l.A).2=true->(k8 ⟨b⟩ l.B).2=false->EqStep l b (a0N b l.B.Var (k8 ⟨b⟩ l.A).1)
 | left:a0r l=true->(k8 ⟨b⟩ l.B).2=true->(k8 ⟨b⟩ l.A).2=false->EqStep l b (a0N b l.A.Var (k8 ⟨b⟩ l.B).1)
def a2v(l:d6)(b:List c4):EqStep l b (eqS l b):=by
 rw[eqS];cases h0:a0r l with
 | false=>exact .same
 | true=>
   cases h1:(k8 ⟨b⟩ l.A).2 with
   | true=>
     cases h2:(k8 ⟨b⟩ l.B).2 with
     | true=>exact .same
     | false=>exact .right h0 h1 h2
   | false=>
     cases h2:(k8 ⟨b⟩ l.B).2 with
     | true=>exact .left h0 h2 h1
     | false=>exact .same
def b6X{l:d6}{b:List c4}(h0:a0r l=true)(h1:(k8 ⟨b⟩ l.A).2=true)(h2:(k8 ⟨b⟩ l.B).2=false):eqS l b=a0N b l.B.Var (k8 ⟨b⟩ l.A).1:=by rw[eqS,h0,h1,h2];rfl
def c0m{l:d6}{b:List c4}(h0:a0r l=true)(h1:(k8 ⟨b⟩ l.B).2=true)(h2:(k8 ⟨b⟩ l.A).2=false):eqS l b=a0N b l.A.Var (k8 ⟨b⟩ l.B).1:=by rw[eqS,h0,h1,h2];rfl
def c0n{l:d6}{b:List c4}(h0:a0r l=false):eqS l b=b:=by rw[eqS,h0];rfl
def EqStep.len{l:d6}{b c:List c4}(h:EqStep l b c):c=b\/c.length=b.length+1:=by
 cases h with
 | same=>exact .inl rfl
 | right _ _ _=>exact .inr (a2z _ _ _)
 | left _ _ _=>exact .inr (a2z _ _ _)
def b8j(r:c7)(b:List c4):∀n,eqP r b n=b\/b.length<(eqP r b n).length
 | 0=>.inl rfl
 | n+1=>by
   have h1:=b8j r b n;have h2:=(a2v (r.Body.getD n default) (eqP r b n)).len;rw[eqP];rcases h1 with h1|h1
   ·rw[h1]at h2 ⊢;rcases h2 with h2|h2
    ·exact .inl h2
    ·exact .inr (by omega)
   ·rcases h2 with h2|h2
    ·rw[h2];exact .inr h1
    ·exact .inr (by omega)
def b7p{r:c7}{b:List c4}(h:(a4m r b).length<=b.length):a4m r b=b:=by
 rcases b8j r b r.Body.length with h1|h1
 ·exact h1
 ·rw[a4m]at h;omega
def b2z{r:c7}{l:d6}(hl:l∈r.Body){t:d3}(ht:t=l.A\/t=l.B)(hv:(t.Var==[])=false):t.Var∈a2b r:=by
 refine q1W.2 ⟨l,hl,W8.2 (.inr (w7.2 ⟨t, ?_,by rw[y7,hv];rfl,rfl⟩))⟩;rcases ht with rfl|rfl
 ·exact q4F
 ·exact q2J _ (q0B.2 rfl)
def c0H{r:c7}{b:List c4}{v:List UInt8}(x:d4)(hv:v∈a2b r)(hn:(w6 ⟨b⟩ v).2=false):miss r ((a0N b v x).map c4.Var)<miss r (b.map c4.Var):=by
 have hm:=a3L hn;refine a9Y (fun y hy=>?_) ⟨v,hv, ?_, ?_⟩
 ·simp only[q0T,q4L,q2E]at hy ⊢;intro h;rw[a1F x hm]at hy;exact hy (a1W.2 (.inr h))
 ·simp only[q0T,q4L,q2E];exact hm
 ·simp only[q1G,q4L,V9];rw[a1F x hm];exact a1W.2 (.inl rfl)
def EqStep.miss{r:c7}{l:d6}{b c:List c4}(hl:l∈r.Body)(h:EqStep l b c):c=b\/(c.length=b.length+1/\miss r (c.map c4.Var)<miss r (b.map c4.Var)):=by
 cases h with
 | same=>exact .inl rfl
 | right _ _ h=>
   have h2:=a0j h;exact .inr ⟨a2z _ _ _,c0H _ (b2z hl (.inr rfl) h2.1) h2.2⟩
 | left _ _ h=>
   have h2:=a0j h;exact .inr ⟨a2z _ _ _,c0H _ (b2z hl (.inl rfl) h2.1) h2.2⟩
def a3q{r:c7}{b:List c4}:∀{n:Nat},n<=r.Body.length->(eqP r b n).length+miss r ((eqP r b n).map c4.Var)<=b.length+miss r (b.map c4.Var)/\(eqP r b n=b\/miss r ((eqP r b n).map c4.Var)<miss r (b.map c4.Var))
 | 0,_=>⟨q0C _,.inl rfl⟩
 | n+1,hn=>by
   obtain⟨i1,i2⟩:=a3q (r:=r) (b:=b) (n:=n) (by omega);have hm:r.Body.getD n default∈r.Body:=by rw[m9 default (by omega)];exact q0S _
   rw[eqP];rcases(a2v (r.Body.getD n default) (eqP r b n)).miss hm with h|⟨h1,h2⟩
   ·rw[h];exact⟨i1,i2⟩
   ·refine⟨by omega,.inr ?_⟩;rcases i2 with i2|i2
    ·rw[i2]at h2 ⊢;exact h2
    ·omega
def EqStep.ext{l:d6}{b c:List c4}(h:EqStep l b c):ExtB b c:=by
 cases h with
 | same=>exact ExtB.refl _
 | right _ _ h=>exact fun s x hs=>hs.set (a0j h).2
 | left _ _ h=>exact fun s x hs=>hs.set (a0j h).2
def c4q(r:c7)(b:List c4):∀n,ExtB b (eqP r b n)
 | 0=>ExtB.refl _
 | n+1=>(c4q r b n).trans (a2v _ _).ext
def c4o(r:c7)(b:List c4):∀k,ExtB b (eqI r b k)
 | 0=>ExtB.refl _
 | k+1=>(c4o r b k).trans (c4q r _ _)
def b5q{b:List c4}{t:d3}(h:EnvS b)(ht:p6 t=true)(hv:(k8 ⟨b⟩ t).2=true):k9 (k8 ⟨b⟩ t).1=true:=by
 rw[k8]at hv ⊢;cases hn:t.Var==[]with
 | true=>
   rw[p6,hn]at ht;simp only[q3Z,W3,W6]at ht;exact ht.1
 | false=>
   rw[hn,W3]at hv;rw[W3];rw[a2h]at hv ⊢;cases hf:b.find? (fun x=>x.Var==t.Var)with
   | none=>rw[hf]at hv;cases hv
   | some y=>exact(h.1 y (List.mem_of_find?_eq_some hf)).2
def EqStep.ok{r:c7}{l:d6}{b c:List c4}(hr:l4 r=true)(hl:l∈r.Body)(h:EqStep l b c)(hb:EnvS b):EnvS c:=by
 have hlit:a0r l=true->p6 l.A=true/\p6 l.B=true:=by
  intro he;simp only[l4,W6,q0R]at hr;have:=hr.2 l hl;simp only[a0r,W6]at he;rw[a1H,he.1,W5]at this;simp only[W6]at this;exact⟨this.1.2,this.2⟩
 cases h with
 | same=>exact hb
 | right h0 h1 h2=>exact hb.set (b5m (hlit h0).2 (a0j h2).1) (b5q hb (hlit h0).1 h1) (a0j h2).2
 | left h0 h1 h2=>exact hb.set (b5m (hlit h0).1 (a0j h2).1) (b5q hb (hlit h0).2 h1) (a0j h2).2
def c8t{r:c7}{b:List c4}(hr:l4 r=true)(hb:EnvS b):∀{n:Nat},n<=r.Body.length->EnvS (eqP r b n)
 | 0,_=>hb
 | n+1,hn=>(a2v _ _).ok hr (by rw[m9 default (by omega)];exact q0S _) (c8t hr hb (by omega))
def c8s{r:c7}{b:List c4}(hr:l4 r=true)(hb:EnvS b):∀k,EnvS (eqI r b k)
 | 0=>hb
 | k+1=>c8t hr (c8s hr hb k) (q0C _)
def b3K{r:c7}{b:List c4}:∀k,(eqI r b k).length+miss r ((eqI r b k).map c4.Var)<=b.length+miss r (b.map c4.Var)
 | 0=>q0C _
 | k+1=>q2D (a3q (q0C _)).1 (b3K k)
def c4x(r:c7):∀(m:Nat) (b:List c4),miss r (b.map c4.Var)<=m->∃c,IsEq r b c
 | 0,b,h=>⟨b,0,rfl,by
   rcases(a3q (r:=r) (b:=b) (q0C _)).2 with h1|h1
   ·exact h1
   ·omega⟩
 | m+1,b,h=>by
   rcases(a3q (r:=r) (b:=b) (q0C _)).2 with h1|h1
   ·exact⟨b,0,rfl,h1⟩
   ·obtain⟨c,k,h2,h3⟩:=c4x r m (a4m r b) (by rw[a4m];omega);refine⟨c,k+1, ?_,h3⟩;have key:∀k,eqI r (a4m r b) k=eqI r b (k+1):=by
     intro k
     induction k with
     | zero=>rfl
     | succ k ih=>rw[eqI,ih];rfl
    rw[<-key];exact h2
def a9W(r:c7)(b:List c4):IsEq r b (eqR r b):=by
 obtain⟨c,h⟩:=c4x r _ b (q0C _);rw[b8k h];exact h
def b2v(r:c7)(b:List c4):ExtB b (eqR r b):=by
 obtain⟨k,h,_⟩:=a9W r b;rw[<-h];exact c4o r b k
def c2Q{r:c7}{b:List c4}(hr:l4 r=true)(hb:EnvS b):EnvS (eqR r b):=by
 obtain⟨k,h,_⟩:=a9W r b;rw[<-h];exact c8s hr hb k
def eqR_len(r:c7)(b:List c4):(eqR r b).length<=b.length+(a2b r).length:=by
 obtain⟨k,h,_⟩:=a9W r b;have:=b3K (r:=r) (b:=b) k;have:=b2A r (b.map c4.Var);rw[h]at*;omega
def domE(l:d6)(vs:List (List UInt8)):List (List UInt8):=bif a0r l then(bif t5 vs l.A then(bif t5 vs l.B then vs else a0i Op.bytesLess vs l.B.Var)else(bif t5 vs l.B then a0i Op.bytesLess vs l.A.Var else vs))else vs
def a3Q(b:List c4)(t:d3):(k8 ⟨b⟩ t).2=t5 (b.map c4.Var) t:=by
 rw[k8,t5];cases t.Var==[]with
 | true=>rfl
 | false=>
   rw[W3,q3C];rw[q3K,c8W,q1J]
def b8l(l:d6)(b:List c4):(eqS l b).map c4.Var=domE l (b.map c4.Var):=by
 rw[eqS,domE];cases a0r l with
 | false=>rfl
 | true=>
   rw[W5,W5,<-a3Q,<-a3Q];cases h1:(k8 ⟨b⟩ l.A).2 with
   | true=>
     cases h2:(k8 ⟨b⟩ l.B).2 with
     | true=>rfl
     | false=>exact a1F _ (a3L (a0j h2).2)
   | false=>
     cases h2:(k8 ⟨b⟩ l.B).2 with
     | true=>exact a1F _ (a3L (a0j h1).2)
     | false=>rfl
def b8i{r:c7}{b c:List c4}(h:b.map c4.Var=c.map c4.Var):∀n,(eqP r b n).map c4.Var=(eqP r c n).map c4.Var
 | 0=>h
 | n+1=>by rw[eqP,eqP,b8l,b8l,b8i h n]
def c4n{r:c7}{b c:List c4}(h:b.map c4.Var=c.map c4.Var):∀n,(eqI r b n).map c4.Var=(eqI r c n).map c4.Var
 | 0=>h
 | n+1=>b8i (c4n h n) _
def c9b{r:c7}{b c:List c4}(h:b.map c4.Var=c.map c4.Var)(hc:a4m r c=c):a4m r b=b:=by
 refine b7p ?_;have h1:=congrArg List.length (b8i (r:=r) h r.Body.length);have h2:=congrArg List.length h;simp only[q0O]at h1 h2;rw[a4m]at hc ⊢;rw[hc]at h1;omega
def eqR_dom{r:c7}{b c:List c4}(h:b.map c4.Var=c.map c4.Var):(eqR r b).map c4.Var=(eqR r c).map c4.Var:=by
 obtain⟨k,h1,p1⟩:=a9W r b;have h2:=c4n (r:=r) h k;rw[h1]at h2;have p2:a4m r (eqI r c k)=eqI r c k:=c9b h2.symm p1;rw[b8k (c:=eqI r c k) ⟨k,rfl,p2⟩,h2]
def a9d(s:d7)(e:c9)(l:d6):Bool:=bif l.Kind==2 then !a1b (z5 s l.Atom.Name).1.Rows (z7 e l.Atom.Args).1 else bif l.Kind==3 then y3 l.Op (k8 e l.A).1 (k8 e l.B).1 else true
def b4V(s:d7)(e:c9)(l:d6):Bool:=bif l.Kind==3 then y3 l.Op (k8 e l.A).1 (k8 e l.B).1 else a1b (z5 s l.Atom.Name).1.Rows (z7 e l.Atom.Args).1==(l.Kind==1)
def a3s(r:c7)(s:d7)(e:c9):Bool:=r.Body.all (a9d s e)
def a6I(r:c7)(s:d7)(e:c9):Bool:=r.Body.all (b4V s e)
def Rooted(s:d7)(e:c9)(l:d6):Prop:=(l.Kind==1)=true->∃row∈(z5 s l.Atom.Name).1.Rows,l.Atom.Args.length=row.V.length/\∀i,i<l.Atom.Args.length->Back e.Binds (l.Atom.Args.getD i default) (row.V.getD i default)
def Rooted.ext{s:d7}{e c:c9}{l:d6}(h:Rooted s e l)(he:ExtB e.Binds c.Binds):Rooted s c l:=fun hk=>by
 obtain⟨row,h1,h2,h3⟩:=h hk;exact⟨row,h1,h2,fun i hi=>he _ _ (h3 i hi)⟩
def Rooted.has{s:d7}{e:c9}{l:d6}(h:Rooted s e l)(hk:(l.Kind==1)=true):a1b (z5 s l.Atom.Name).1.Rows (z7 e l.Atom.Args).1=true:=by
 obtain⟨row,h1,h2,h3⟩:=h hk;rw[show z7 e l.Atom.Args=(row,true)from a9X h2 h3,a1b,q3N];exact⟨row,h1,by simp⟩
def c0E{r:c7}(hr:l4 r=true){l:d6}(hl:l∈r.Body):l.Kind=1\/l.Kind=2\/l.Kind=3:=by
 simp only[l4,W6,q0R]at hr;have:=hr.2 l hl;rw[a1H]at this;cases h:l.Kind==3 with
 | true=>exact .inr (.inr (by simpa using h))
 | false=>
   rw[h]at this;simp only[W3,W6,q1Y,beq_iff_eq]at this;omega
def c8B{r:c7}{s:d7}{e:c9}(hr:l4 r=true)(h:∀l∈r.Body,Rooted s e l):a6I r s e=a3s r s e:=by
 rw[a6I,a3s,q3K,q0R,q0R];refine forall_congr' fun l=>forall_congr' fun hl=>?_
 rw[b4V,a9d];rcases c0E hr hl with hk|hk|hk
 ·have:=(h l hl).has (by rw[hk];rfl);rw[this,hk];simp
 ·rw[hk];cases a1b (z5 s l.Atom.Name).1.Rows (z7 e l.Atom.Args).1<;>simp
 ·rw[hk];exact Iff.rfl
def a8c{r:c7}(hr:l4 r=true){l:d6}(hl:l∈r.Body)(hk:(l.Kind==3)=false):l.Atom.Args.all p6=true/\l.Atom.Args.length<=6:=by
 simp only[l4,W6,q0R]at hr;have:=hr.2 l hl;rw[a1H,hk,W3]at this;simp only[a2Z,W6,V9]at this;obtain⟨⟨⟨⟨_,⟨⟨_,h6⟩,hall⟩⟩,_⟩,_⟩,_⟩:=this;exact⟨hall,by omega⟩
def a2W{v:d7}(h:u3 v=true)(n:List UInt8):a0y (z5 v n).1=true:=by
 unfold z5;split
 ·rename_i h0;have hl:=idxL_lt (p:=fun x:d8=>x.Name==n) (l:=v.Rels);have hm:(a5M (fun x:d8=>x.Name==n) v.Rels).toNat<v.Rels.length:=by omega
  have:=c1i h _ (q0S hm);simp only[m9 default hm];exact this
 ·rfl
def c6J{r:f5}(h:a0y r=true):r.Rows.Nodup:=by
 refine q3T.2 fun i j hi hj hij e=>?_
 have:=c3h h hij hj;rw[m9 default hi,m9 default hj,e,b7s]at this;omega
structure Jn(r:c7)(s:d7)(n:Nat)(l:List c9):Prop where
 alk:∃vs,Alk vs l
 root:∀e∈l,∀i,i<n->Rooted s e (r.Body.getD i default)
 len:∀e∈l,e.Binds.length<=6*n
def Jn.all{r:c7}{s:d7}(hr:l4 r=true)(hs:u3 s=true):∀{n:Nat} {l:List c9},n<=r.Body.length->a0s r s n=some l->Jn r s n l
 | 0,l,_,h=>by
   simp only[a0s,W0]at h;subst h;refine⟨⟨[],by simp,fun e he=>?_,fun e he=>?_⟩,fun e _ i hi=>by omega,fun e he=>?_⟩
   ·rw[q0B.1 he];exact⟨by simp,SS.nil⟩
   ·rw[q0B.1 he];rfl
   ·rw[q0B.1 he];simp
 | n+1,l,hn,h=>by
   have hm:r.Body.getD n default∈r.Body:=by rw[m9 default (by omega)];exact q0S _
   rw[a0s]at h;obtain⟨d,h1,h2⟩:=q1R.1 h;have ih:=Jn.all hr hs (by omega) h1;cases hk:(r.Body.getD n default).Kind==1 with
   | false=>
     rw[hk,W3,W0]at h2;subst h2;refine⟨ih.alk,fun e he i hi=>?_,fun e he=>by have:=ih.len e he;omega⟩;rcases q2X i n with h3|h3
     ·exact ih.root e he i h3
     ·obtain rfl:i=n:=by omega
      intro h4;rw[hk]at h4;cases h4
   | true=>
     rw[hk,W5]at h2;have h3:((r.Body.getD n default).Kind==3)=false:=by rw[beq_iff_eq]at hk;rw[hk];rfl
     obtain⟨ha,ha6⟩:=a8c hr hm h3;have hR:=a2W hs (r.Body.getD n default).Atom.Name;by_cases hl:(v5 (r.Body.getD n default).Atom.Args (z5 s (r.Body.getD n default).Atom.Name).1.Rows d).length<=2000
     ·rw[W9 hl,W5,W0]at h2;subst h2;obtain⟨vs,halk⟩:=ih.alk;refine⟨⟨_,halk.stage ha (c6J hR) fun x hx=>?_⟩,fun e he i hi=>?_,fun e he=>?_⟩
      ·obtain⟨i,hi,rfl⟩:=q2V hx;have:=a2S hR hi;rw[m9 default hi]at this;exact q0R.2 this
      ·obtain⟨e0,he0,hc⟩:=q1W.1 he;obtain⟨row,hrow,hf⟩:=q3O.1 hc;have ff:=a1V hf;rcases q2X i n with h4|h4
       ·exact(ih.root e0 he0 i h4).ext ff.ext
       ·obtain rfl:i=n:=by omega
        exact fun _=>⟨row,hrow,ff.len,ff.back⟩
      ·obtain⟨e0,he0,hc⟩:=q1W.1 he;obtain⟨row,hrow,hf⟩:=q3O.1 hc;have ff:=a1V hf;have:=ff.lenB;have:=ih.len e0 he0;omega
     ·rw[V2 hl]at h2;cases h2
noncomputable def eqE(r:c7)(e:c9):c9:=⟨eqR r e.Binds⟩
noncomputable def a4l(r:c7)(s:d7)(l:List c9):List c9:=(l.map (eqE r)).filter (a3s r s)
noncomputable def u9(r:c7)(s:d7):List c9×Bool:=bif (a0H r s).2 then(t9 y6 [] (a4l r s (a0H r s).1),true)else([],false)
def c0P{r:c7}{s:d7}{vs:List (List UInt8)}{l:List c9}(hr:l4 r=true)(h:Alk vs l):∃ws,Alk ws (a4l r s l):=by
 have h0:∃ws,Alk ws (l.map (eqE r)):=by
  have hd:∀e∈l,∀e'∈l,(eqR r e.Binds).map c4.Var=(eqR r e'.Binds).map c4.Var:=fun e he e' he'=>eqR_dom ((h.dom e he).trans (h.dom e' he').symm)
  refine⟨((l.map (eqE r)).getD 0 default).Binds.map c4.Var, ?_,fun c hc=>?_,fun c hc=>?_⟩
  ·unfold List.Nodup;rw[List.pairwise_map];refine List.Pairwise.imp_of_mem ?_ h.nd;intro e e' he he' hne heq;have h1:eqR r e.Binds=eqR r e'.Binds:=congrArg c9.Binds heq;have h2:=b2v r e'.Binds;rw[<-h1]at h2;have:=c4r (h.ok e he) (h.ok e' he') ((h.dom e he).trans (h.dom e' he').symm) (b2v r e.Binds) h2;exact hne (by cases e;cases e';simp_all)
  ·obtain⟨e,he,rfl⟩:=q1E.1 hc;exact c2Q hr (h.ok e he)
  ·obtain⟨e,he,rfl⟩:=q1E.1 hc;cases l with
   | nil=>cases he
   | cons a l=>exact hd e he a q4F
 obtain⟨ws,h1⟩:=h0;exact⟨ws,h1.nd.filter _,fun e he=>h1.ok e (q1H.1 he).1,fun e he=>h1.dom e (q1H.1 he).1⟩
def a9h(r:c7)(s:d7)(l:List c9):(a4l r s l).length<=l.length:=by
 have:=q2M (a3s r s) (l.map (eqE r));rw[q0O]at this;exact this
attribute [local irreducible] aft blk lpK retK AW A0p
attribute [local irreducible] RM
def b6d(e:c9)(v:List UInt8)(x:d4)(hpre:e.Binds.length<=1000):spZ 243 [(true,[u5 e.Binds]),(false,[.s v]),(true,[.i .i64 x.N,.s x.S])] [] (.one (true,[u5 ((⟨a0N e.Binds v x⟩:c9).Binds)])):=by
 refine sx' false true none Tryz.func243 (q' 3 [aX 1 0,aX 1 1,aX 2 2,aw [.sl j3]] (q' 8 [aG 0 3,ao (.mf 302 [.t 4]),ac 301 [9,10],aV 7] (.seq (q' 12 [am 7,aC .lss 12 0] (ci 13 (g' 14 [aG 0 3,aN,aV 7]))) (.seq (rm' [(true,0,f' 17 0 3),(true,1,l' 18 17),(true,3,m' 20 7),(true,4,l' 21 4),(true,5,e' 22 2 5),(true,6,o' 23 (.bld [.s,.i .i64,.s] [(0,1,.t 21),(1,2,.t 22)])),(false,2,c' 19 72 [18]),(false,7,o' 24 (.bsl 3 1 [.s,.i .i64,.s] [(0,.t 23)])),(false,8, c' 25 303 [19,20,24]),(false,9,o' 26 (.bld [.sl j3] [(0,1,.t 25)])),(false,10,s' 1 6 26)] [[0,1,2,3,4,5,7,6,8,9, 10]] [6,7,8,9,10,11]) .ret)))) [.c 6 true 1] [(72,[],a6d),(301,[],b0J),(303,[0,2],b6U)] ?_;intro hb hE;have hI:=c8C e.Binds v x;simp only[go_sem];(repeat' first|apply cj'|intro hc|apply y9);(all_goals(try((first|refine s9 6 rfl ?_);intro S hS B0 hB;simp only[go_sem,V6,q0M]at hS hB;(repeat(first|replace hS:=And.right hS|replace hS:=CJ.r hS));have Rr6:=congrArg (fun s:St=>s.sl 6) hS;have Rr18:=congrArg (fun s:St=>s.sl 18) hS;have Rr20:=congrArg (fun s:St=>s.sl 20) hS;have Rr23:=congrArg (fun s:St=>s.sl 23) hS;have Rb6:=congrArg (fun s:St=>s.bx 6) hS;have Rb7:=congrArg (fun s:St=>s.bx 7) hS;have Rb8:=congrArg (fun s:St=>s.bx 8) hS;have Rb9:=congrArg (fun s:St=>s.bx 9) hS;have Rb10:=congrArg (fun s:St=>s.bx 10) hS;have Rb11:=congrArg (fun s:St=>s.bx 11) hS;have Rb12:=congrArg (fun s:St=>s.bx 12) hS;clear hS;simp only[go_sem]at Rr6 Rr18 Rr20 Rr23 Rb6 Rb7 Rb8 Rb9 Rb10 Rb11 Rb12;(try clear hc);intro K hc;simp only[go_sem,Rr6,Rr18,Rr20,Rr23,Rb6,Rb7,Rb8,Rb9,Rb10,Rb11,Rb12,hB,V7,q0H,V4,q0E]at hc ⊢;simp only[go_sem,Rr6,Rr18,Rr20,Rr23,Rb6,Rb7,Rb8,Rb9,Rb10,Rb11,Rb12,hB,A7u,A7y,A6L,A6K,A7t,A6J,nf_put_sub,A7w,A7v,nf_put_susK,nf_put_dip,nf_put_put,A7x,A7s,A6M,j8,j6,j4,j5,j7,nf_sub_sub]at hc ⊢;(first|(simp only[hc,q0Q,q0G];done)|((repeat' first|exact hc|apply V0);done)))));all_goals try exact om'
 ·rw[<-hI.2.2,c0T,W9 hc,W5]
 ·rw[c0T,V2 hc,W3]at hI;exact⟨⟨hI.1,hI.2.1⟩,by omega⟩
 ·rw[<-hI.2.2,c0T,V2 hc,W3]
noncomputable def a4a:CT:=s6 (fun(x:c9×(List UInt8)×d4) h=>b6d x.1 x.2.1 x.2.2 h)
@[go_sem] def c5H:=fun x0 v x1 x2=>nm' (fP' a4a rfl (⟨x0⟩,v,⟨x1,x2⟩))
def b2j(e:c9)(v:List UInt8)(x:d4)(hpre:e.Binds.length<=1000):spZ 255 [(true,[u5 e.Binds]),(false,[.s v]),(true,[.i .i64 x.N,.s x.S])] [] (.one (true,[u5 ((⟨a0N e.Binds v x⟩:c9).Binds)])):=by
 refine sx' false true none Tryz.func255 a5Y [.c 6 true 1] [] ?_;intro hb hE;simp only[go_sem];repeat' first|apply cj'|intro hc|exact om'|fail
 refine lk' false [(true,14,0,200028)] [1,5,6,7,13,14] [10,12] [] (fun i:{i:Nat // i<=e.Binds.length}=>[(8,slV (.b ((e.Binds.take i.1).any (gtB v)))),(15,slV (.i .i64 i.1))]) (fun i=>[(14,[.ow 200028])]) (fun i=>[(200028,j3,(a5O (e.Binds.take i.1) v x).map c4.cells)]) (fun i=>e.Binds.length-i.1) (⟨0,by simp⟩) ?_;intro S0 hS0 i;obtain⟨i,hi⟩:=i;have hol:=c0O (e.Binds.take i) v x;rw[V8]at hol;have hsn:i<e.Binds.length->e.Binds.take (i+1)=e.Binds.take i++[e.Binds.getD i default]:=fun h=>l9 default h
 simp only[go_sem,hS0];repeat' first|apply cj'|intro hc|exact om'|fail
 ·have h1:=c0N (x:=x) hc.1 hc.2;rw[<-hsn (by omega)]at h1
  (refine lpK_n2 (⟨i+1,by omega⟩) _ (by simp only[go_sem];try rfl) ?_;simp only[go_sem,hS0]<;>repeat' first|apply V0|exact on'|fail)
  all_goals(first|exact congrArg (List.map c4.cells) h1.1.symm|(rw[h1.2];done)|(rw[h1.2];exact congrArg _ hc.1.symm))
 ·have h1:=c4D (x:=x) hc;rw[<-hsn (by omega)]at h1
  (refine lpK_n2 (⟨i+1,by omega⟩) _ (by simp only[go_sem];try rfl) ?_;simp only[go_sem,hS0]<;>repeat' first|apply V0|exact on'|fail)
  all_goals(first|exact congrArg (List.map c4.cells) h1.1.symm|(rw[h1.2];done)|(rw[h1.2];exact congrArg _ hc.1.symm))
 ·rw[k7 (by omega)]at hc ⊢;rw[a5O,hc,W3,b0y x hc]
 ·rw[k7 (by omega)]at hc ⊢;rw[a5O,hc,W5]
noncomputable def a5B:CT:=s6 (fun(x:c9×(List UInt8)×d4) h=>b2j x.1 x.2.1 x.2.2 h)
@[go_sem] def c2G:=fun x0 v x1 x2=>nm' (fP' a5B rfl (⟨x0⟩,v,⟨x1,x2⟩))
def b8B(e:c9)(args:List d3)(row:d5)(hpre:e.Binds.length<=500/\row.V.length<=6):spZ 242 [(true,[u5 e.Binds]),(false,[o9 args]),(true,[u6 row.V])] [] (.tup [(true,[u5 (((a4G e args row).1).Binds)]),(false,[.b ((a4G e args row).2)])]):=by
 refine sx' false true none Tryz.func242 (q' 5 [ax (o' 3 (.box 1 (.t 0))),aX 1 2,aw [.sl j3],aU false] (.seq (q' 12 [am 1,aN,aG 0 5,aN,aD .neq 13 16] (ci 17 (q' 18 [ao (.bld [.sl j3] []),aS 1 6 18,ab 7 false] .ret))) (.seq (q' 19 [am 1,aN,aK 0] (fO 0 22 [ar 21 20] 22 1 (q' 23 [am 21,ai 3 19 21,aE 3,ax (w' 9 [.s, .i .i64,.s]),av 8 23,aS 3 9 25] (q' 27 [ae 1 3,ae 3 9,ac 171 [27,28],aV 26,aZ 26 0,aZ 26 1,ax (w' 10 [.i .i64,.s]),aS 2 10 30,aV 11] (.block 2 (q' 33 [am 11,aO 33,aV 32] (cd 32 (.rego [(true,1,f' 36 0 9),(true,2,l' 37 36),(true,3,f' 38 0 5),(true,4,l' 39 38),(true,5,m' 40 8),(true,6,i' 41 2 39 40),(true,7,e' 42 2 41),(false,0,e' 35 1 3),(false,8,c' 43 243 [35,37,42]),(false,9,s' 1 3 43)] [18,19,10,11]) (.seq (G' 45 [ae 2 10,aG 0 5,am 8,aI 2,aE 2,ao (.eqs true [.i .i64,.s] (.t 45) (.t 50)),aV 44]) (ci 44 (q' 52 [ao (.bld [.sl j3] []),aS 1 6 52,ab 7 false] .ret)))))))) (g' 53 [aA 21]))) (q' 54 [ae 1 3,aS 1 6 54,ab 7 true] .ret)))) [.c 6 true 1,.t 7] [(171,[],a0Y),(243,[],a4a)] ?_;intro hb hE;obtain⟨hp1,hp2⟩:=hpre;simp only[go_sem];repeat' first|apply cj'|intro hc|exact om'|fail
 ·rw[a4G,V2 (by intro h;rw[h]at hc;simp at hc)];exact⟨rfl,rfl⟩
 have hl:args.length=row.V.length:=by simpa[Int.ofNat_inj,bne]using hc
 clear hc;refine lq' false [3,5,6,19,20] [10,11,19] [] (fun i:{q:Nat×List c4 // q.1<=args.length/\a1U e.Binds args row.V q.1=some q.2}=>[(21,slV (.i .i64 i.1.1))]) (fun i=>[(6,[.c (u5 i.1.2)]),(12,[.nl j3])]) nl' (fun i=>args.length-i.1.1) (⟨(0,e.Binds),by simp,rfl⟩) ?_;intro S0 hS0 i;obtain⟨⟨i,c⟩,hi,hf⟩:=i;simp only at hi hf;have hcl:=a8K hf;simp only[go_sem,hS0];repeat' first|apply cj'|intro hc|exact om'|fail
 ·exact nx0 ⟨(i+1,a0N c (args.getD i default).Var (row.V.getD i default)),by simp only;omega,c4s hf hc⟩
 ·rename_i hv;rw[a4G,W9 hl,W5,b8p hf (by omega) hv hc];exact⟨rfl,rfl⟩
 ·rename_i hv;exact nx0 ⟨(i+1,c),by simp only;omega,b3O hf hv (by rw[a7J,hc.1,hc.2];rfl)⟩
 ·obtain rfl:i=args.length:=by omega
  rw[a4G,W9 hl,W5,hf];exact⟨rfl,rfl⟩
noncomputable def a8z:CT:=s6 (fun(x:c9×(List d3)×d5) h=>b8B x.1 x.2.1 x.2.2 h)
@[go_sem] def c7i:=fun x0 x1 x2=>nm' (fP' a8z rfl (⟨x0⟩,x1,⟨x2⟩))
def b2i(e:c9)(args:List d3)(row:d5)(hpre:e.Binds.length<=500/\row.V.length<=6):spZ 163 [(true,[u5 e.Binds]),(false,[o9 args]),(true,[u6 row.V])] [] (.tup [(true,[u5 (((a4G e args row).1).Binds)]),(false,[.b ((a4G e args row).2)])]):=by
 refine sx' false true none Tryz.func163 (q' 5 [ax (o' 3 (.box 1 (.t 0))),aX 1 2,aw [.sl j3],aU false] (.seq (q' 14 [am 1,aN,aG 0 5,aN,aD .neq 15 18] (ci 19 (q' 20 [ao (.bld [.sl j3] []),aS 1 6 20,ab 7 false] .ret))) (q' 21 [ao (.bsl 3 0 [.s,.i .i64,.s] []),aG 0 3,ao (.app 3 40 [.s,.i .i64,.s] (.t 21) (.t 23)),ao (.bld [.sl j3] [(0,1,.t 24)]),ax (w' 8 [.sl j3]),aS 1 8 25] (.seq (q' 26 [am 1,aN,aK 0] (fO 0 29 [ar 28 27] 29 1 (q' 30 [am 28,ai 3 26 28,aE 3,ax (w' 10 [.s,.i .i64,.s]),av 9 30,aS 3 10 32] (q' 33 [af 1 10,aE 2,ax (w' 11 [.i .i64,.s]),aS 2 11 34] (.seq (q' 35 [aG 0 10,aY .neq 36 []] (ci 37 (q' 39 [ae 1 8,aG 0 10,ac 254 [39,41],aV 38,aZ 38 0,aZ 38 1,ax (w' 12 [.i .i64,.s]),aS 2 12 43,aV 13] (.seq (q' 45 [am 13,aO 45] (ci 46 (.seq (.rego [(true,1,f' 48 0 10),(true,2,l' 49 48),(true,3,f' 50 0 5),(true,4,l' 51 50),(true,5,m' 52 9),(true,6,i' 53 2 51 52),(true,7,e' 54 2 53),(false,0,e' 47 1 8),(false,8,c' 55 255 [47,49,54]),(false,9,s' 1 8 55)] [20,21,10,11]) (g' 56 [aG 0 5,am 9,aI 2,aE 2,aS 2 12 60])))) (g' 61 [ae 2 12,aS 2 11 61]))))) (.seq (G' 62 [ae 2 11,aG 0 5,am 9,aI 2,aE 2,ao (.eqs true [.i .i64,.s] (.t 62) (.t 67))]) (ci 68 (q' 69 [ao (.bld [.sl j3] []),aS 1 6 69,ab 7 false] .ret)))))) (g' 70 [aA 28]))) (q' 71 [ae 1 8,aS 1 6 71,ab 7 true] .ret))))) [.c 6 true 1,.t 7] [(254,[],a2q),(255,[],a7B)] ?_;intro hb hE;obtain⟨hp1,hp2⟩:=hpre;simp only[go_sem];repeat' first|apply cj'|intro hc|exact om'|fail
 ·rw[a4G,V2 (by intro h;rw[h]at hc;simp at hc)];exact⟨rfl,rfl⟩
 have hl:args.length=row.V.length:=by simpa[Int.ofNat_inj,bne]using hc
 clear hc;refine lk' false [(true,16,0,200032)] [5,6,8,26,27] [10,11,21] [] (fun i:{q:Nat×List c4 // q.1<=args.length/\a1U e.Binds args row.V q.1=some q.2}=>[(28,slV (.i .i64 i.1.1))]) (fun i=>[(16,[.ow 200032]),(12,[.nl j3])]) (fun i=>[(200032,j3,i.1.2.map c4.cells)]) (fun i=>args.length-i.1.1) (⟨(0,e.Binds),by simp,rfl⟩) ?_;intro S0 hS0 i;obtain⟨⟨i,c⟩,hi,hf⟩:=i;simp only at hi hf;have hcl:=a8K hf;simp only[go_sem,hS0];repeat' first|apply cj'|intro hc|exact om'|fail
 ·rename_i hv;exact nk0 ⟨(i+1,a0N c (args.getD i default).Var (row.V.getD i default)),by simp only;omega,c4s hf (by rw[a9p hv];exact hc)⟩
 ·rename_i hv ho;rw[a4G,W9 hl,W5,b8p hf (by omega) (by rw[a9p hv];exact ho) (by rw[a9p hv];exact hc)];exact⟨rfl,rfl⟩
 ·rename_i hv ho;exact nk0 ⟨(i+1,c),by simp only;omega,b3O hf (by rw[a9p hv];exact ho) (by rw[a9p hv,a7J,hc.1,hc.2];rfl)⟩
 ·rename_i hv;rw[a4G,W9 hl,W5,b8p hf (by omega) (by rw[a6Z hv]) (by rw[a6Z hv];exact hc)];exact⟨rfl,rfl⟩
 ·rename_i hv;exact nk0 ⟨(i+1,c),by simp only;omega,b3O hf (by rw[a6Z hv]) (by rw[a6Z hv,a7J,hc.1,hc.2];rfl)⟩
 ·obtain rfl:i=args.length:=by omega
  rw[a4G,W9 hl,W5,hf];exact⟨rfl,rfl⟩
noncomputable def a5A:CT:=s6 (fun(x:c9×(List d3)×d5) h=>b2i x.1 x.2.1 x.2.2 h)
@[go_sem] def c2F:=fun x0 x1 x2=>nm' (fP' a5A rfl (⟨x0⟩,x1,⟨x2⟩))
def body8{r:c7}(h:l4 r=true):r.Body.length<=8:=by
 simp only[l4,W6,V9]at h;omega
def a0a{α:Type}{l:List α}{i:Nat}(d:α)(h:i<l.length):l.getD i d∈l:=by
 rw[m9 d h];exact q0S _
def c0Y{r:f5}(h:a0y r=true){i:Nat}(hi:i<r.Rows.length):(r.Rows.getD i default).V.length<=6:=by
 simp only[a0y,W6,q0T]at h;exact(b7y (a2k (a3A h.2 hi))).1
abbrev arA(r:c7)(n:Nat):List d3:=(r.Body.getD n default).Atom.Args
abbrev arR(r:c7)(s:d7)(n:Nat):List d5:=(z5 s (r.Body.getD n default).Atom.Name).1.Rows
def b1H(A:List d3)(e:c9)(R:List d5)(base:List c9):Nat->List c9
 | 0=>base
 | k+1=>b1H A e R base k++(b3M A e (R.getD k default)).toList
def b7V{A:List d3}{e:c9}{R:List d5}{base:List c9}:∀{k:Nat},k<=R.length->b1H A e R base k=base++a3M A (R.take k) e
 | 0,_=>by simp[b1H,a3M]
 | k+1,h=>by
   rw[b1H,b7V (by omega)];cases hf:b3M A e (R.getD k default)with
   | none=>rw[rows_no (by omega) hf];simp
   | some c=>rw[c9k (by omega) hf];simp
def b9v{A:List d3}{e:c9}{R:List d5}{base:List c9}{k:Nat}(h:k<=R.length):(b1H A e R base k).length<=base.length+R.length:=by
 rw[b7V h,W4];have:=c6L A (R.take k) e;rw[V8]at this;omega
def b9u{A:List d3}{R:List d5}{now:List c9}{j:Nat}(h:j<now.length):b1H A (now.getD j default) R (v5 A R (now.take j)) R.length=v5 A R (now.take (j+1)):=by
 rw[b7V (q0C _),List.take_length,c3i h]
def b6f(r:c7)(s:d7)(hpre:l4 r=true/\u3 s=true):spZ 150 [(true,[.i .i64 r.Kind,.s r.Head.Name,o9 r.Head.Args,a0I r.Body]),(true,[v9 s.Rels])] [] (.tup [(false,[kTEnv ((a0H r s).1)]),(false,[.b ((a0H r s).2)])]):=by
 refine sy' Tryz.func150 (q' 2 [aX 4 0,aX 1 1,ao (.mov (.k (.v false [.nl a1n]))),aU false] (q' 18 [ao (.bld [.sl j3] []),ao (.bsl 1 1 [.sl j3] [(0,.t 18)]),aV 6] (.seq (q' 20 [aG 3 2,aN,aK 0] (fO 0 24 [ar 23 22] 24 1 (q' 25 [ai 10 21 23,aE 10,ax (w' 8 [.i .i64,.s,.sl j3,.i .i64,.s,.i .i64,.s,.s,.i .i64,.s]),aS 10 8 26] (.seq (q' 27 [aG 0 8,aC .neq 28 1] (ci 29 (.exit 1))) (q' 31 [ae 1 3,af 1 8,aG 0 32,ac 82 [31,34],aV 30,aZ 30 0,aZ 30 1,ax (w' 9 [.i .i64,.sl u2]),aS 2 9 36,aV 10] (q' 38 [ao (.bsl 1 0 [.sl j3] []),aV 11] (.seq (q' 39 [am 6,aN,aK 0] (fO 2 42 [ar 41 40] 42 3 (q' 43 [ai 1 39 41,aE 1,ax (w' 13 [.sl j3]),aS 1 13 44] (.seq (q' 45 [aG 1 9,aN,aK 0] (fO 4 49 [ar 48 47] 49 5 (q' 50 [ai 1 46 48,aE 1,ax (w' 15 [.sl l5]),aS 1 15 51] (q' 53 [ae 1 13,af 1 8,aG 1 54,ae 1 15,ac 242 [53,56,57],aV 52,aZ 52 0,aZ 52 1,ax (w' 16 [.sl j3]),aS 1 16 59,aV 17] (q' 61 [am 17] (ci 61 (g' 62 [am 11,ae 1 16,ao (.bsl 1 1 [.sl j3] [(0,.t 63)]),ao (.app 1 24 [.sl j3] (.t 62) (.t 64)),aV 11]))))) (g' 66 [aA 48]))) (q' 67 [am 11,aN,aC .gtr 68 2000] (ci 69 (q' 4 [ao (.mov (.k (.v false [.nl a1n]))),aU false] .ret))))) (g' 70 [aA 41]))) (g' 71 [am 11,aV 6])))))) (g' 72 [aA 23]))) (q' 73 [am 6,aV 4,ab 5 true] .ret)))) [.t 4,.t 5] [(82,[],a2R),(242,[],a8z)] ?_;intro hb hE;obtain⟨hr,hs⟩:=hpre;have hb8:=body8 hr;simp only[go_sem];repeat' first|apply cj'|intro hc|exact om'|fail
 refine lk' false [(false,6,0,100012)] [3,21,22] [6] [] (fun i:{q:Nat×List c9 // q.1<=r.Body.length/\a0s r s q.1=some q.2}=>[(6,.v false [.ow 100012]),(23,slV (.i .i64 i.1.1))]) nl' (fun i=>[(100012,a1n,i.1.2.map (c9.cells false false))]) (fun i=>r.Body.length-i.1.1) (⟨(0,[⟨[]⟩]),by simp,rfl⟩) ?_;intro S0 hS0 i;obtain⟨⟨n,now⟩,hn,hj⟩:=i;simp only at hn hj;have hJ:=Jn.all hr hs hn hj;have hl:=b0c hj;have hR:=a2W hs (r.Body.getD n default).Atom.Name;have hRl:=a6W hR;have hRe:(arR r s n).length=(z5 s (r.Body.getD n default).Atom.Name).1.Rows.length:=rfl;simp only[go_sem,hS0];repeat' first|apply cj'|intro hc|exact om'|fail
 ·exact nk0 ⟨(n+1,now),by simp only;omega,b4d hj (by simpa[bne]using hc)⟩
 ·have hk:((r.Body.getD n default).Kind==1)=true:=by simpa[bne]using hc
  refine a1K 100012 ?_;refine lk' false [(false,11,0,100022)] [3,8,9,21,22,23,39,40] [6,16,18] [] (fun i:{j:Nat // j<=now.length/\(v5 (arA r n) (arR r s n) (now.take j)).length<=2000}=>[(11,.v false [.ow 100022]),(41,slV (.i .i64 i.1))]) nl' (fun i=>[(100022,a1n,(v5 (arA r n) (arR r s n) (now.take i.1)).map (c9.cells false false))]) (fun i=>now.length-i.1) (⟨0,by simp,by simp[v5]⟩) ?_;intro S1 hS1 i;obtain⟨j,hj1,hj2⟩:=i;simp only[go_sem,hS0,hS1];repeat' first|apply cj'|intro hc|exact om'|fail
  ·have hm:=a0a (l:=now) default (i:=j) (by omega);have he6:=hJ.len _ hm;have hall:=b9u (A:=arA r n) (R:=arR r s n) (now:=now) (j:=j) (by omega);refine lk' false [(false,11,0,100022)] [3,8,9,13,21,22,23,39,40,41,46,47] [6,16,18,26] [] (fun i:{k:Nat // k<=(arR r s n).length}=>[(11,.v false [.ow 100022]),(48,slV (.i .i64 i.1))]) nl' (fun i=>[(100022,a1n,(b1H (arA r n) (now.getD j default) (arR r s n) (v5 (arA r n) (arR r s n) (now.take j)) i.1).map (c9.cells false false))]) (fun i=>(arR r s n).length-i.1) (⟨0,by simp⟩) ?_;intro S2 hS2 i;obtain⟨k,hk1⟩:=i;have hlk:=b9v (A:=arA r n) (e:=now.getD j default) (R:=arR r s n) (base:=v5 (arA r n) (arR r s n) (now.take j)) hk1;simp only[go_sem,hS0,hS1,hS2];repeat' first|apply cj'|intro hc|exact om'|fail
   ·exact⟨by omega,c0Y hR (by omega)⟩
   ·(refine lpK_n2 (⟨k+1,by omega⟩) _ (by simp only[go_sem,hS0,hS1];try rfl) ?_;simp only[go_sem,hS0,hS1,hS2]<;>repeat' first|apply V0|exact on'|fail)
    all_goals(rw[b1H,b3N hc];rfl)
   ·(refine lpK_n2 (⟨k+1,by omega⟩) _ (by simp only[go_sem,hS0,hS1];try rfl) ?_;simp only[go_sem,hS0,hS1,hS2]<;>repeat' first|apply V0|exact on'|fail)
    all_goals(rw[b1H,b8o hc];simp)
   ·obtain rfl:k=(arR r s n).length:=by omega
    rw[hall]at hc;rw[b7d hj (by omega) hk (j:=j+1) (show 2000<(v5 (arA r n) (arR r s n) (now.take (j+1))).length by omega)];exact⟨rfl,rfl⟩
   ·obtain rfl:k=(arR r s n).length:=by omega
    rw[hall]at hc
    (refine lpK_n2 (⟨j+1,by omega,by omega⟩) _ (by simp only[go_sem,hS0,hS1];try rfl) ?_;simp only[go_sem,hS0,hS1,hS2]<;>repeat' first|apply V0|exact on'|fail)
    all_goals rw[hall]
  ·rw[k7 (by omega)]at hj2
   (refine lpK_n2 (⟨(n+1,v5 (arA r n) (arR r s n) now),by simp only;omega,c0t hj hk hj2⟩) _ (by simp only[go_sem,hS0,hS1];try rfl) ?_;simp only[go_sem,hS0,hS1]<;>repeat' first|apply V0|exact on'|fail)
   all_goals rw[k7 (by omega)]
 ·obtain rfl:n=r.Body.length:=by omega
  rw[c0u hj];exact⟨rfl,rfl⟩
noncomputable def a7n:CT:=s6 (fun(x:c7×d7) h=>b6f x.1 x.2 h)
@[go_sem] def c5J:=fun x0 x1 x2 x3 x4=>nm' (fP' a7n rfl (⟨x0,⟨x1,x2⟩,x3⟩,⟨x4⟩))
def b1K(l:d6)(b:List c4):Bool:=a0r l&&((k8 ⟨b⟩ l.A).2&&!(k8 ⟨b⟩ l.B).2||(k8 ⟨b⟩ l.B).2&&!(k8 ⟨b⟩ l.A).2)
def eqG(r:c7)(b:List c4):Nat->Bool
 | 0=>false
 | n+1=>eqG r b n||b1K (r.Body.getD n default) (eqP r b n)
def b8h{l:d6}{b:List c4}(h:b1K l b=false):eqS l b=b:=by
 rw[b1K]at h;rw[eqS];cases h0:a0r l with
 | false=>rfl
 | true=>
   rw[h0]at h;cases h1:(k8 ⟨b⟩ l.A).2<;>cases h2:(k8 ⟨b⟩ l.B).2<;>rw[h1,h2]at h<;>first|rfl|(exact absurd h (by decide))
def c8r{r:c7}{l:d6}{b:List c4}(hl:l∈r.Body)(h:b1K l b=true):miss r ((eqS l b).map c4.Var)<miss r (b.map c4.Var):=by
 rcases(a2v l b).miss hl with h1|⟨_,h1⟩
 ·exfalso;have h2:=congrArg List.length h1;rw[b1K,W6]at h;obtain⟨h0,h⟩:=h;rw[eqS,h0]at h2;cases h3:(k8 ⟨b⟩ l.A).2<;>cases h4:(k8 ⟨b⟩ l.B).2<;>rw[h3,h4]at h h2
  ·exact absurd h (by decide)
  ·simp only[W5,W3,a2z]at h2;omega
  ·simp only[W5,W3,a2z]at h2;omega
  ·exact absurd h (by decide)
 ·exact h1
def c2P{r:c7}{b:List c4}:∀{n:Nat},eqG r b n=false->eqP r b n=b
 | 0,_=>rfl
 | n+1,h=>by
   rw[eqG,q0Y]at h;have h1:=b8h h.2;rw[c2P h.1]at h1;rw[eqP,c2P h.1,h1]
def c4l{r:c7}{b:List c4}:∀{n:Nat},n<=r.Body.length->eqG r b n=true->miss r ((eqP r b n).map c4.Var)<miss r (b.map c4.Var)
 | 0,_,h=>by cases h
 | n+1,hn,h=>by
   have hm:=a0a (l:=r.Body) default (i:=n) (by omega);have hle:=(a3q (r:=r) (b:=b) (n:=n) (by omega)).2;rw[eqG,q1Y]at h;rw[eqP];rcases h with h|h
   ·have h1:=c4l (by omega) h;rcases(a2v (r.Body.getD n default) (eqP r b n)).miss hm with h2|⟨_,h2⟩
    ·rw[h2];exact h1
    ·omega
   ·have h1:=c8r hm h;rcases hle with h2|h2
    ·rw[h2]at h1 ⊢;exact h1
    ·omega
def c0l{r:c7}{b:List c4}(hV:(a2b r).length<=64){n:Nat}(hn:n<=r.Body.length):(eqP r b n).length<=b.length+64:=by
 have h1:=(a3q (r:=r) (b:=b) hn).1;have h2:=b2A r (b.map c4.Var);omega
def c0k{r:c7}{b:List c4}(hV:(a2b r).length<=64)(k:Nat):(eqI r b k).length<=b.length+64:=by
 have h1:=b3K (r:=r) (b:=b) k;have h2:=b2A r (b.map c4.Var);omega
def c4C{l:d6}(h:(l.Kind != 3)=true\/(l.Op != 1)=true):a0r l=false:=by
 rw[a0r];rcases h with h|h<;>simp only[bne,q0T]at h<;>rw[h]<;>simp
def b2D{l:d6}(h:(l.Kind != 3)=false/\(l.Op != 1)=false):a0r l=true:=by
 simp only[bne,q1G]at h;rw[a0r,h.1,h.2];rfl
def b1O(op:Int)(a:d4)(b:d4):spZ 244 [(false,[.i .i64 op]),(true,[.i .i64 a.N,.s a.S]),(true,[.i .i64 b.N,.s b.S])] [] (.one (false,[.b (y3 op a b)])):=by
 refine sy' Tryz.func244 (q' 4 [aX 2 1,aX 2 2,aU false] (.seq (q' 7 [ae 2 4,ac 168 [7],aO 8,am 9,aH 10 false [be 2 5,bc 168 [11],bO 12],aQ 10 13] (ci 14 (q' 6 [aU false] .ret))) (.seq (q' 15 [am 0] (.block 0 (q' 17 [aC .eql 15 1,aV 16] (cd 16 (q' 18 [ae 2 4,ae 2 5,ao (.eqs false [.i .i64,.s] (.t 18) (.t 19)),aV 6] .ret) (q' 22 [aC .eql 15 2,aV 21] (cd 21 (q' 23 [ae 2 4,ae 2 5,ao (.eqs true [.i .i64,.s] (.t 23) (.t 24)),aV 6] .ret) (q' 27 [aC .eql 15 3,aV 26] (cd 26 (q' 28 [ae 2 4,ae 2 5,ac 248 [28,29],aC .lss 30 0,aV 6] .ret) (q' 33 [aC .eql 15 4,aV 32] (ci 32 (q' 34 [ae 2 4,ae 2 5,ac 248 [34,35],aC .leq 36 0,aV 6] .ret))))))))))) (q' 6 [aU false] .ret)))) [.t 6] [(168,[],a0X),(248,[],a1N)] ?_;intro hb hE;simp only[go_sem];repeat' first|apply cj'|intro hc|exact om'|fail
 ·rcases hc with h|h<;>simp[y3,h]
 ·rename_i h;simp[y3,h,hc,vEq]
 ·rename_i h h1;simp[y3,h,hc,h1,vEq]
 ·rename_i h h1 h2;simp only[y3,h.1,h.2,hc,h1,h2,W5,W3,q0K];exact b3y h.1 h.2
 ·rename_i h h1 h2 h3;simp only[y3,h.1,h.2,hc,h1,h2,h3,W5,W3,q0K];exact b3x h.1 h.2
 ·rename_i h h1 h2 h3;simp only[y3,h.1,h.2,hc,h1,h2,h3,W3,q0K]
noncomputable def a5p:CT:=o8 (fun(x:Int×d4×d4)=>b1O x.1 x.2.1 x.2.2)
@[go_sem] def c2k:=fun op x0 x1 x2 x3=>nm' (fQ' a5p rfl (op,⟨x0,x1⟩,⟨x2,x3⟩))
def b1U(op:Int)(a:d4)(b:d4):spZ 257 [(false,[.i .i64 op]),(true,[.i .i64 a.N,.s a.S]),(true,[.i .i64 b.N,.s b.S])] [] (.one (false,[.b (y3 op a b)])):=by
 refine sy' Tryz.func257 (q' 4 [aX 2 1,aX 2 2,aU false] (.seq (q' 7 [ae 2 4,ac 312 [7],aO 8,am 9,aH 10 false [be 2 5,bc 312 [11],bO 12],aQ 10 13] (ci 14 (q' 6 [aU false] .ret))) (.seq (q' 15 [am 0] (.block 0 (q' 17 [aC .eql 15 1,aV 16] (cd 16 (q' 18 [ae 2 4,ae 2 5,ao (.eqs false [.i .i64,.s] (.t 18) (.t 19)),aV 6] .ret) (q' 22 [aC .eql 15 2,aV 21] (cd 21 (q' 23 [ae 2 4,ae 2 5,ao (.eqs true [.i .i64,.s] (.t 23) (.t 24)),aV 6] .ret) (q' 27 [aC .eql 15 3,aV 26] (cd 26 (q' 28 [ae 2 4,ae 2 5,ac 314 [28,29],aV 6] .ret) (q' 32 [aC .eql 15 4,aV 31] (ci 31 (q' 33 [ae 2 4,ae 2 5,ac 314 [33,34],am 35,aH 36 false [be 2 4,be 2 5,bo (.eqs false [.i .i64,.s] (.t 37) (.t 38))],aQ 36 39,aV 6] .ret))))))))))) (q' 6 [aU false] .ret)))) [.t 6] [(312,[],a0Z),(314,[],a4B)] ?_;intro hb hE;simp only[go_sem];repeat' first|apply cj'|intro hc|exact om'|fail
 ·rcases hc with h|h<;>simp[y3,h]
 ·rename_i h;simp[y3,h,hc,vEq]
 ·rename_i h h1;simp[y3,h,hc,h1,vEq]
 ·rename_i h h1 h2;simp only[y3,a2X,h.1,h.2,hc,h1,h2,W5,W3,q0K]
 ·rename_i h h1 h2 h3;simp only[y3,a2X,h.1,h.2,hc,h1,h2,h3,W5,W3,q0K,vEq]
 ·rename_i h h1 h2 h3;simp only[y3,h.1,h.2,hc,h1,h2,h3,W3,q0K]
noncomputable def a5u:CT:=o8 (fun(x:Int×d4×d4)=>b1U x.1 x.2.1 x.2.2)
@[go_sem] def c2s:=fun op x0 x1 x2 x3=>nm' (fQ' a5u rfl (op,⟨x0,x1⟩,⟨x2,x3⟩))
def b1Q(r:c7)(e:c9)(hpre:l4 r=true/\e.Binds.length<=100):spZ 151 [(true,[.i .i64 r.Kind,.s r.Head.Name,o9 r.Head.Args,a0I r.Body]),(true,[u5 e.Binds])] [] (.one (true,[u5 ((eqE r e).Binds)])):=by
 refine sx' false true none Tryz.func151 (q' 2 [aX 4 0,aX 1 1,aw [.sl j3]] (.seq (q' 5 [aU true] (lO 0 (.seq (q' 12 [am 5] (cd 12 .skip (.exit 0))) (.block 1 (q' 5 [aU false] (q' 13 [aG 3 2,aN,aK 0] (fO 2 17 [ar 16 15] 17 3 (q' 18 [ai 10 14 16,aE 10,ax (w' 7 [.i .i64,.s,.sl j3,.i .i64,.s,.i .i64,.s,.s,.i .i64,.s]),aS 10 7 19] (.seq (q' 20 [aG 0 7,aC .neq 21 3,am 22,aH 23 false [bf 3 7,bL,bC .neq 25 1],aQ 23 26] (ci 27 (.exit 3))) (q' 29 [ae 1 3,af 4 7,aE 3,ac 171 [29,31],aV 28,aZ 28 0,aZ 28 1,ax (w' 8 [.i .i64,.s]),aS 2 8 33,aV 9] (q' 36 [ae 1 3,af 7 7,aE 3,ac 171 [36,38],aV 35,aZ 35 0,aZ 35 1,ax (w' 10 [.i .i64, .s]),aS 2 10 40,aV 11] (.block 4 (q' 43 [aM [9,43],aH 44 true [bm 11,bO 45],aP 44 46,aV 42] (cd 42 (q' 48 [ae 1 3,af 7 7,aG 0 49,ae 2 8,ac 243 [48,51,52],aS 1 3 53] (g' 5 [aU true])) (q' 55 [aM [11,55],aH 56 true [bm 9,bO 57],aP 56 58,aV 54] (ci 54 (q' 60 [ae 1 3,af 4 7,aG 0 61,ae 2 10,ac 243 [60,63,64],aS 1 3 65] (g' 5 [aU true]))))))))))) (g' 66 [aA 16])))))))) (q' 67 [ae 1 3,aS 1 4 67] .ret))) [.c 4 true 1] [(171,[],a0Y),(243,[],a4a)] ?_;intro hb hE;obtain⟨hr,he⟩:=hpre;have hV:=a2Y hr;simp only[go_sem];repeat' first|apply cj'|intro hc|exact om'|fail
 refine lq' false [2,3,4] [4,8] [] (fun i:{q:Bool×List c4 // (∃k,eqI r e.Binds k=q.2)/\(q.1=false->a4m r q.2=q.2)}=>[(5,slV (.b i.1.1))]) (fun i=>[(6,[.c (u5 i.1.2)])]) nl' (fun i=>2*miss r (i.1.2.map c4.Var)+(bif i.1.1 then 1 else 0)) (⟨(true,e.Binds),⟨0,rfl⟩,by intro h;cases h⟩) ?_;intro S0 hS0 i;obtain⟨⟨g,c⟩,⟨k,hk⟩,hp⟩:=i;simp only at hk hp;have hcl:c.length<=e.Binds.length+64:=by rw[<-hk];exact c0k hV k
 simp only[go_sem,hS0];repeat' first|apply cj'|intro hc|exact om'|fail
 ·skip
  refine lq' false [2,3,4,14,15] [4,8] [] (fun i:{j:Nat // j<=r.Body.length}=>[(5,slV (.b (eqG r c i.1))),(16,slV (.i .i64 i.1))]) (fun i=>[(6,[.c (u5 (eqP r c i.1))])]) nl' (fun i=>r.Body.length-i.1) (⟨0,by simp⟩) ?_;intro S1 hS1 i;obtain⟨j,hj⟩:=i;have hl2:=c0l (b:=c) hV hj;simp only[go_sem,hS0,hS1];repeat' first|apply cj'|intro hc|exact om'|fail
  ·have h0:=c4C hc
   (refine lpK_n2 (⟨j+1,by omega⟩) _ rfl ?_;simp only[go_sem,hS0,hS1]<;>repeat' first|apply V0|exact on'|fail)
   all_goals first|(rw[eqP,c0n h0];done)|(rw[eqG,b1K,h0];simp;done)
  ·rename_i h1;have h0:=b2D h1
   (refine lpK_n2 (⟨j+1,by omega⟩) _ rfl ?_;simp only[go_sem,hS0,hS1]<;>repeat' first|apply V0|exact on'|fail)
   all_goals first|(rw[eqP,b6X h0 hc.1 hc.2];done)|(rw[eqG,b1K,h0,hc.1,hc.2];simp;done)
  ·rename_i h1 h2;have h0:=b2D h1
   (refine lpK_n2 (⟨j+1,by omega⟩) _ rfl ?_;simp only[go_sem,hS0,hS1]<;>repeat' first|apply V0|exact on'|fail)
   all_goals first|(rw[eqP,c0m h0 hc.1 hc.2];done)|(rw[eqG,b1K,h0,hc.1,hc.2];simp;done)
  ·rename_i h1 h2;have h3:b1K (r.Body.getD j default) (eqP r c j)=false:=by rw[b1K,h2,hc];simp
   (refine lpK_n2 (⟨j+1,by omega⟩) _ rfl ?_;simp only[go_sem,hS0,hS1]<;>repeat' first|apply V0|exact on'|fail)
   all_goals first|(rw[eqP,b8h h3];done)|(rw[eqG,h3,Bool.or_false];done)
  ·obtain rfl:j=r.Body.length:=by omega
   have h1:eqG r c r.Body.length=false->eqP r c r.Body.length=c:=c2P;have h2:=c4l (r:=r) (b:=c) (q0C _);have h4:eqI r e.Binds (k+1)=eqP r c r.Body.length:=by rw[eqI,hk];rfl
   cases hG:eqG r c r.Body.length with
   | true=>
     have h5:=h2 hG
     (refine lpK_n2 (⟨(true,eqP r c r.Body.length),⟨k+1,h4⟩,by intro h;cases h⟩) _ rfl ?_;simp only[go_sem,hS0,hS1]<;>repeat' first|apply V0|exact on'|fail)
     all_goals first|rfl|(rename_i h;rw[h];simp only[W5];omega)|(simp only[*,W5];omega)|trace_state
   | false=>
     have h5:=h1 hG;rw[h5]
     (refine lpK_n2 (⟨(false,c),⟨k,hk⟩,fun _=>h5⟩) _ rfl ?_;simp only[go_sem,hS0,hS1]<;>repeat' first|apply V0|exact on'|fail)
     all_goals first|rfl|(simp only[*,W5,W3];omega)|trace_state
 ·exact congrArg (List.map c4.cells) (b8k ⟨k,hk,hp hc⟩).symm
noncomputable def a5r:CT:=s6 (fun(x:c7×c9) h=>b1Q x.1 x.2 h)
@[go_sem] def c2n:=fun x0 x1 x2 x3 x4=>nm' (fP' a5r rfl (⟨x0,⟨x1,x2⟩,x3⟩,⟨x4⟩))
def b4T(e:c9)(t:d3):spZ 256 [(true,[u5 e.Binds]),(true,[.s t.Var,.i .i64 t.Val.N,.s t.Val.S])] [] (.tup [(true,[.i .i64 (((k8 e t).1).N),.s (((k8 e t).1).S)]),(false,[.b ((k8 e t).2)])]):=by
 refine sy' Tryz.func256 (q' 2 [aX 1 0,aX 3 1,aw [.i .i64,.s],aU false] (.seq (q' 6 [aG 0 3,aY .eql 7 []] (ci 8 (q' 9 [af 1 3,aE 2,aS 2 4 10,ab 5 true] .ret))) (q' 11 [ae 1 2,aG 0 3,ac 254 [11,13],aZ 14 0,aZ 14 1,aS 2 4 15,aV 5] .ret))) [.c 4 true 2,.t 5] [(254,[],a2q)] ?_;intro hb hE;simp only[go_sem];repeat' first|apply cj'|intro hc|exact om'|fail
 all_goals first|(rw[k8,hc];exact⟨⟨rfl,rfl⟩,rfl⟩)|trace_state
noncomputable def a3m:CT:=o8 (fun(x:c9×d3)=>b4T x.1 x.2)
@[go_sem] def c4j:=fun x0 x1 x2 x3=>nm' (fQ' a3m rfl (⟨x0⟩,⟨x1,⟨x2,x3⟩⟩))
def b2k(r:c7)(e:c9)(hpre:l4 r=true/\e.Binds.length<=100):spZ 164 [(true,[.i .i64 r.Kind,.s r.Head.Name,o9 r.Head.Args,a0I r.Body]),(true,[u5 e.Binds])] [] (.one (true,[u5 ((eqE r e).Binds)])):=by
 refine sx' false true none Tryz.func164 (q' 2 [aX 4 0,aX 1 1,aw [.sl j3]] (.seq (q' 5 [ao (.mov (.k (.v false [.c (.i .i64 (-1))])))] (lO 0 (.seq (q' 12 [am 5,aG 0 3,aN,ar 12 15] (cd 16 .skip (.exit 0))) (.block 1 (q' 17 [aG 0 3,aN,aV 5] (q' 20 [aG 3 2,aN,aK 0] (fO 2 24 [ar 23 22] 24 3 (q' 25 [am 23,aV 6] (q' 26 [aG 3 2,am 6,aI 10,aE 10,ax (w' 7 [.i .i64,.s,.sl j3,.i .i64,.s,.i .i64,.s,.s,.i .i64,.s]),aS 10 7 30] (.seq (q' 31 [aG 0 7,aC .neq 32 3,am 33,aH 34 false [bf 3 7,bL,bC .neq 36 1],aQ 34 37] (ci 38 (.exit 3))) (q' 40 [ae 1 3,af 4 7,aE 3,ac 256 [40,42],aV 39,aZ 39 0,aZ 39 1,ax (w' 8 [.i .i64,.s]),aS 2 8 44,aV 9] (q' 47 [ae 1 3,af 7 7,aE 3,ac 256 [47,49],aV 46,aZ 46 0,aZ 46 1,ax (w' 10 [.i .i64,.s]),aS 2 10 51,aV 11] (.seq (q' 53 [aM [9,53],aH 54 true [bm 11,bO 55],aP 54 56] (ci 57 (g' 58 [ae 1 3,af 7 7,aG 0 59,ae 2 8,ac 255 [58,61,62],aS 1 3 63]))) (q' 64 [aM [11,64],aH 65 true [bm 9,bO 66],aP 65 67] (ci 68 (g' 69 [ae 1 3,af 4 7,aG 0 70,ae 2 10,ac 255 [69,72,73],aS 1 3 74]))))))))) (g' 75 [aA 23])))))))) (q' 76 [ae 1 3,aS 1 4 76] .ret))) [.c 4 true 1] [(256,[],a3m),(255,[],a5B)] ?_;intro hb hE;obtain⟨hr,he⟩:=hpre;have hV:=a2Y hr;simp only[go_sem];repeat' first|apply cj'|intro hc|exact om'|fail
 refine lq' false [2,3,4] [4,8] [] (fun i:{q:Int×List c4 // (∃k,eqI r e.Binds k=q.2)/\-1<=q.1/\(¬q.1<q.2.length->a4m r q.2=q.2)}=>[(5,slV (.i .i64 i.1.1))]) (fun i=>[(6,[.c (u5 i.1.2)])]) nl' (fun i=>2*miss r (i.1.2.map c4.Var)+(bif decide (i.1.1<i.1.2.length)then 1 else 0)) (⟨(-1,e.Binds),⟨0,rfl⟩,by simp,by simp only;omega⟩) ?_;intro S0 hS0 i;obtain⟨⟨g,c⟩,⟨k,hk⟩,hg,hp⟩:=i;simp only at hk hg hp;have hcl:c.length<=e.Binds.length+64:=by rw[<-hk];exact c0k hV k
 simp only[go_sem,hS0];repeat' first|apply cj'|intro hc|exact om'|fail
 ·skip
  refine lq' false [2,3,4,5,22] [4,8] [] (fun i:{j:Nat // j<=r.Body.length}=>[(23,slV (.i .i64 i.1))]) (fun i=>[(6,[.c (u5 (eqP r c i.1))])]) nl' (fun i=>r.Body.length-i.1) (⟨0,by simp⟩) ?_;intro S1 hS1 i;obtain⟨j,hj⟩:=i;have hl2:=c0l (b:=c) hV hj;simp only[go_sem,hS0,hS1];repeat' first|apply cj'|intro hc|exact om'|fail
  ·have h0:=c4C hc
   (refine lpK_n2 (⟨j+1,by omega⟩) _ rfl ?_;simp only[go_sem,hS0,hS1]<;>repeat' first|apply V0|exact on'|fail)
   all_goals rw[eqP,c0n h0]
  ·rename_i h1 h2;rw[h2.2]at hc;exact absurd hc.1 (by decide)
  ·rename_i h1 h2;rw[h2.2]at hc;exact absurd hc.1 (by decide)
  ·rename_i h1 h2;have h0:=b2D h1
   (refine lpK_n2 (⟨j+1,by omega⟩) _ rfl ?_;simp only[go_sem,hS0,hS1]<;>repeat' first|apply V0|exact on'|fail)
   all_goals rw[eqP,b6X h0 h2.1 h2.2]
  ·rename_i h1 h2;have h0:=b2D h1
   (refine lpK_n2 (⟨j+1,by omega⟩) _ rfl ?_;simp only[go_sem,hS0,hS1]<;>repeat' first|apply V0|exact on'|fail)
   all_goals rw[eqP,c0m h0 hc.1 hc.2]
  ·rename_i h1 h2;have h3:b1K (r.Body.getD j default) (eqP r c j)=false:=by rw[b1K,h2,hc];simp
   (refine lpK_n2 (⟨j+1,by omega⟩) _ rfl ?_;simp only[go_sem,hS0,hS1]<;>repeat' first|apply V0|exact on'|fail)
   all_goals rw[eqP,b8h h3]
  ·obtain rfl:j=r.Body.length:=by omega
   have h4:eqI r e.Binds (k+1)=eqP r c r.Body.length:=by rw[eqI,hk];rfl
   have h5:=(a3q (r:=r) (b:=c) (q0C _)).2;have h6:¬(c.length:Int)<(eqP r c r.Body.length).length->a4m r (eqP r c r.Body.length)=eqP r c r.Body.length:=fun h=>by
    have:a4m r c=c:=b7p (by rw[a4m];omega);rw[a4m]at this;rw[this];exact this
   have h7:2*miss r ((eqP r c r.Body.length).map c4.Var)+(bif decide ((c.length:Int)<(eqP r c r.Body.length).length)then 1 else 0)<2*miss r (c.map c4.Var)+(bif decide (g<(c.length:Int))then 1 else 0):=by
    rw[W9 (p:=g<(c.length:Int)) (by omega),W5];rcases h5 with h5|h5
    ·rw[h5,V2 (by omega),W3];omega
    ·cases decide ((c.length:Int)<(eqP r c r.Body.length).length)<;>simp only[W5,W3]<;>omega
   (refine lpK_n2 (⟨(c.length,eqP r c r.Body.length),⟨k+1,h4⟩,by simp only;omega,h6⟩) _ rfl ?_;simp only[go_sem,hS0,hS1]<;>repeat' first|apply V0|exact on'|fail)
   all_goals first|exact h7|trace_state
 ·exact congrArg (List.map c4.cells) (b8k ⟨k,hk,hp (by omega)⟩).symm
noncomputable def a5C:CT:=s6 (fun(x:c7×c9) h=>b2k x.1 x.2 h)
@[go_sem] def c2H:=fun x0 x1 x2 x3 x4=>nm' (fP' a5C rfl (⟨x0,⟨x1,x2⟩,x3⟩,⟨x4⟩))
def c0o{b:List c4}{args:List d3}(hb:EnvS b)(ha:args.all p6=true)(hl:args.length<=6):a0V (z7 ⟨b⟩ args).1=true:=by
 rw[z7];cases h:args.all (fun t=>(k8 ⟨b⟩ t).2)with
 | false=>rfl
 | true=>
   rw[W5,a0V,W9 (by rw[q0O];omega),q0K,q0R];intro x hx;obtain⟨t,ht,rfl⟩:=q1E.1 hx;exact b5q hb (q0R.1 ha t ht) (q0R.1 h t ht)
def b7i{r:c7}(hr:l4 r=true){i:Nat}(hi:i<r.Body.length)(hk:((r.Body.getD i default).Kind==3)=false):(r.Body.getD i default).Atom.Args.all p6=true/\(r.Body.getD i default).Atom.Args.length<=6:=a8c hr (a0a default hi) hk
def k2_3{k:Int}(h:(k==2)=true):(k==3)=false:=by rw[beq_iff_eq]at h;rw[h];rfl
def hH_no{r:c7}{s:d7}{e:c9}{i:Nat}(hi:i<r.Body.length)(h:a9d s e (r.Body.getD i default)=false):a3s r s e=false:=all_false (p:=a9d s e) (d:=default) hi h
def hX_no{r:c7}{s:d7}{e:c9}{i:Nat}(hi:i<r.Body.length)(h:b4V s e (r.Body.getD i default)=false):a6I r s e=false:=all_false (p:=b4V s e) (d:=default) hi h
def b8C(r:c7)(s:d7)(e:c9)(hpre:l4 r=true/\u3 s=true/\EnvS e.Binds):spZ 152 [(true,[.i .i64 r.Kind,.s r.Head.Name,o9 r.Head.Args,a0I r.Body]),(true,[v9 s.Rels]),(true,[u5 e.Binds])] [] (.one (false,[.b (a3s r s e)])):=by
 refine sy' Tryz.func152 (q' 3 [aX 4 0,aX 1 1,aX 1 2,aU false] (.seq (q' 17 [aG 3 3,aN,aK 0] (fO 0 21 [ar 20 19] 21 1 (q' 22 [ai 10 18 20,aE 10,ax (w' 8 [.i .i64,.s,.sl j3,.i .i64,.s,.i .i64,.s,.s,.i .i64,.s]),aS 10 8 23] (q' 24 [aG 0 8] (.block 2 (q' 27 [aC .eql 25 2,aV 26] (cd 26 (q' 29 [ae 1 5,af 1 8,aG 1 30,ac 81 [29,32],aV 28,aZ 28 0,aZ 28 1,ax (w' 9 [.sl l5]),aS 1 9 34,aV 10] (q' 37 [ae 1 4,af 1 8,aG 0 38,ac 82 [37,40],aV 36,aZ 36 0,aZ 36 1,ax (w' 11 [.i .i64,.sl u2]),aS 2 11 42,aV 12] (q' 44 [ae 2 11,ae 1 9,ac 86 [44,45]] (ci 46 (q' 6 [aU false] .ret))))) (q' 48 [aC .eql 25 3,aV 47] (ci 47 (q' 50 [ae 1 5,af 4 8,aE 3,ac 171 [50,52],aV 49,aZ 49 0,aZ 49 1,ax (w' 13 [.i .i64,.s]),aS 2 13 54,aV 14] (q' 57 [ae 1 5,af 7 8,aE 3,ac 171 [57,59],aV 56,aZ 56 0,aZ 56 1,ax (w' 15 [.i .i64,.s]),aS 2 15 61,aV 16] (q' 63 [aG 3 8,ae 2 13,ae 2 15,ac 244 [64,65,66],aO 67] (ci 68 (q' 6 [aU false] .ret)))))))))))) (g' 69 [aA 20]))) (q' 6 [aU true] .ret))) [.t 6] [(81,[],a6m),(82,[],a2R),(86,[],a7W),(171,[],a0Y),(244,[],a5p)] ?_;intro hb hE;obtain⟨hr,hs,he⟩:=hpre;simp only[go_sem];repeat' first|apply cj'|intro hc|exact om'|fail
 refine lq' false [4,5,18,19] [8,10] [] (fun i:{i:Nat // i<=r.Body.length/\(r.Body.take i).all (a9d s e)=true}=>[(20,slV (.i .i64 i.1))]) nl' nl' (fun i=>r.Body.length-i.1) (⟨0,by simp⟩) ?_;intro S0 hS0 i;obtain⟨i,hi,ha⟩:=i;have hR:=a2W hs (r.Body.getD i default).Atom.Name;have hT:=fun(h1:i<r.Body.length) (h2:((r.Body.getD i default).Kind==2)=true)=>b7i hr h1 (k2_3 h2)
 simp only[go_sem,hS0];repeat' first|apply cj'|intro hc|exact om'|fail
 ·exact(hT (by omega) hc).2
 ·exact⟨hR,c0o he (hT (by omega) hc).1 (hT (by omega) hc).2⟩
 ·rename_i h1;rw[hH_no (i:=i) (by omega) (by rw[a9d,h1,W5,hc];rfl)]
 ·rename_i h1;exact nx0 ⟨i+1,by omega,a2s (p:=a9d s e) default (by omega) ha (by rw[a9d,h1,W5,hc];rfl)⟩
 ·rename_i h1 h2;rw[hH_no (i:=i) (by omega) (by rw[a9d,h1,W3,h2,W5];exact hc)]
 ·rename_i h1 h2;exact nx0 ⟨i+1,by omega,a2s (p:=a9d s e) default (by omega) ha (by rw[a9d,h1,W3,h2,W5];exact hc)⟩
 ·rename_i h1;exact nx0 ⟨i+1,by omega,a2s (p:=a9d s e) default (by omega) ha (by rw[a9d,h1,W3,hc];rfl)⟩
 ·rw[k7 (by omega)]at ha;rw[a3s,ha]
noncomputable def a8A:CT:=s6 (fun(x:c7×d7×c9) h=>b8C x.1 x.2.1 x.2.2 h)
@[go_sem] def c7j:=fun x0 x1 x2 x3 x4 x5=>nm' (fP' a8A rfl (⟨x0,⟨x1,x2⟩,x3⟩,⟨x4⟩,⟨x5⟩))
def b2l(r:c7)(s:d7)(e:c9)(hpre:l4 r=true):spZ 165 [(true,[.i .i64 r.Kind,.s r.Head.Name,o9 r.Head.Args,a0I r.Body]),(true,[v9 s.Rels]),(true,[u5 e.Binds])] [] (.one (false,[.b (a6I r s e)])):=by
 refine sy' Tryz.func165 (q' 3 [aX 4 0,aX 1 1,aX 1 2,aU false] (.seq (q' 15 [aG 3 3,aN,aK 0] (fO 0 19 [ar 18 17] 19 1 (q' 20 [am 18,aV 7] (q' 21 [aG 3 3,am 7,aI 10,aE 10,ax (w' 8 [.i .i64,.s,.sl j3,.i .i64,.s,.i .i64,.s,.s,.i .i64,.s]),aS 10 8 25] (.seq (q' 26 [aG 0 8,aC .eql 27 3] (ci 28 (q' 30 [ae 1 5,af 4 8,aE 3,ac 256 [30,32],aV 29,aZ 29 0,aZ 29 1,ax (w' 9 [.i .i64,.s]),aS 2 9 34,aV 10] (q' 37 [ae 1 5,af 7 8,aE 3,ac 256 [37,39],aV 36,aZ 36 0,aZ 36 1,ax (w' 11 [.i .i64,.s]),aS 2 11 41,aV 12] (.seq (q' 43 [aG 3 8,ae 2 9,ae 2 11,ac 257 [44,45,46],aO 47] (ci 48 (q' 6 [aU false] .ret))) (.exit 1)))))) (q' 50 [ae 1 5,af 1 8,aG 1 51,ac 178 [50,53],aV 49,aZ 49 0,aZ 49 1,ax (w' 13 [.sl l5]),aS 1 13 55,aV 14] (.seq (G' 57 [ae 1 4,af 1 8,aG 0 58,ae 1 13,ac 258 [57,60,61],aG 0 8,aC .eql 64 1,ao (.binb .neq (.t 62) (.t 65))]) (ci 66 (q' 6 [aU false] .ret))))))) (g' 67 [aA 18]))) (q' 6 [aU true] .ret))) [.t 6] [(178,[],a6E),(258,[],a8G),(256,[],a3m),(257,[],a5u)] ?_;intro hb hE;simp only[go_sem];repeat' first|apply cj'|intro hc|exact om'|fail
 refine lq' false [3,4,5,17] [6,8,10] [] (fun i:{i:Nat // i<=r.Body.length/\(r.Body.take i).all (b4V s e)=true}=>[(18,slV (.i .i64 i.1))]) nl' nl' (fun i=>r.Body.length-i.1) (⟨0,by simp⟩) ?_;intro S0 hS0 i;obtain⟨i,hi,ha⟩:=i;have hT:=fun(h1:i<r.Body.length) (h2:((r.Body.getD i default).Kind==3)=false)=>b7i hpre h1 h2
 simp only[go_sem,hS0];repeat' first|apply cj'|intro hc|exact om'|fail
 ·rename_i h1;rw[hX_no (i:=i) (by omega) (by rw[b4V,h1,W5];exact hc)]
 ·rename_i h1;exact nx0 ⟨i+1,by omega,a2s (p:=b4V s e) default (by omega) ha (by rw[b4V,h1,W5];exact hc)⟩
 ·exact(hT (by omega) hc).2
 ·rename_i h1;rw[hX_no (i:=i) (by omega) (by rw[b4V,h1,W3];exact hc)]
 ·rename_i h1;exact nx0 ⟨i+1,by omega,a2s (p:=b4V s e) default (by omega) ha (by rw[b4V,h1,W3];exact hc)⟩
 ·rw[k7 (by omega)]at ha;rw[a6I,ha]
noncomputable def a5D:CT:=s6 (fun(x:c7×d7×c9) h=>b2l x.1 x.2.1 x.2.2 h)
@[go_sem] def c2I:=fun x0 x1 x2 x3 x4 x5=>nm' (fP' a5D rfl (⟨x0,⟨x1,x2⟩,x3⟩,⟨x4⟩,⟨x5⟩))
end Go.Aw
namespace Go.Aw
open Go.Proofs Go.Shelf
attribute [local irreducible] aft blk lpK retK AW A0p
set_option linter.all false
set_option maxRecDepth 100000
set_option maxHeartbeats 4000000
attribute [local irreducible] RM
def Comp(vs:List (List UInt8))(e:c9):Prop:=EnvS e.Binds/\e.Binds.map c4.Var=vs
def Comp.len{vs:List (List UInt8)}{a b:c9}(ha:Comp vs a)(hb:Comp vs b):a.Binds.length=b.Binds.length:=by
 have:=congrArg List.length (ha.2.trans hb.2.symm);simpa using this
def Comp.cmp{vs:List (List UInt8)}{a b:c9}(ha:Comp vs a)(hb:Comp vs b):a3p a.Binds b.Binds=bif y6 a b then-1 else bif y6 b a then 1 else 0:=
 b3I (fun x hx=>(ha.1.1 x hx).2) (fun x hx=>(hb.1.1 x hx).2) (ha.2.trans hb.2.symm)
def Comp.eq0{vs:List (List UInt8)}{a b:c9}(ha:Comp vs a)(hb:Comp vs b)(h:(a3p a.Binds b.Binds==0)=true):a=b:=by
 rw[ha.cmp hb]at h;cases h1:y6 a b with
 | true=>rw[h1,W5]at h;exact absurd h (by decide)
 | false=>
   cases h2:y6 b a with
   | true=>rw[h1,h2,W3,W5]at h;exact absurd h (by decide)
   | false=>exact a2g.tri _ _ h1 h2
def Comp.ne0{vs:List (List UInt8)}{a b:c9}(ha:Comp vs a)(hb:Comp vs b)(h:(a3p a.Binds b.Binds==0)=false):¬a=b:=by
 rintro rfl;rw[ha.cmp hb,a2g.irr]at h;exact absurd h (by decide)
def Comp.lt1{vs:List (List UInt8)}{a b:c9}(ha:Comp vs a)(hb:Comp vs b):(a3p a.Binds b.Binds==-1)=y6 a b:=by
 rw[ha.cmp hb];cases y6 a b with
 | true=>rfl
 | false=>cases y6 b a<;>rfl
def Comp.by{vs:List (List UInt8)}{a b:c9}(ha:Comp vs a)(hb:Comp vs b):decide (a2I a.Binds.length (b8e a.Binds b.Binds)<0)=y6 a b:=by
 have h1:sgn (a2I a.Binds.length (b8e a.Binds b.Binds))=a3p a.Binds b.Binds:=b9W fun i hi=>b0U (ha.1.1 _ (a0a default hi)).2 (hb.1.1 _ (a0a default (by rw[<-ha.len hb];exact hi))).2
 rw[ha.cmp hb]at h1;generalize a2I a.Binds.length (b8e a.Binds b.Binds)=x at h1;unfold sgn at h1;cases h:y6 a b with
 | true=>rw[h,W5]at h1;exact W9 (by omega)
 | false=>
   rw[h,W3]at h1;cases h2:y6 b a with
   | true=>rw[h2,W5]at h1;exact V2 (by omega)
   | false=>rw[h2,W3]at h1;exact V2 (by omega)
def b2m(a:c9)(b:c9)(hpre:a.Binds.length=b.Binds.length):spZ 259 [(true,[u5 a.Binds]),(true,[u5 b.Binds])] [] (.one (false,[.i .i64 (a3p a.Binds b.Binds)])):=by
 refine sy' Tryz.func259 (q' 2 [aX 1 0,aX 1 1,aK 0] (.seq (q' 6 [aG 0 2,aN,aK 0] (fO 0 10 [ar 9 8] 10 1 (q' 11 [am 9,aV 5] (.seq (.seq (G' 12 [aG 0 2,am 5,aI 3,aF 1,aE 2,aG 0 3,am 5,aI 3,aF 1,aE 2,ac 315 [17,23]]) (ci 24 (q' 4 [ao (.mov (.k (.v false [.c (.i .i64 (-1))])))] .ret))) (.seq (G' 25 [aG 0 3,am 5,aI 3,aF 1,aE 2,aG 0 2,am 5,aI 3,aF 1,aE 2,ac 315 [30,36]]) (ci 37 (q' 4 [aK 1] .ret))))) (g' 38 [aA 9]))) (q' 4 [aK 0] .ret))) [.t 4] [(315,[],a3e)] ?_;intro hb hE;simp only[go_sem];repeat' first|apply cj'|intro hc|exact om'|fail
 refine lq' false [2,3,8] [4,6] [] (fun i:{i:Nat // i<=a.Binds.length/\∀j,j<i->a7c (a.Binds.getD j default).Val (b.Binds.getD j default).Val=0}=>[(9,slV (.i .i64 i.1))]) nl' nl' (fun i=>a.Binds.length-i.1) (⟨0,by simp⟩) ?_;intro S0 hS0 i;obtain⟨i,hi,hz⟩:=i;simp only[go_sem,hS0];repeat' first|apply cj'|intro hc|exact om'|fail
 ·rw[b0M hz (by rw[a7c,hc,W5];decide) (by omega),a7c,hc];rfl
 ·rename_i h1;rw[b0M hz (by rw[a7c,h1,hc];decide) (by omega),a7c,h1,hc];rfl
 ·rename_i h1;exact nx0 ⟨i+1,by omega,fun j hj=>(q2S.1 hj).elim (hz j) (fun q=>q▸(by rw[a7c,h1,hc];rfl))⟩
 ·rw[c0i fun j hj=>hz j (by omega)]
noncomputable def a5E:CT:=s6 (fun(x:c9×c9) h=>b2m x.1 x.2 h)
@[go_sem] def c2J:=fun x0 x1=>nm' (fP' a5E rfl (⟨x0⟩,⟨x1⟩))
def b6E(l:List c9)(e:c9)(hpre:l.length<=4000/\∃vs,Comp vs e/\∀x∈l,Comp vs x):spZ 166 [(false,[b7e l]),(true,[u5 e.Binds])] [] (.one (false,[b7e (a0i y6 l e)])):=by
 refine sx' false true none Tryz.func166 (q' 3 [aX 1 1,ao (.mov (.k (.v false [.nl a1n])))] (q' 9 [ao (.bsl 1 0 [.sl j3] []),aV 5] (q' 6 [aU false] (.seq (q' 10 [am 0,aN,aK 0] (fO 0 13 [ar 12 11] 13 1 (q' 14 [am 12,aV 7] (.seq (G' 15 [ae 1 3,aM [0,7],aI 1,aE 1,ac 259 [15,19],aV 8]) (.seq (q' 21 [am 8,aC .eql 21 0] (ci 22 (q' 23 [am 0,aV 4] .ret))) (.seq (q' 24 [am 6,aO 24,am 25,aH 26 true [bm 8,bC .eql 27 (-1)],aP 26 28] (ci 29 (q' 30 [am 5,ae 1 3,ao (.bsl 1 1 [.sl j3] [(0,.t 31)]),ao (.app 1 24 [.sl j3] (.t 30) (.t 32)),aV 5] (g' 6 [aU true])))) (g' 34 [aM [5,0,7],aI 1,aE 1,ao (.bsl 1 1 [.sl j3] [(0,.t 38)]),ao (.app 1 24 [.sl j3] (.t 34) (.t 39)),aV 5]))))) (g' 41 [aA 12]))) (.seq (q' 42 [am 6,aO 42] (ci 43 (g' 44 [am 5,ae 1 3,ao (.bsl 1 1 [.sl j3] [(0,.t 45)]),ao (.app 1 24 [.sl j3] (.t 44) (.t 46)),aV 5]))) (q' 48 [am 5,aV 4] .ret)))))) [.t 4] [(259,[],a5E)] ?_;intro hb hE;obtain⟨hlen,vs,he,hl0⟩:=hpre;simp only[go_sem];repeat' first|apply cj'|intro hc|exact om'|fail
 refine lk' false [(false,5,0,100010)] [0,3,11] [6] [] (fun i:{i:Nat // i<=l.length/\¬e∈l.take i}=>[(5,.v false [.ow 100010]),(6,slV (.b ((l.take i.1).any (y6 e)))),(12,slV (.i .i64 i.1))]) nl' (fun i=>[(100010,a1n,(a1c y6 e (l.take i.1)).map (c9.cells false false))]) (fun i=>l.length-i.1) (⟨0,by simp⟩) ?_;intro S0 hS0 i;obtain⟨i,hi,hm⟩:=i;have hl:=b2x y6 e (l.take i);rw[V8]at hl;have hC:=fun(h:i<l.length)=>hl0 _ (a0a (l:=l) default h)
 simp only[go_sem,hS0];repeat' first|apply cj'|intro hc|exact om'|fail
 ·exact he.len (hC (by omega))
 ·have hm2:e∈l:=by rw[he.eq0 (hC (by omega)) hc];exact a0a default (by omega)
  rw[a0i,if_pos hm2]
 ·rename_i h0;have hx:=l9 (l:=l) default (i:=i) (by omega);have hn:¬e∈l.take (i+1):=by rw[hx];simp only[W8,q0B];rintro(h|h);exact hm h;exact he.ne0 (hC (by omega)) h0 h
  have h5:y6 e (l.getD i default)=true:=by rw[<-he.lt1 (hC (by omega))];exact hc.2
  have h1:(l.take (i+1)).any (y6 e)=true:=by rw[hx,q1I,hc.1,q2K,h5];rfl
  have h2:a1c y6 e (l.take (i+1))=a1c y6 e (l.take i)++[e]++[l.getD i default]:=by rw[hx,b2w hc.1 h5]
  (refine lpK_n2 (⟨i+1,by omega,hn⟩) _ (by simp only[go_sem];try rfl) ?_;simp only[go_sem,hS0]<;>repeat' first|apply V0|exact on'|fail)
  all_goals first|rw[h1]|rw[h2]|trace_state
 ·rename_i h0;have hx:=l9 (l:=l) default (i:=i) (by omega);have hn:¬e∈l.take (i+1):=by rw[hx];simp only[W8,q0B];rintro(h|h);exact hm h;exact he.ne0 (hC (by omega)) h0 h
  have h3:(l.take (i+1)).any (y6 e)=(l.take i).any (y6 e)/\a1c y6 e (l.take (i+1))=a1c y6 e (l.take i)++[l.getD i default]:=by
   rw[hx];cases h:(l.take i).any (y6 e)with
   | true=>exact⟨by rw[q1I,h];rfl,a8P h⟩
   | false=>
     rw[h,he.lt1 (hC (by omega))]at hc;have hc2:y6 e (l.getD i default)=false:=hc;exact⟨by rw[q1I,h,q2K,hc2];rfl,b8t h hc2⟩
  (refine lpK_n2 (⟨i+1,by omega,hn⟩) _ (by simp only[go_sem];try rfl) ?_;simp only[go_sem,hS0]<;>repeat' first|apply V0|exact on'|fail)
  all_goals first|rw[h3.1]|rw[h3.2]|trace_state
 ·rw[k7 (by omega)]at hc hm ⊢;rw[a8R hm hc]
 ·rw[k7 (by omega)]at hc hm ⊢;rw[a8Q hm hc]
noncomputable def a7C:CT:=s6 (fun(x:(List c9)×c9) h=>b6E x.1 x.2 h)
@[go_sem] def c6j:=fun l x0=>nm' (fP' a7C rfl (l,⟨x0⟩))
def c6B(a:List c9)(hpre:a.length<4611686018427387904/\∃vs,∀x∈a,Comp vs x):spZ 153 [(false,[.sl true [.sl false [.s [],.i .i64 0,.s []] []] (a.map (c9.cells false false))]),(false,[.f 154 []])] [(0,(false,[.sl true [.sl false [.s [],.i .i64 0,.s []] []] ((a3w y6 a).map (c9.cells false false))]))] (.tup []):=by
 obtain⟨hlen,vs,hd⟩:=hpre;exact c6Q Tryz.sortEnv (by kernel_rfl) (k:=1) (fun w=>rfl) (fun w=>rfl) (cf:=c9.cells false false) (cb:=c9.cells false false) (z:=[.sl false [.s [],.i .i64 0,.s []] []]) rfl (fun x=>by simp only[go_sem]) (fun _=>rfl) (dom:=Comp vs) (fun x y=>a2I x.Binds.length (b8e x.Binds y.Binds)) a2g (fun x y hx hy=>hx.by hy) (enters_of Tryz.func154 (by kernel_rfl) rfl) (fun x y hx hy=>a8T x y (hx.len hy)) a hd hlen
noncomputable def b6V:CT:=s6 (fun(x:(List c9)) h=>c6B x h)
@[go_sem] def c9T:=fun a=>nm' (fP' b6V rfl a)
def a6U{r:c7}{s:d7}{l:List c9}{i:Nat}(h:i<l.length):a4l r s (l.take (i+1))=a4l r s (l.take i)++(bif a3s r s (eqE r (l.getD i default))then[eqE r (l.getD i default)]else[]):=by
 rw[a4l,a4l,l9 default h,q1T,List.filter_append]
 congr 1
 all_goals(simp only[V7,q0H,q5G,List.filter_nil];cases a3s r s (eqE r (l.getD i default))<;>rfl)
def a5g{r:c7}{s:d7}(hr:l4 r=true)(hs:u3 s=true):(a0H r s).1.length<=2000/\(∀e∈(a0H r s).1,e.Binds.length<=100/\EnvS e.Binds/\∀l∈r.Body,Rooted s e l)/\∃vs,∀e∈a4l r s (a0H r s).1,Comp vs e:=by
 rw[a0H];cases h:a0s r s r.Body.length with
 | none=>exact⟨by simp,by simp,[],by simp[a4l]⟩
 | some l=>
   have hJ:=Jn.all hr hs (q0C _) h;have h8:=body8 hr;obtain⟨vs,ha⟩:=hJ.alk;obtain⟨ws,hb⟩:=c0P (s:=s) hr ha;refine⟨b0c h,fun e he=>⟨by have:=hJ.len e he;omega,ha.ok e he,fun x hx=>?_⟩,ws,fun e he=>⟨hb.ok e he,hb.dom e he⟩⟩;obtain⟨i,hi,rfl⟩:=q2V hx;have:=hJ.root e he i hi
   rwa [m9 default hi]at this
def c2W{r:c7}{s:d7}(hr:l4 r=true)(hs:u3 s=true):(a4l r s (a0H r s).1).Nodup:=by
 rw[a0H];cases h:a0s r s r.Body.length with
 | none=>simp[a4l]
 | some l=>
   obtain⟨vs,ha⟩:=(Jn.all hr hs (q0C _) h).alk;obtain⟨ws,hb⟩:=c0P (s:=s) hr ha;exact hb.nd
def c6R{l:List c9}(h:l.Nodup):a3w y6 l=t9 y6 [] l:=by
 refine SS.uniq a2g (SS.of_sorted a2g (a5k a2g l) ((a1w y6 l).nodup_iff.2 h)) (SS.puts a2g SS.nil) fun x=>?_
 rw[b7j,y8];simp
def b6e(r:c7)(s:d7)(hpre:l4 r=true/\u3 s=true):spZ 71 [(true,[.i .i64 r.Kind,.s r.Head.Name,o9 r.Head.Args,a0I r.Body]),(true,[v9 s.Rels])] [] (.tup [(false,[kTEnv ((u9 r s).1)]),(false,[.b ((u9 r s).2)])]):=by
 refine sy' Tryz.func71 (q' 2 [aX 4 0,aX 1 1,ao (.mov (.k (.v false [.nl a1n]))),aU false] (q' 12 [ae 4 2,ae 1 3,ac 150 [12,13],aV 11,aZ 11 0,aZ 11 1,av 6 15,aV 7] (.seq (q' 17 [am 7,aO 17] (ci 18 (q' 4 [ao (.mov (.k (.v false [.nl a1n]))),aU false] .ret))) (q' 19 [ao (.bsl 1 0 [.sl j3] []),aV 8] (.seq (q' 20 [am 6,aN,aK 0] (fO 0 23 [ar 22 21] 23 1 (q' 24 [ai 1 20 22,aE 1,ax (w' 10 [.sl j3]),aS 1 10 25] (q' 26 [ae 4 2,ae 1 10,ac 151 [26,27],aS 1 10 28] (q' 29 [ae 4 2,ae 1 3,ae 1 10,ac 152 [29,30,31]] (ci 32 (g' 33 [am 8,ae 1 10,ao (.bsl 1 1 [.sl j3] [(0,.t 34)]),ao (.app 1 24 [.sl j3] (.t 33) (.t 35)),aV 8]))))) (g' 37 [aA 22]))) (q' 38 [am 8,ao (.call 153 [.t 38,.k (.v false [.c (.f 154 [])])])] (q' 40 [am 8,aV 4,ab 5 true] .ret))))))) [.t 4,.t 5] [(150,[],a7n),(151,[],a5r),(152,[],a8A),(153,[0],b6V)] ?_;intro hb hE;have hpre0:=hpre;obtain⟨hr,hs⟩:=hpre;obtain⟨hl,hf,vs,hv⟩:=a5g hr hs;have hnd:=c2W hr hs;simp only[go_sem];repeat' first|apply cj'|intro hc|exact om'|fail
 ·rw[u9,hc];exact⟨rfl,rfl⟩
 refine lk' false [(false,8,0,100016)] [2,3,20,21] [4,6] [1792] (fun i:{i:Nat // i<=(a0H r s).1.length}=>[(8,.v false [.ow 100016]),(22,slV (.i .i64 i.1))]) nl' (fun i=>[(100016,a1n,(a4l r s ((a0H r s).1.take i.1)).map (c9.cells false false))]) (fun i=>(a0H r s).1.length-i.1) (⟨0,by simp⟩) ?_;intro S0 hS0 i;obtain⟨i,hi⟩:=i;have hol:=a9h r s ((a0H r s).1.take i);rw[V8]at hol;have hm:=fun(h:i<(a0H r s).1.length)=>hf _ (a0a default h)
 simp only[go_sem,hS0];repeat' first|apply cj'|intro hc|exact om'|fail
 ·exact⟨⟨hr,hs⟩,c2Q hr (hm (by omega)).2.1⟩
 ·(refine lpK_n2 (⟨i+1,by omega⟩) _ (by simp only[go_sem];try rfl) ?_;simp only[go_sem,hS0]<;>repeat' first|apply V0|exact on'|fail)
  all_goals(rw[a6U (by omega),hc];rfl)
 ·(refine lpK_n2 (⟨i+1,by omega⟩) _ (by simp only[go_sem];try rfl) ?_;simp only[go_sem,hS0]<;>repeat' first|apply V0|exact on'|fail)
  all_goals(rw[a6U (by omega),hc];simp)
 ·rw[k7 (by omega)];exact⟨by have:=a9h r s (a0H r s).1;omega,vs,hv⟩
 ·rename_i h1;rw[k7 (by omega),c6R hnd,u9,h1];exact⟨rfl,rfl⟩
noncomputable def a7m:CT:=s6 (fun(x:c7×d7) h=>b6e x.1 x.2 h)
@[go_sem] def c5I:=fun x0 x1 x2 x3 x4=>nm' (fP' a7m rfl (⟨x0,⟨x1,x2⟩,x3⟩,⟨x4⟩))
def c9d{vs:List (List UInt8)}:∀{l a:List c9},(∀x∈a,Comp vs x)->(∀x∈l,Comp vs x)->∀x∈t9 y6 a l,Comp vs x:=fun{l a} h1 h2 x hx=>(y8.1 hx).elim (h1 x) (h2 x)
def b3Y{r:c7}{s:d7}{e:c9}(hr:l4 r=true)(h:∀l∈r.Body,Rooted s e l):a6I r s (eqE r e)=a3s r s (eqE r e):=
 c8B hr fun l hl=>(h l hl).ext (b2v r e.Binds)
def c8X{r:c7}{s:d7}{l:List c9}{i:Nat}{x:c9}(h:x∈a4l r s (l.take i)):x∈a4l r s l:=by
 rw[a4l,q1H,q1E]at h ⊢;obtain⟨⟨e,he,hx⟩,h2⟩:=h;exact⟨⟨e,q2H he,hx⟩,h2⟩
def c3g(a l:List c9)(e:c9):t9 y6 a (l++[e])=a0i y6 (t9 y6 a l) e:=by
 simp only[t9,q3X,q2R,List.foldl_nil]
def b0n(r:c7)(s:d7)(hpre:l4 r=true/\u3 s=true):spZ 76 [(true,[.i .i64 r.Kind,.s r.Head.Name,o9 r.Head.Args,a0I r.Body]),(true,[v9 s.Rels])] [] (.tup [(false,[b7e ((u9 r s).1)]),(false,[.b ((u9 r s).2)])]):=by
 refine sx' false true none Tryz.func76 (q' 2 [aX 4 0,aX 1 1,ao (.mov (.k (.v false [.nl a1n]))),aU false] (q' 19 [ao (.bld [.sl j3] []),ao (.bsl 1 1 [.sl j3] [(0,.t 19)]),aV 6] (.seq (q' 21 [aG 3 2,aN,aK 0] (fO 0 25 [ar 24 23] 25 1 (q' 26 [am 24,aV 7] (q' 27 [aG 3 2,am 7,aI 10,aE 10,ax (w' 8 [.i .i64,.s,.sl j3,.i .i64,.s,.i .i64,.s,.s,.i .i64,.s]),aS 10 8 31] (.seq (q' 32 [aG 0 8,aC .neq 33 1] (ci 34 (.exit 1))) (q' 36 [ae 1 3,af 1 8,aG 0 37,ac 162 [36,39],aV 35,aZ 35 0,aZ 35 1,ax (w' 9 [.i .i64,.sl u2]),aS 2 9 41,aV 10] (q' 43 [ao (.bsl 1 0 [.sl j3] []),aV 11] (.seq (q' 44 [am 6,aN,aK 0] (fO 2 47 [ar 46 45] 47 3 (q' 48 [am 46,aV 12] (.seq (q' 49 [aG 1 9,aN,aK 0] (fO 4 53 [ar 52 51] 53 5 (q' 54 [am 52,aV 13] (.seq (rm' [(true,0,m' 56 6),(true,1,m' 57 12),(true,2,i' 58 1 56 57),(true,3,e' 59 1 58),(true,4,f' 60 1 8),(true,5,f' 61 1 60),(true,6,l' 62 61),(true,7,f' 63 1 9),(true,8,l' 64 63),(true,9,m' 65 13),(true,10,i' 66 1 64 65),(true,11,e' 67 1 66),(false,12,c' 68 163 [59,62,67]),(false,13,m' 55 68),(false,14,o' 69 (.ext (.t 55) 0)),(false,15,o' 70 (.ext (.t 55) 1)),(false,16,w' 14 [.sl j3]),(false,17,s' 1 14 69),(false,18,m' 15 70)] [[0,1,2,3,4,5,6,7,8,9,10,11,12,13,14, 16,15,17,18],[0,1,2,3,4,5,6,7,8,9,10,11,12,13,14,16,17,15,18],[0,1,2,3,4,5,6,7,8,9,10,11,12,13,15,16,14,17,18],[0, 1,2,3,4,5,6,7,8,9,10,11,12,13,16,14,15,17,18],[0,1,2,3,4,5,6,7,8,9,10,11,12,13,16,14,17,15,18],[0,1,2,3,4,5,6,7, 8,9,10,11,12,16,13,14,15,17,18],[0,1,2,3,4,5,6,7,8,9,10,11,12,16,13,14,17,15,18],[0,1,2,3,4,5,6,7,8,9,10,11,16,12, 13,14,15,17,18],[0,1,2,3,4,5,6,7,8,9,10,11,16,12,13,14,17,15,18]] [16,17,18,19]) (q' 71 [am 15] (ci 71 (g' 72 [am 11,ae 1 14,ao (.bsl 1 1 [.sl j3] [(0,.t 73)]),ao (.app 1 24 [.sl j3] (.t 72) (.t 74)),aV 11]))))) (g' 76 [aA 52]))) (q' 77 [am 11,aN,aC .gtr 78 2000] (ci 79 (q' 4 [ao (.mov (.k (.v false [.nl a1n]))),aU false] .ret))))) (g' 80 [aA 46]))) (g' 81 [am 11,aV 6]))))))) (g' 82 [aA 24]))) (q' 83 [ao (.bsl 1 0 [.sl j3] []),aV 16] (.seq (q' 84 [am 6,aN,aK 0] (fO 6 87 [ar 86 85] 87 7 (q' 88 [am 86,aV 17] (.seq (rm' [(true,0,e' 89 4 2),(true,1,m' 90 6),(true,2,m' 91 17),(true,3,i' 92 1 90 91),(true,4,e' 93 1 92),(false,5,c' 94 164 [89,93]),(false,6,w' 18 [.sl j3]),(false,7,s' 1 18 94)] [[0,1,2,3,4,6,5,7]] [4,5]) (q' 95 [ae 4 2,ae 1 3,ae 1 18,ac 165 [95,96,97]] (ci 98 (g' 99 [am 16,ae 1 18,ac 166 [99,100],aV 16]))))) (g' 102 [aA 86]))) (q' 103 [am 16,aV 4,ab 5 true] .ret)))))) [.t 4,.t 5] [(162,[],a4f),(163,[],a5A),(164,[],a5C),(165,[],a5D),(166,[],a7C)] ?_;intro hb hE;obtain⟨hr,hs⟩:=hpre;have hb8:=body8 hr;simp only[go_sem];(repeat' first|apply cj'|intro hc|apply y9);(all_goals(try(refine(show A3U _ _ _ _ _ _ from ?_);simp only[go_sem]at hc ⊢;simp only[go_sem,A7u,A7y,A6L,A6K,A7t,A6J,nf_put_sub,A7w,A7v,nf_put_susK,nf_put_dip,nf_put_put,A7x,A7s,A6M,j8,j6,j4,j5,j7,nf_sub_sub]at hc ⊢;simp only[hc,q0Q,q0G];done)));all_goals try exact om'
 refine lk' false [(false,6,0,100012)] [2,3,23] [4,6,17,19,5] [] (fun i:{q:Nat×List c9 // q.1<=r.Body.length/\a0s r s q.1=some q.2}=>[(6,.v false [.ow 100012]),(24,slV (.i .i64 i.1.1))]) nl' (fun i=>[(100012,a1n,i.1.2.map (c9.cells false false))]) (fun i=>r.Body.length-i.1.1) (⟨(0,[⟨[]⟩]),by simp,rfl⟩) ?_;intro S0 hS0 i;obtain⟨⟨n,now⟩,hn,hj⟩:=i;simp only at hn hj;have hJ:=Jn.all hr hs hn hj;have hl:=b0c hj;have hR:=a2W hs (r.Body.getD n default).Atom.Name;have hRl:=a6W hR;have hRe:(arR r s n).length=(z5 s (r.Body.getD n default).Atom.Name).1.Rows.length:=rfl;simp only[go_sem,hS0];(repeat' first|apply cj'|intro hc|apply y9);(all_goals(try(refine(show A3U _ _ _ _ _ _ from ?_);simp only[go_sem,hS0]at hc ⊢;simp only[go_sem,hS0,A7u,A7y,A6L,A6K,A7t,A6J,nf_put_sub,A7w,A7v,nf_put_susK,nf_put_dip,nf_put_put,A7x,A7s,A6M,j8,j6,j4,j5,j7,nf_sub_sub]at hc ⊢;simp only[hc,q0Q,q0G];done)));all_goals try exact om'
 ·exact nk0 ⟨(n+1,now),by simp only;omega,b4d hj (by simpa[bne]using hc)⟩
 ·have hk:((r.Body.getD n default).Kind==1)=true:=by simpa[bne]using hc
  refine a1K 100012 ?_;refine lk' false [(false,11,0,100022)] [2,3,6,8,9,23,24,45] [4,6,16,18,17,19,5] [] (fun i:{j:Nat // j<=now.length/\(v5 (arA r n) (arR r s n) (now.take j)).length<=2000}=>[(11,.v false [.ow 100022]),(46,slV (.i .i64 i.1))]) nl' (fun i=>[(100022,a1n,(v5 (arA r n) (arR r s n) (now.take i.1)).map (c9.cells false false))]) (fun i=>now.length-i.1) (⟨0,by simp,by simp[v5]⟩) ?_;intro S1 hS1 i;obtain⟨j,hj1,hj2⟩:=i;simp only[go_sem,hS0,hS1];(repeat' first|apply cj'|intro hc|apply y9);(all_goals(try(refine(show A3U _ _ _ _ _ _ from ?_);simp only[go_sem,hS0,hS1]at hc ⊢;simp only[go_sem,hS0,hS1,A7u,A7y,A6L,A6K,A7t,A6J,nf_put_sub,A7w,A7v,nf_put_susK,nf_put_dip,nf_put_put,A7x,A7s,A6M,j8,j6,j4,j5,j7,nf_sub_sub]at hc ⊢;simp only[hc,q0Q,q0G];done)));all_goals try exact om'
  ·have hm:=a0a (l:=now) default (i:=j) (by omega);have he6:=hJ.len _ hm;have hall:=b9u (A:=arA r n) (R:=arR r s n) (now:=now) (j:=j) (by omega);refine lk' false [(false,11,0,100022)] [2,3,6,8,9,12,23,24,45,46,51] [4,6,16,18,17,19,5] [] (fun i:{k:Nat // k<=(arR r s n).length}=>[(11,.v false [.ow 100022]),(52,slV (.i .i64 i.1))]) nl' (fun i=>[(100022,a1n,(b1H (arA r n) (now.getD j default) (arR r s n) (v5 (arA r n) (arR r s n) (now.take j)) i.1).map (c9.cells false false))]) (fun i=>(arR r s n).length-i.1) (⟨0,by simp⟩) ?_;intro S2 hS2 i;obtain⟨k,hk1⟩:=i;have hlk:=b9v (A:=arA r n) (e:=now.getD j default) (R:=arR r s n) (base:=v5 (arA r n) (arR r s n) (now.take j)) hk1;simp only[go_sem,hS0,hS1,hS2];(repeat' first|apply cj'|intro hc|apply y9);(all_goals(try((first|refine s9 12 rfl ?_);intro S hS B0 hB;simp only[go_sem,hS0,hS1,hS2,V6,q0M]at hS hB;(repeat(first|replace hS:=And.right hS|replace hS:=CJ.r hS));have Rr59:=congrArg (fun s:St=>s.sl 59) hS;have Rr62:=congrArg (fun s:St=>s.sl 62) hS;have Rr67:=congrArg (fun s:St=>s.sl 67) hS;have Rb16:=congrArg (fun s:St=>s.bx 16) hS;have Rb17:=congrArg (fun s:St=>s.bx 17) hS;have Rb18:=congrArg (fun s:St=>s.bx 18) hS;have Rb19:=congrArg (fun s:St=>s.bx 19) hS;clear hS;simp only[go_sem,hS0,hS1,hS2]at Rr59 Rr62 Rr67 Rb16 Rb17 Rb18 Rb19;(try clear hc);intro K hc;simp only[go_sem,hS0,hS1,hS2,Rr59,Rr62,Rr67,Rb16,Rb17,Rb18,Rb19,hB,V7,q0H,V4,q0E]at hc ⊢;simp only[go_sem,hS0,hS1,hS2,Rr59,Rr62,Rr67,Rb16,Rb17,Rb18,Rb19,hB,A7u,A7y,A6L,A6K,A7t,A6J,nf_put_sub,A7w,A7v,nf_put_susK,nf_put_dip,nf_put_put,A7x,A7s,A6M,j8,j6,j4,j5,j7,nf_sub_sub]at hc ⊢;(first|(simp only[hc,q0Q,q0G];done)|((repeat' first|exact hc|apply V0);done)))));all_goals try exact om'
   ·exact⟨by omega,c0Y hR (by omega)⟩
   ·(refine lpK_n2 (⟨k+1,by omega⟩) _ (by simp only[go_sem,hS0,hS1];try rfl) ?_;simp only[go_sem,hS0,hS1,hS2]<;>repeat' first|apply V0|exact on'|fail)
    all_goals(rw[b1H,b3N hc];rfl)
   ·(refine lpK_n2 (⟨k+1,by omega⟩) _ (by simp only[go_sem,hS0,hS1];try rfl) ?_;simp only[go_sem,hS0,hS1,hS2]<;>repeat' first|apply V0|exact on'|fail)
    all_goals(rw[b1H,b8o hc];simp)
   ·obtain rfl:k=(arR r s n).length:=by omega
    rw[hall]at hc;rw[u9,b7d hj (by omega) hk (j:=j+1) (show 2000<(v5 (arA r n) (arR r s n) (now.take (j+1))).length by omega)];exact⟨rfl,rfl⟩
   ·obtain rfl:k=(arR r s n).length:=by omega
    rw[hall]at hc
    (refine lpK_n2 (⟨j+1,by omega,by omega⟩) _ (by simp only[go_sem,hS0,hS1];try rfl) ?_;simp only[go_sem,hS0,hS1,hS2]<;>repeat' first|apply V0|exact on'|fail)
    all_goals rw[hall]
  ·rw[k7 (by omega)]at hj2
   (refine lpK_n2 (⟨(n+1,v5 (arA r n) (arR r s n) now),by simp only;omega,c0t hj hk hj2⟩) _ (by simp only[go_sem,hS0,hS1];try rfl) ?_;simp only[go_sem,hS0,hS1]<;>repeat' first|apply V0|exact on'|fail)
   all_goals rw[k7 (by omega)]
 obtain rfl:n=r.Body.length:=by omega
 have hJR:=c0u hj;obtain⟨_,hf,vs,hv⟩:=a5g hr hs;rw[hJR]at hf hv;simp only at hf hv;refine a1K 100012 ?_;refine a1K 10624 ?_;refine lq' false [2,3,6,85] [4,6,5] [] (fun i:{i:Nat // i<=now.length}=>[(16,.v false [.c (b7e (t9 y6 [] (a4l r s (now.take i.1))))]),(86,slV (.i .i64 i.1))]) nl' nl' (fun i=>now.length-i.1) (⟨0,by simp⟩) ?_;intro S3 hS3 i;obtain⟨i,hi⟩:=i;have hol:=a9h r s (now.take i);rw[V8]at hol;have hpl:=a1X y6 (a4l r s (now.take i)) [];have hm:=fun(h:i<now.length)=>hf _ (a0a default h)
 have hsub:∀k,∀x∈a4l r s (now.take k),Comp vs x:=fun k x hx=>hv x (c8X hx)
 have hsy:=fun(h:i<now.length) (hc:a6I r s (eqE r (now.getD i default))=true)=>(a6U (r:=r) (s:=s) h).trans (by rw[(b3Y hr (hm h).2.2).symm,hc,W5])
 have hsn:=fun(h:i<now.length) (hc:a6I r s (eqE r (now.getD i default))=false)=>(a6U (r:=r) (s:=s) h).trans (by rw[(b3Y hr (hm h).2.2).symm,hc,W3,q0L])
 simp only[go_sem,hS0,hS3];(repeat' first|apply cj'|intro hc|apply y9);(all_goals(try((first|refine s9 5 rfl ?_);intro S hS B0 hB;simp only[go_sem,hS0,hS3,V6,q0M]at hS hB;(repeat(first|replace hS:=And.right hS|replace hS:=CJ.r hS));have Rr89:=congrArg (fun s:St=>s.sl 89) hS;have Rr93:=congrArg (fun s:St=>s.sl 93) hS;have Rb4:=congrArg (fun s:St=>s.bx 4) hS;have Rb5:=congrArg (fun s:St=>s.bx 5) hS;clear hS;simp only[go_sem,hS0,hS3]at Rr89 Rr93 Rb4 Rb5;(try clear hc);intro K hc;simp only[go_sem,hS0,hS3,Rr89,Rr93,Rb4,Rb5,hB,V7,q0H,V4,q0E]at hc ⊢;simp only[go_sem,hS0,hS3,Rr89,Rr93,Rb4,Rb5,hB,A7u,A7y,A6L,A6K,A7t,A6J,nf_put_sub,A7w,A7v,nf_put_susK,nf_put_dip,nf_put_put,A7x,A7s,A6M,j8,j6,j4,j5,j7,nf_sub_sub]at hc ⊢;(first|(simp only[hc,q0Q,q0G];done)|((repeat' first|exact hc|apply V0);done)))));all_goals try exact om'
 ·have h1:=hsy (by omega) hc;refine⟨by simp only[q0V]at hpl;omega,vs,hsub (i+1) _ (by rw[h1];simp),c9d (by intro x hx;cases hx) (hsub i)⟩
 ·have h1:=hsy (by omega) hc
  (refine lpK_n2 (⟨i+1,by omega⟩) _ rfl ?_;simp only[go_sem,hS0,hS3]<;>repeat' first|apply V0|exact on'|fail)
  all_goals rw[h1,c3g]
 ·have h1:=hsn (by omega) hc
  (refine lpK_n2 (⟨i+1,by omega⟩) _ rfl ?_;simp only[go_sem,hS0,hS3]<;>repeat' first|apply V0|exact on'|fail)
  all_goals rw[h1]
 ·rw[k7 (by omega),u9,hJR];exact⟨rfl,rfl⟩
noncomputable def a4E:CT:=s6 (fun(x:c7×d7) h=>b0n x.1 x.2 h)
@[go_sem] def c1B:=fun x0 x1 x2 x3 x4=>nm' (fP' a4E rfl (⟨x0,⟨x1,x2⟩,x3⟩,⟨x4⟩))
end Go.Aw
namespace Go.Aw
open Go.Proofs
attribute [local irreducible] aft blk lpK retK AW A0p
set_option linter.all false
set_option maxRecDepth 100000
set_option maxHeartbeats 4000000
attribute [local irreducible] RM
def b0G{r:c7}{s:d7}(hr:l4 r=true)(hs:u3 s=true):(u9 r s).1.length<=2000/\∀e∈(u9 r s).1,e.Binds.length<=164:=by
 obtain⟨hl,hf,_⟩:=a5g hr hs;rw[u9];cases(a0H r s).2 with
 | false=>exact⟨q2I _,by intro e he;cases he⟩
 | true=>
   rw[W5];refine⟨?_,fun e he=>?_⟩
   ·have h1:=a1X y6 (a4l r s (a0H r s).1) [];have h2:=a9h r s (a0H r s).1;simp only[q0V]at h1;simp only;omega
   ·have h1:=(y8.1 he).resolve_left (by intro h;cases h);rw[a4l,q1H,q1E]at h1;obtain⟨⟨e',he',rfl⟩,_⟩:=h1;have h3:=(hf e' he').1;have h4:=eqR_len r e'.Binds;have h5:=a2Y hr;simp only[eqE];omega
noncomputable def a0x(r:c7)(s:d7):List c9×Bool:=bif l4 r&&(!decide (0<((a0z r).length:Int))&&u3 s)then u9 r s else([],false)
def c5y(r:c7)(s:d7):(a0x r s).1.length<=2000/\∀e∈(a0x r s).1,e.Binds.length<=164:=by
 unfold a0x;cases h:l4 r&&(!decide (0<((a0z r).length:Int))&&u3 s)with
 | false=>exact⟨q2I _,by intro e he;cases he⟩
 | true=>
   simp only[W6]at h;exact b0G h.1 h.2.2
def b9G{r:c7}{s:d7}(h:(l4 r=false\/0<((a0z r).length:Int))\/u3 s=false):a0x r s=([],false):=by
 have:(l4 r&&(!decide (0<((a0z r).length:Int))&&u3 s))=false:=by
  rcases h with(h|h)|h
  ·rw[h];rfl
  ·rw[W9 h];simp
  ·rw[h];simp
 rw[a0x,this,W3]
def a9P{r:c7}{s:d7}(h:(l4 r=true/\¬0<((a0z r).length:Int))/\u3 s=true):a0x r s=u9 r s:=by
 rw[a0x,h.1.1,h.2,V2 h.1.2];rfl
def b0H{r:c7}{s:d7}(h:(u9 r s).2=false):(u9 r s).1=[]:=by
 unfold u9 at*;cases hj:(a0H r s).2 with
 | false=>rfl
 | true=>rw[hj]at h;cases h
def b6l(r:c7)(s:d7):spZ 24 [(true,[.i .i64 r.Kind,.s r.Head.Name,o9 r.Head.Args,a0I r.Body]),(true,[v9 s.Rels])] [] (.tup [(false,[b7e ((a0x r s).1)]),(false,[.b ((a0x r s).2)])]):=by
 refine sx' false true none Tryz.func24 (q' 2 [aX 4 0,aX 1 1,ao (.mov (.k (.v false [.nl a1n]))),aU false] (.seq (q' 6 [ae 4 2,ac 73 [6],aO 7,am 8,aH 9 false [be 4 2,bc 74 [10],bN,bC .gtr 12 0],aQ 9 13,am 14,aH 15 false [be 1 3,bc 75 [16],bO 17],aQ 15 18] (ci 19 (q' 4 [ao (.mov (.k (.v false [.nl a1n]))),aU false] .ret))) (q' 20 [ae 4 2,ae 1 3,ac 76 [20,21],aZ 22 0,aZ 22 1,av 4 23,aV 5] .ret))) [.t 4,.t 5] [(73,[],a1i),(74,[],a4z),(75,[],a6q),(76,[],a4E)] ?_;intro hb hE;simp only[go_sem];repeat' first|apply cj'|intro hc|exact om'|fail
 ·rw[b9G hc];exact⟨rfl,rfl⟩
 ·exact⟨hc.1.1,hc.2⟩
 ·rw[a9P hc];exact⟨rfl,rfl⟩
noncomputable def a7q:CT:=o8 (fun(x:c7×d7)=>b6l x.1 x.2)
@[go_sem] def c5P:=fun x0 x1 x2 x3 x4=>nm' (fQ' a7q rfl (⟨x0,⟨x1,x2⟩,x3⟩,⟨x4⟩))
def a7G(r:c7)(s:d7):spZ 23 [(true,[.i .i64 r.Kind,.s r.Head.Name,o9 r.Head.Args,a0I r.Body]),(true,[v9 s.Rels])] [] (.tup [(false,[kDEnv ((a0x r s).1)]),(false,[.b ((a0x r s).2)])]):=by
 refine sx' true false none Tryz.func23 (q' 2 [aX 4 0,aX 1 1,ao (.mov (.k (.v false [.nl a1n]))),aU false] (.seq (q' 11 [ae 4 2,ac 69 [11],aO 12,am 13,aH 14 false [be 4 2,bc 67 [15],bN,bC .gtr 17 0],aQ 14 18,am 19,aH 20 false [be 1 3,bc 70 [21],bO 22],aQ 20 23] (ci 24 (q' 4 [ao (.mov (.k (.v false [.nl a1n]))),aU false] .ret))) (q' 26 [ae 4 2,ae 1 3,ac 71 [26,27],aV 25,aZ 25 0,aZ 25 1,av 6 29,aV 7] (.seq (q' 31 [am 7,aO 31] (ci 32 (q' 4 [ao (.mov (.k (.v false [.nl a1n]))),aU false] .ret))) (q' 33 [ao (.bsl 1 0 [.sl j3] []),aV 8] (.seq (q' 34 [am 6,aN,aK 0] (fO 0 37 [ar 36 35] 37 1 (q' 38 [ai 1 34 36,aE 1,ax (w' 10 [.sl j3]),aS 1 10 39] (g' 40 [am 8,aG 0 10,ac 72 [42],ao (.bld [.sl j3] [(0,1,.t 43)]),ao (.bsl 1 1 [.sl j3] [(0,.t 44)]),ao (.app 1 24 [.sl j3] (.t 40) (.t 45)),aV 8])) (g' 47 [aA 36]))) (q' 48 [am 8,aV 4,ab 5 true] .ret))))))) [.t 4,.t 5] [(69,[],a4b),(67,[],a4x),(70,[],a3a),(71,[],a7m),(72,[],a6d)] ?_;intro hb hE;simp only[go_sem];repeat' first|apply cj'|intro hc|exact om'|fail
 ·rw[b9G hc];exact⟨rfl,rfl⟩
 ·exact⟨hc.1.1,hc.2⟩
 ·rename_i h1;rw[a9P h1,hc,b0H hc];exact⟨rfl,rfl⟩
 rename_i h1;obtain⟨hl,hb⟩:=b0G h1.1.1 h1.2;refine a1K 3584 ?_;refine lk' true [(false,8,0,100016)] [34,35] [] [] (fun i:{i:Nat // i<=(u9 r s).1.length}=>[(8,.v false [.ow 100016]),(36,slV (.i .i64 i.1))]) nl' (fun i=>[(100016,zTEnv,((u9 r s).1.take i.1).map (c9.cells true true))]) (fun i=>(u9 r s).1.length-i.1) (⟨0,by simp⟩) ?_;intro S0 hS0 i;obtain⟨i,hi⟩:=i;have hm:=fun(h:i<(u9 r s).1.length)=>hb _ (a0a default h)
 have hsn:i<(u9 r s).1.length->(u9 r s).1.take (i+1)=(u9 r s).1.take i++[(u9 r s).1.getD i default]:=fun h=>l9 default h
 have hol:((u9 r s).1.take i).length=i:=by rw[V8];omega
 simp only[go_sem,hS0];repeat' first|apply cj'|intro hc|exact om'|fail
 ·(refine lpK_n2 (⟨i+1,by omega⟩) _ (by simp only[go_sem];try rfl) ?_;simp only[go_sem,hS0]<;>repeat' first|apply V0|exact on'|fail)
  all_goals rw[hsn (by omega)]
 ·rw[a9P h1,k7 (by omega)];exact⟨rfl,Eq.symm (by assumption)⟩
noncomputable def b5T:CT:=o8 (fun(x:c7×d7)=>a7G x.1 x.2)
@[go_sem] def c5A:=fun x0 x1 x2 x3 x4=>nm' (fQ' b5T rfl (⟨x0,⟨x1,x2⟩,x3⟩,⟨x4⟩))
end Go.Aw
namespace Go.Aw
open Go.Proofs Go.Shelf Go.Sort Go.Lib Go.RowKit
set_option linter.all false
set_option maxRecDepth 1000000
set_option maxHeartbeats 4000000
end Go.Aw
namespace Go.Aw
open Go.Proofs Go.Shelf
attribute [local irreducible] aft blk lpK retK AW A0p
set_option linter.all false
set_option maxRecDepth 100000
set_option maxHeartbeats 4000000
attribute [local irreducible] RM
def a0t(a b:d5):Bool:=a4i vLt a.V b.V
def c0V:∀{a b:List d4},okL a->okL b->a0W a b=bif a4i vLt a b then-1 else bif a4i vLt b a then 1 else 0
 | [],[],_,_=>rfl
 | [],_::_,_,_=>rfl
 | _::_,[],_,_=>rfl
 | x::a,y::b,ha,hb=>by
   have hx:=ha x (by simp);have hy:=hb y (by simp);have ih:=c0V (okL.tl ha) (okL.tl hb);rw[a0W,<-b9a hx hy,<-b9a hy hx,a4i,a4i];cases h1:vLt x y with
   | true=>rw[c4O.asy h1];rfl
   | false=>
     cases h2:vLt y x with
     | true=>rfl
     | false=>rw[W3,W3,ih];rfl
def c4I{a b:d5}(ha:okL a.V)(hb:okL b.V):(a0W a.V b.V==-1)=a0t a b:=by
 rw[c0V ha hb,a0t];cases a4i vLt a.V b.V with
 | true=>rfl
 | false=>cases a4i vLt b.V a.V<;>rfl
def c2Y(l:List d4)(hpre:l.length<1000000):spZ 261 [(false,[.sl false [.i .i64 0,.s []] (l.map d4.cells)])] [] (.one (false,[.sl true [.i .i64 0,.s []] (l.map d4.cells)])):=by
 exact a9S (d:=[.i .i64 0,.s []]) Tryz.cloneVal (by kernel_rfl) (hi:=rfl) (hz0:=rfl) (hz1:=rfl) (bytes:=24) (hz2:=rfl) (hzs:=rfl) (by decide) (fun w=>rfl) _ (by rw[q0O];omega)
noncomputable def b3A:CT:=s6 (fun(x:(List d4)) h=>c2Y x h)
@[go_sem] def c9G:=fun l=>nm' (fP' b3A rfl l)
def b4n(r:d5)(hpre:r.V.length<1000000):spZ 172 [(true,[u6 r.V])] [] (.one (true,[a5h r.V])):=by
 refine sy' Tryz.func172 (q' 1 [aX 1 0,aw [.sl l5]] (q' 3 [aG 0 1,ac 261 [4],ao (.bld [.sl l5] [(0,1,.t 5)]),aS 1 2 6] .ret)) [.c 2 true 1] [(261,[],b3A)] ?_;intro hb hE;simp only[go_sem];repeat' first|apply cj'|intro hc|exact om'|fail
noncomputable def a6l:CT:=s6 (fun(x:d5) h=>b4n x h)
@[go_sem] def c3D:=fun x0=>nm' (fP' a6l rfl ⟨x0⟩)
def b4m(r:f5)(hpre:r.Rows.length<=200000/\∀x∈r.Rows,x.V.length<1000):spZ 83 [(true,[.i .i64 r.Arity,a2x r.Rows])] [] (.one (true,[.i .i64 r.Arity,kDRow r.Rows])):=by
 refine sx' true false none Tryz.func83 (q' 1 [aX 2 0,aw [.i .i64,.sl u2]] (q' 6 [aG 0 1,ao (.bld [.i .i64,.sl u2] [(0,1,.t 7)]),ax (w' 3 [.i .i64,.sl u2]),aS 2 3 8] (.seq (q' 9 [aG 1 1,aN,aK 0] (fO 0 13 [ar 12 11] 13 1 (q' 14 [ai 1 10 12,aE 1,ax (w' 5 [.sl l5]),aS 1 5 15] (rm' [(true,2,e' 18 1 5),(false,0,f' 16 1 3),(false,1,l' 17 16),(false,3,c' 19 172 [18]),(false,4,o' 20 (.bsl 1 1 [.sl l5] [(0,.t 19)])),(false,5,o' 21 (.app 1 24 [.sl l5] (.t 17) (.t 20))),(false,6,f' 22 1 3),(false,7,s' 1 22 21)] [[0,1,3,2,4,5,6,7],[0,1,3,4,2,5,6,7],[0,3,1,2,4,5,6,7],[0,3,1,4,2,5,6,7],[0,3,4,1,2,5,6,7]] [10,11])) (g' 23 [aA 12]))) (q' 24 [ae 2 3,aS 2 2 24] .ret)))) [.c 2 true 2] [(172,[],a6l)] ?_;intro hb hE;obtain⟨hl,hv⟩:=hpre;simp only[go_sem];(repeat' first|apply cj'|intro hc|apply y9);(all_goals(try(refine(show A3U _ _ _ _ _ _ from ?_);simp only[go_sem]at hc ⊢;simp only[go_sem,A7u,A7y,A6L,A6K,A7t,A6J,nf_put_sub,A7w,A7v,nf_put_susK,nf_put_dip,nf_put_put,A7x,A7s,A6M,j8,j6,j4,j5,j7,nf_sub_sub]at hc ⊢;simp only[hc,q0Q,q0G];done)));all_goals try exact om'
 refine lk' true [(true,6,1,200012)] [2,3,10,11] [4,11] [] (fun i:{i:Nat // i<=r.Rows.length}=>[(12,slV (.i .i64 i.1))]) (fun i=>[(6,[.c (.i .i64 r.Arity),.ow 200012])]) (fun i=>[(200012,zTRow,(r.Rows.take i.1).map (d5.cells true true))]) (fun i=>r.Rows.length-i.1) (⟨0,by simp⟩) ?_;intro S0 hS0 i;obtain⟨i,hi⟩:=i;have hm:=fun(h:i<r.Rows.length)=>hv _ (a0a default h)
 have hol:(r.Rows.take i).length=i:=by rw[V8];omega
 have hsn:i<r.Rows.length->r.Rows.take (i+1)=r.Rows.take i++[r.Rows.getD i default]:=fun h=>l9 default h
 simp only[go_sem,hS0];(repeat' first|apply cj'|intro hc|apply y9);(all_goals(try((first|refine s9 1 rfl ?_);intro S hS B0 hB;simp only[go_sem,hS0,V6,q0M]at hS hB;(repeat(first|replace hS:=And.right hS|replace hS:=CJ.r hS));have Rr3:=congrArg (fun s:St=>s.sl 3) hS;have Rr18:=congrArg (fun s:St=>s.sl 18) hS;have Rb6:=congrArg (fun s:St=>s.bx 6) hS;have Rb10:=congrArg (fun s:St=>s.bx 10) hS;have Rb11:=congrArg (fun s:St=>s.bx 11) hS;have Ro200012:=congrArg (fun s:St=>s.ow 200012) hS;clear hS;simp only[go_sem,hS0]at Rr3 Rr18 Rb6 Rb10 Rb11 Ro200012;(try clear hc);intro K hc;simp only[go_sem,hS0,Rr3,Rr18,Rb6,Rb10,Rb11,Ro200012,hB,V7,q0H,V4,q0E]at hc ⊢;simp only[go_sem,hS0,Rr3,Rr18,Rb6,Rb10,Rb11,Ro200012,hB,A7u,A7y,A6L,A6K,A7t,A6J,nf_put_sub,A7w,A7v,nf_put_susK,nf_put_dip,nf_put_put,A7x,A7s,A6M,j8,j6,j4,j5,j7,nf_sub_sub]at hc ⊢;(first|(simp only[hc,q0Q,q0G];done)|((repeat' first|exact hc|apply V0);done)))));all_goals try exact om'
 ·(refine lpK_n2 (⟨i+1,by omega⟩) _ (by simp only[go_sem];try rfl) ?_;simp only[go_sem,hS0]<;>repeat' first|apply V0|exact on'|fail)
  all_goals rw[hsn (by omega)]
 ·rw[k7 (by omega)]
noncomputable def a6k:CT:=s6 (fun(x:f5) h=>b4m x h)
@[go_sem] def c3C:=fun x0 x1=>nm' (fP' a6k rfl ⟨x0,x1⟩)
end Go.Aw
namespace Go.Aw
open Go.Proofs
attribute [local irreducible] aft blk lpK retK AW A0p
set_option linter.all false
set_option maxRecDepth 100000
set_option maxHeartbeats 4000000
attribute [local irreducible] RM
def a7H(r:d5)(hpre:r.V.length<1000000):spZ 270 [(true,[u6 r.V])] [] (.one (true,[a5h r.V])):=by
 refine sy' Tryz.func270 (q' 1 [aX 1 0,aw [.sl l5]] (q' 3 [ao (.bsl 2 0 [.i .i64,.s] []),aG 0 1,ao (.app 2 24 [.i .i64,.s] (.t 3) (.t 5)),ao (.bld [.sl l5] [(0,1,.t 6)]),aS 1 2 7] .ret)) [.c 2 true 1] [] ?_;intro hb hE;simp only[go_sem];repeat' first|apply cj'|intro hc|exact om'|fail
noncomputable def a7v:CT:=s6 (fun(x:d5) h=>a7H x h)
@[go_sem] def c5X:=fun x0=>nm' (fP' a7v rfl ⟨x0⟩)
def b1Y(r:d5)(hpre:r.V.length<1000000):spZ 270 [(true,[u6 r.V])] [] (.one (true,[u6 r.V])):=by
 exact a2l (a7H r hpre) (by simp only[go_sem,R.free,List.map])
noncomputable def a2D:CT:=s6 (fun(x:d5) h=>b1Y x h)
@[go_sem] def c2w:=fun x0=>nm' (fP' a2D rfl ⟨x0⟩)
def b3T{l:List d5}{r:d5}:a1b l r=true↔r∈l:=by
 rw[a1b,q3N];constructor
 ·rintro⟨x,hx,h⟩;have h2:=of_decide_eq_true h;obtain rfl:x=r:=by cases x;cases r;simp_all
  exact hx
 ·exact fun h=>⟨r,h,by simp⟩
end Go.Aw
namespace Go.Aw
set_option linter.all false
set_option maxHeartbeats 4000000
def a0k{a b:Prop}:CJ a b=(a/\b):=propext ⟨fun h=>⟨h.l,h.r⟩,fun h=>cj' h.1 h.2⟩
def n9{st:St}{x k:Nat}{l:List AC}{y:AC}:(st.setBx x l).sub k y=(st.sub k y).setBx x (F2 k y l):=by
 simp only[St.setBx,St.sub,St.mk.injEq,q0G,q0P]
 funext z
 by_cases h:z=x<;>simp[h]
def l8{st:St}{x k:Nat}{l:List AC}{z:List C}{r:List (List C)}:(st.setBx x l).setOw k z r=(st.setOw k z r).setBx x l:=rfl
def q0{st:St}{x k:Nat}{y:AC}:(st.susB x).sub k y=(st.sub k y).susB x:=by
 simp only[St.susB,St.sub,St.mk.injEq,q0G,q0P]
 funext z
 by_cases h:z=x<;>simp[h]
def m7{st:St}{x k:Nat}{z:List C}{r:List (List C)}:(st.susB x).setOw k z r=(st.setOw k z r).susB x:=rfl
def p9{st:St}{x k:Nat}:(st.susB x).dip k=(st.dip k).susB x:=rfl
def m0{st:St}{x:Nat}{l:List AC}:(st.susB x).setBx x l=st.setBx x l:=by
 simp only[St.susB,St.setBx,St.mk.injEq,q0G,q0P]
 funext z
 by_cases h:z=x<;>simp[h]
def n8{st:St}{x k:Nat}{l:List AC}:(st.setBx x l).dip k=(st.dip k).setBx x l:=rfl
end Go.Aw
