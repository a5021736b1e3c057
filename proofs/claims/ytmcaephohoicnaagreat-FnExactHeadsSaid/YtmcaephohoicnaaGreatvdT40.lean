/- Equalities bind; what holds; the bodies: the mathematics. No condition. -/
import Derived.Test.YtmcaephohoicnaaGreatvdT30
import Derived.Test.YtmcaephohoicnaaGreatpBx15vd
import Derived.Test.YtmcaephohoicnaaGreatpBx14vd
namespace Go.Aw
open Go.Proofs
set_option linter.all false
set_option maxRecDepth 100000
def eqS (l:d4) (b:List c4):List c4:=bif v5 l then (bif (f9 ⟨b⟩ l.A).2 then (bif (f9 ⟨b⟩ l.B).2 then b else y8 b l.B.Var (f9 ⟨b⟩ l.A).1) else (bif (f9 ⟨b⟩ l.B).2 then y8 b l.A.Var (f9 ⟨b⟩ l.B).1 else b)) else b
def eqP (r:c8) (b:List c4):Nat->List c4
 | 0=>b
 | n+1=>eqS (r.Body.getD n default) (eqP r b n)
def a2S (r:c8) (b:List c4):List c4:=eqP r b r.Body.length
def eqI (r:c8) (b:List c4):Nat->List c4
 | 0=>b
 | k+1=>a2S r (eqI r b k)
def IsEq (r:c8) (b c:List c4):Prop:=∃ k,eqI r b k=c/\a2S r c=c
def b0R {r:c8} {b c:List c4} {k:Nat} (h:eqI r b k=c) (hp:a2S r c=c):∀ m,eqI r b (k+m)=c
 | 0=>h
 | m+1=>by rw [show k+(m+1)=(k+m)+1 from rfl,eqI,b0R h hp m,hp]
def IsEq.uniq {r:c8} {b c d:List c4} (h1:IsEq r b c) (h2:IsEq r b d):c=d:=by
 obtain ⟨k,h1,p1⟩:=h1;obtain ⟨m,h2,p2⟩:=h2;have a:=b0R h1 p1 m;have b:=b0R h2 p2 k;rw [q3A] at b;exact a.symm.trans b
open Classical in
noncomputable def eqR (r:c8) (b:List c4):List c4:=if h:∃ c,IsEq r b c then Classical.choose h else b
def b4L {r:c8} {b c:List c4} (h:IsEq r b c):eqR r b=c:=by
 have hx:∃ c,IsEq r b c:=⟨c,h⟩
 rw [eqR,dif_pos hx];exact (q4Z hx).uniq h
inductive EqStep (l:d4) (b:List c4):List c4->Prop
 | same:EqStep l b b
 | right:v5 l=true->(f9 ⟨b⟩ l.A).2=true->(f9 ⟨b⟩ l.B).2=false->EqStep l b (y8 b l.B.Var (f9 ⟨b⟩ l.A).1)
 | left:v5 l=true->(f9 ⟨b⟩ l.B).2=true->(f9 ⟨b⟩ l.A).2=false->EqStep l b (y8 b l.A.Var (f9 ⟨b⟩ l.B).1)
def a2w (l:d4) (b:List c4):EqStep l b (eqS l b):=by
 rw [eqS];cases h0:v5 l with
 | false=>exact .same
 | true=>
   cases h1:(f9 ⟨b⟩ l.A).2 with
   | true=>
     cases h2:(f9 ⟨b⟩ l.B).2 with
     | true=>exact .same
     | false=>exact .right h0 h1 h2
   | false=>
     cases h2:(f9 ⟨b⟩ l.B).2 with
     | true=>exact .left h0 h2 h1
     | false=>exact .same
def b3Q {l:d4} {b:List c4} (h0:v5 l=true) (h1:(f9 ⟨b⟩ l.A).2=true) (h2:(f9 ⟨b⟩ l.B).2=false):eqS l b=y8 b l.B.Var (f9 ⟨b⟩ l.A).1:=by rw [eqS,h0,h1,h2];rfl
def b6t {l:d4} {b:List c4} (h0:v5 l=true) (h1:(f9 ⟨b⟩ l.B).2=true) (h2:(f9 ⟨b⟩ l.A).2=false):eqS l b=y8 b l.A.Var (f9 ⟨b⟩ l.B).1:=by rw [eqS,h0,h1,h2];rfl
def b6u {l:d4} {b:List c4} (h0:v5 l=false):eqS l b=b:=by rw [eqS,h0];rfl
def EqStep.len {l:d4} {b c:List c4} (h:EqStep l b c):c=b\/c.length=b.length+1:=by
 cases h with
 | same=>exact .inl rfl
 | right _ _ _=>exact .inr (a1b _ _ _)
 | left _ _ _=>exact .inr (a1b _ _ _)
def b9L (r:c8) (b:List c4):∀ n,eqP r b n=b\/b.length < (eqP r b n).length
 | 0=>.inl rfl
 | n+1=>by
   have h1:=b9L r b n;have h2:=(a2w (r.Body.getD n default) (eqP r b n)).len;rw [eqP];rcases h1 with h1 | h1
   ·rw [h1] at h2 ⊢;rcases h2 with h2 | h2
    ·exact .inl h2
    ·exact .inr (by omega)
   ·rcases h2 with h2 | h2
    ·rw [h2];exact .inr h1
    ·exact .inr (by omega)
def b3X {r:c8} {b:List c4} (h:(a2S r b).length<=b.length):a2S r b=b:=by
 rcases b9L r b r.Body.length with h1 | h1
 ·exact h1
 ·rw [a2S] at h;omega
def b9V {r:c8} {l:d4} (hl:l∈r.Body) {t:c9} (ht:t=l.A\/t=l.B) (hv:(t.Var==[])=false):t.Var∈a3B r:=by
 refine q2Q.2 ⟨l,hl,W8.2 (.inr (v7.2 ⟨t, ?_,by rw [u1,hv];rfl,rfl⟩))⟩;rcases ht with rfl | rfl
 ·exact q3Q
 ·exact q2X _ (q0B.2 rfl)
def b6L {r:c8} {b:List c4} {v:List UInt8} (x:c6) (hv:v∈a3B r) (hn:(o7 ⟨b⟩ v).2=false):miss r ((y8 b v x).map c4.Var) < miss r (b.map c4.Var):=by
 have hm:=a4H hn;refine a7z (fun y hy=>?_) ⟨v,hv, ?_, ?_⟩
 ·simp only [q1G,q4N,q1H] at hy ⊢;intro h;rw [a1q x hm] at hy;exact hy (b1O.2 (.inr h))
 ·simp only [q1G,q4N,q1H];exact hm
 ·simp only [q1R,q4N,q0H];rw [a1q x hm];exact b1O.2 (.inl rfl)
def EqStep.miss {r:c8} {l:d4} {b c:List c4} (hl:l∈r.Body) (h:EqStep l b c):c=b\/(c.length=b.length+1/\miss r (c.map c4.Var) < miss r (b.map c4.Var)):=by
 cases h with
 | same=>exact .inl rfl
 | right _ _ h=>
   have h2:=y4 h;exact .inr ⟨a1b _ _ _,b6L _ (b9V hl (.inr rfl) h2.1) h2.2⟩
 | left _ _ h=>
   have h2:=y4 h;exact .inr ⟨a1b _ _ _,b6L _ (b9V hl (.inl rfl) h2.1) h2.2⟩
def a1D {r:c8} {b:List c4}:∀ {n:Nat},n<=r.Body.length->(eqP r b n).length+miss r ((eqP r b n).map c4.Var)<=b.length+miss r (b.map c4.Var)/\(eqP r b n=b\/miss r ((eqP r b n).map c4.Var) < miss r (b.map c4.Var))
 | 0,_=>⟨V8 _,.inl rfl⟩
 | n+1,hn=>by
   obtain ⟨i1,i2⟩:=a1D (r:=r) (b:=b) (n:=n) (by omega);have hm:r.Body.getD n default∈r.Body:=by rw [l4 default (by omega)];exact q0R _
   rw [eqP];rcases (a2w (r.Body.getD n default) (eqP r b n)).miss hm with h | ⟨h1,h2⟩
   ·rw [h];exact ⟨i1,i2⟩
   ·refine ⟨by omega,.inr ?_⟩;rcases i2 with i2 | i2
    ·rw [i2] at h2 ⊢;exact h2
    ·omega
def EqStep.ext {l:d4} {b c:List c4} (h:EqStep l b c):ExtB b c:=by
 cases h with
 | same=>exact ExtB.refl _
 | right _ _ h=>exact fun s x hs=>hs.set (y4 h).2
 | left _ _ h=>exact fun s x hs=>hs.set (y4 h).2
def b9K (r:c8) (b:List c4):∀ n,ExtB b (eqP r b n)
 | 0=>ExtB.refl _
 | n+1=>(b9K r b n).trans (a2w _ _).ext
def b9J (r:c8) (b:List c4):∀ k,ExtB b (eqI r b k)
 | 0=>ExtB.refl _
 | k+1=>(b9J r b k).trans (b9K r _ _)
def b2c {b:List c4} {t:c9} (h:EnvS b) (ht:o5 t=true) (hv:(f9 ⟨b⟩ t).2=true):i4 (f9 ⟨b⟩ t).1=true:=by
 rw [f9] at hv ⊢;cases hn:t.Var==[] with
 | true=>
   rw [o5,hn] at ht;simp only [q4G,V3,W5] at ht;exact ht.1
 | false=>
   rw [hn,V3] at hv;rw [V3];rw [a0N] at hv ⊢;cases hf:b.find? (fun x=>x.Var==t.Var) with
   | none=>rw [hf] at hv;cases hv
   | some y=>exact (h.1 y (List.mem_of_find?_eq_some hf)).2
def EqStep.ok {r:c8} {l:d4} {b c:List c4} (hr:i5 r=true) (hl:l∈r.Body) (h:EqStep l b c) (hb:EnvS b):EnvS c:=by
 have hlit:v5 l=true->o5 l.A=true/\o5 l.B=true:=by
  intro he;simp only [i5,W5,q0J] at hr;have:=hr.2 l hl;simp only [v5,W5] at he;rw [a0G,he.1,V1] at this;simp only [W5] at this;exact ⟨this.1.2,this.2⟩
 cases h with
 | same=>exact hb
 | right h0 h1 h2=>exact hb.set (b2a (hlit h0).2 (y4 h2).1) (b2c hb (hlit h0).1 h1) (y4 h2).2
 | left h0 h1 h2=>exact hb.set (b2a (hlit h0).1 (y4 h2).1) (b2c hb (hlit h0).2 h1) (y4 h2).2
def c3q {r:c8} {b:List c4} (hr:i5 r=true) (hb:EnvS b):∀ {n:Nat},n<=r.Body.length->EnvS (eqP r b n)
 | 0,_=>hb
 | n+1,hn=>(a2w _ _).ok hr (by rw [l4 default (by omega)];exact q0R _) (c3q hr hb (by omega))
def c3p {r:c8} {b:List c4} (hr:i5 r=true) (hb:EnvS b):∀ k,EnvS (eqI r b k)
 | 0=>hb
 | k+1=>c3q hr (c3p hr hb k) (V8 _)
def b0Q {r:c8} {b:List c4}:∀ k,(eqI r b k).length+miss r ((eqI r b k).map c4.Var)<=b.length+miss r (b.map c4.Var)
 | 0=>V8 _
 | k+1=>q2O (a1D (V8 _)).1 (b0Q k)
def b9R (r:c8):∀ (m:Nat) (b:List c4),miss r (b.map c4.Var)<=m->∃ c,IsEq r b c
 | 0,b,h=>⟨b,0,rfl,by
   rcases (a1D (r:=r) (b:=b) (V8 _)).2 with h1 | h1
   ·exact h1
   ·omega⟩
 | m+1,b,h=>by
   rcases (a1D (r:=r) (b:=b) (V8 _)).2 with h1 | h1
   ·exact ⟨b,0,rfl,h1⟩
   ·obtain ⟨c,k,h2,h3⟩:=b9R r m (a2S r b) (by rw [a2S];omega);refine ⟨c,k+1, ?_,h3⟩;have key:∀ k,eqI r (a2S r b) k=eqI r b (k+1):=by
     intro k
     induction k with
     | zero=>rfl
     | succ k ih=>rw [eqI,ih];rfl
    rw [<- key];exact h2
def b4K (r:c8) (b:List c4):IsEq r b (eqR r b):=by
 obtain ⟨c,h⟩:=b9R r _ b (V8 _);rw [b4L h];exact h
def b4J (r:c8) (b:List c4):ExtB b (eqR r b):=by
 obtain ⟨k,h,_⟩:=b4K r b;rw [<- h];exact b9J r b k
def c3r {r:c8} {b:List c4} (hr:i5 r=true) (hb:EnvS b):EnvS (eqR r b):=by
 obtain ⟨k,h,_⟩:=b4K r b;rw [<- h];exact c3p hr hb k
def eqR_len (r:c8) (b:List c4):(eqR r b).length<=b.length+(a3B r).length:=by
 obtain ⟨k,h,_⟩:=b4K r b;have:=b0Q (r:=r) (b:=b) k;have:=a9G r (b.map c4.Var);rw [h] at *;omega
def domE (l:d4) (vs:List (List UInt8)):List (List UInt8):=bif v5 l then (bif p6 vs l.A then (bif p6 vs l.B then vs else y7 Op.bytesLess vs l.B.Var) else (bif p6 vs l.B then y7 Op.bytesLess vs l.A.Var else vs)) else vs
def a8m (b:List c4) (t:c9):(f9 ⟨b⟩ t).2=p6 (b.map c4.Var) t:=by
 rw [f9,p6];cases t.Var==[] with
 | true=>rfl
 | false=>
   rw [V3,q4H];rw [q3I,c3G,q2U]
def b9M (l:d4) (b:List c4):(eqS l b).map c4.Var=domE l (b.map c4.Var):=by
 rw [eqS,domE];cases v5 l with
 | false=>rfl
 | true=>
   rw [V1,V1,<- a8m,<- a8m];cases h1:(f9 ⟨b⟩ l.A).2 with
   | true=>
     cases h2:(f9 ⟨b⟩ l.B).2 with
     | true=>rfl
     | false=>exact a1q _ (a4H (y4 h2).2)
   | false=>
     cases h2:(f9 ⟨b⟩ l.B).2 with
     | true=>exact a1q _ (a4H (y4 h1).2)
     | false=>rfl
def b4I {r:c8} {b c:List c4} (h:b.map c4.Var=c.map c4.Var):∀ n,(eqP r b n).map c4.Var=(eqP r c n).map c4.Var
 | 0=>h
 | n+1=>by rw [eqP,eqP,b9M,b9M,b4I h n]
def b9I {r:c8} {b c:List c4} (h:b.map c4.Var=c.map c4.Var):∀ n,(eqI r b n).map c4.Var=(eqI r c n).map c4.Var
 | 0=>h
 | n+1=>b4I (b9I h n) _
def c3I {r:c8} {b c:List c4} (h:b.map c4.Var=c.map c4.Var) (hc:a2S r c=c):a2S r b=b:=by
 refine b3X ?_;have h1:=congrArg List.length (b4I (r:=r) h r.Body.length);have h2:=congrArg List.length h;simp only [q0G] at h1 h2;rw [a2S] at hc ⊢;rw [hc] at h1;omega
def eqR_dom {r:c8} {b c:List c4} (h:b.map c4.Var=c.map c4.Var):(eqR r b).map c4.Var=(eqR r c).map c4.Var:=by
 obtain ⟨k,h1,p1⟩:=b4K r b;have h2:=b9I (r:=r) h k;rw [h1] at h2;have p2:a2S r (eqI r c k)=eqI r c k:=c3I h2.symm p1;rw [b4L (c:=eqI r c k) ⟨k,rfl,p2⟩,h2]
def a7O (s:d5) (e:d3) (l:d4):Bool:=bif l.Kind==2 then !a0z (v8 s l.Atom.Name).1.Rows (o8 e l.Atom.Args).1 else bif l.Kind==3 then p8 l.Op (f9 e l.A).1 (f9 e l.B).1 else true
def b1M (s:d5) (e:d3) (l:d4):Bool:=bif l.Kind==3 then p8 l.Op (f9 e l.A).1 (f9 e l.B).1 else a0z (v8 s l.Atom.Name).1.Rows (o8 e l.Atom.Args).1==(l.Kind==1)
def a2l (r:c8) (s:d5) (e:d3):Bool:=r.Body.all (a7O s e)
def a4v (r:c8) (s:d5) (e:d3):Bool:=r.Body.all (b1M s e)
def Rooted (s:d5) (e:d3) (l:d4):Prop:=(l.Kind==1)=true->∃ row∈(v8 s l.Atom.Name).1.Rows,l.Atom.Args.length=row.V.length/\∀ i,i < l.Atom.Args.length->Back e.Binds (l.Atom.Args.getD i default) (row.V.getD i default)
def Rooted.ext {s:d5} {e c:d3} {l:d4} (h:Rooted s e l) (he:ExtB e.Binds c.Binds):Rooted s c l:=fun hk=>by
 obtain ⟨row,h1,h2,h3⟩:=h hk;exact ⟨row,h1,h2,fun i hi=>he _ _ (h3 i hi)⟩
def Rooted.has {s:d5} {e:d3} {l:d4} (h:Rooted s e l) (hk:(l.Kind==1)=true):a0z (v8 s l.Atom.Name).1.Rows (o8 e l.Atom.Args).1=true:=by
 obtain ⟨row,h1,h2,h3⟩:=h hk;rw [show o8 e l.Atom.Args=(row,true) from a7y h2 h3,a0z,q3Z];exact ⟨row,h1,by simp⟩
def c3D {r:c8} (hr:i5 r=true) {l:d4} (hl:l∈r.Body):l.Kind=1\/l.Kind=2\/l.Kind=3:=by
 simp only [i5,W5,q0J] at hr;have:=hr.2 l hl;rw [a0G] at this;cases h:l.Kind==3 with
 | true=>exact .inr (.inr (by simpa using h))
 | false=>
   rw [h] at this;simp only [V3,W5,q2F,beq_iff_eq] at this;omega
def c3u {r:c8} {s:d5} {e:d3} (hr:i5 r=true) (h:∀ l∈r.Body,Rooted s e l):a4v r s e=a2l r s e:=by
 rw [a4v,a2l,q3I,q0J,q0J];refine forall_congr' fun l=>forall_congr' fun hl=>?_
 rw [b1M,a7O];rcases c3D hr hl with hk | hk | hk
 ·have:=(h l hl).has (by rw [hk];rfl);rw [this,hk];simp
 ·rw [hk];cases a0z (v8 s l.Atom.Name).1.Rows (o8 e l.Atom.Args).1<;>simp
 ·rw [hk];exact Iff.rfl
def b1W {r:c8} (hr:i5 r=true) {l:d4} (hl:l∈r.Body) (hk:(l.Kind==3)=false):l.Atom.Args.all o5=true/\l.Atom.Args.length<=6:=by
 simp only [i5,W5,q0J] at hr;have:=hr.2 l hl;rw [a0G,hk,V3] at this;simp only [a1t,W5,q0H] at this;obtain ⟨⟨⟨⟨_,⟨⟨_,h6⟩,hall⟩⟩,_⟩,_⟩,_⟩:=this;exact ⟨hall,by omega⟩
def a4J {v:d5} (h:m8 v=true) (n:List UInt8):z7 (v8 v n).1=true:=by
 unfold v8;split
 ·rename_i h0;have hl:=idxL_lt (p:=fun x:d6=>x.Name==n) (l:=v.Rels);have hm:(a3C (fun x:d6=>x.Name==n) v.Rels).toNat < v.Rels.length:=by omega
  have:=b6Y h _ (q0R hm);simp only [l4 default hm];exact this
 ·rfl
def c1Q {r:d7} (h:z7 r=true):r.Rows.Nodup:=by
 refine List.pairwise_iff_getElem.2 fun i j hi hj hij e=>?_
 have:=b8P h hij hj;rw [l4 default hi,l4 default hj,e,b3Z] at this;omega
structure Jn (r:c8) (s:d5) (n:Nat) (l:List d3):Prop where
 alk:∃ vs,Alk vs l
 root:∀ e∈l,∀ i,i < n->Rooted s e (r.Body.getD i default)
 len:∀ e∈l,e.Binds.length<=6 * n
def Jn.all {r:c8} {s:d5} (hr:i5 r=true) (hs:m8 s=true):∀ {n:Nat} {l:List d3},n<=r.Body.length->y6 r s n=some l->Jn r s n l
 | 0,l,_,h=>by
   simp only [y6,W0] at h;subst h;refine ⟨⟨[],by simp,fun e he=>?_,fun e he=>?_⟩,fun e _ i hi=>by omega,fun e he=>?_⟩
   ·rw [q0B.1 he];exact ⟨by simp,SS.nil⟩
   ·rw [q0B.1 he];rfl
   ·rw [q0B.1 he];simp
 | n+1,l,hn,h=>by
   have hm:r.Body.getD n default∈r.Body:=by rw [l4 default (by omega)];exact q0R _
   rw [y6] at h;obtain ⟨d,h1,h2⟩:=q1W.1 h;have ih:=Jn.all hr hs (by omega) h1;cases hk:(r.Body.getD n default).Kind==1 with
   | false=>
     rw [hk,V3,W0] at h2;subst h2;refine ⟨ih.alk,fun e he i hi=>?_,fun e he=>by have:=ih.len e he;omega⟩;rcases q2P i n with h3 | h3
     ·exact ih.root e he i h3
     ·obtain rfl:i=n:=by omega
      intro h4;rw [hk] at h4;cases h4
   | true=>
     rw [hk,V1] at h2;have h3:((r.Body.getD n default).Kind==3)=false:=by rw [beq_iff_eq] at hk;rw [hk];rfl
     obtain ⟨ha,ha6⟩:=b1W hr hm h3;have hR:=a4J hs (r.Body.getD n default).Atom.Name;by_cases hl:(m7 (r.Body.getD n default).Atom.Args (v8 s (r.Body.getD n default).Atom.Name).1.Rows d).length<=2000
     ·rw [V5 hl,V1,W0] at h2;subst h2;obtain ⟨vs,halk⟩:=ih.alk;refine ⟨⟨_,halk.stage ha (c1Q hR) fun x hx=>?_⟩,fun e he i hi=>?_,fun e he=>?_⟩
      ·obtain ⟨i,hi,rfl⟩:=q3X hx;have:=a1m hR hi;rw [l4 default hi] at this;exact q0J.2 this
      ·obtain ⟨e0,he0,hc⟩:=q2Q.1 he;obtain ⟨row,hrow,hf⟩:=q4F.1 hc;have ff:=a0Y hf;rcases q2P i n with h4 | h4
       ·exact (ih.root e0 he0 i h4).ext ff.ext
       ·obtain rfl:i=n:=by omega
        exact fun _=>⟨row,hrow,ff.len,ff.back⟩
      ·obtain ⟨e0,he0,hc⟩:=q2Q.1 he;obtain ⟨row,hrow,hf⟩:=q4F.1 hc;have ff:=a0Y hf;have:=ff.lenB;have:=ih.len e0 he0;omega
     ·rw [V9 hl] at h2;cases h2
noncomputable def eqE (r:c8) (e:d3):d3:=⟨eqR r e.Binds⟩
noncomputable def a2B (r:c8) (s:d5) (l:List d3):List d3:=(l.map (eqE r)).filter (a2l r s)
noncomputable def j8 (r:c8) (s:d5):List d3×Bool:=bif (z6 r s).2 then (k7 q0 [] (a2B r s (z6 r s).1),true) else ([],false)
def b6P {r:c8} {s:d5} {vs:List (List UInt8)} {l:List d3} (hr:i5 r=true) (h:Alk vs l):∃ ws,Alk ws (a2B r s l):=by
 have h0:∃ ws,Alk ws (l.map (eqE r)):=by
  have hd:∀ e∈l,∀ e'∈l,(eqR r e.Binds).map c4.Var=(eqR r e'.Binds).map c4.Var:=fun e he e' he'=>eqR_dom ((h.dom e he).trans (h.dom e' he').symm)
  refine ⟨((l.map (eqE r)).getD 0 default).Binds.map c4.Var, ?_,fun c hc=>?_,fun c hc=>?_⟩
  ·unfold List.Nodup;rw [List.pairwise_map];refine List.Pairwise.imp_of_mem ?_ h.nd;intro e e' he he' hne heq;have h1:eqR r e.Binds=eqR r e'.Binds:=congrArg d3.Binds heq;have h2:=b4J r e'.Binds;rw [<- h1] at h2;have:=b9N (h.ok e he) (h.ok e' he') ((h.dom e he).trans (h.dom e' he').symm) (b4J r e.Binds) h2;exact hne (by cases e;cases e';simp_all)
  ·obtain ⟨e,he,rfl⟩:=q0U.1 hc;exact c3r hr (h.ok e he)
  ·obtain ⟨e,he,rfl⟩:=q0U.1 hc;cases l with
   | nil=>cases he
   | cons a l=>exact hd e he a q3Q
 obtain ⟨ws,h1⟩:=h0;exact ⟨ws,h1.nd.filter _,fun e he=>h1.ok e (q1V.1 he).1,fun e he=>h1.dom e (q1V.1 he).1⟩
def a6G (r:c8) (s:d5) (l:List d3):(a2B r s l).length<=l.length:=by
 have:=q2T (a2l r s) (l.map (eqE r));rw [q0G] at this;exact this
attribute [local irreducible] aft blk lpK retK AW A0c
set_option maxHeartbeats 4000000
attribute [local irreducible] RM
def b2T (e:d3) (v:List UInt8) (x:c6) (hpre:e.Binds.length<=1000):A0c Tryz.prog 237 [(true,[l9 e.Binds]),(false,[.s v]),(true,[.i .i64 x.N,.s x.S])] [] (.one (true,[l9 ((⟨y8 e.Binds v x⟩:d3).Binds)])):=by
 refine sx' false true none Tryz.func237 (q' 3 [ao (.box 1 (.t 0)),ao (.box 1 (.t 1)),ao (.box 2 (.t 2)),aw [.sl f7]] (q' 8 [aG 0 3,ao (.mf 296 [.t 4]),ac 295 [9,10],aV 7] (.seq (q' 12 [am 7,ao (.bin .lss (.t 12) (k' 0))] (.cond (.t 13) (g' 14 [aG 0 3,aN,aV 7]) .skip)) (.seq (rm' [(true,0,f' 17 0 3),(true,1,l' 18 17),(true,3, m' 20 7),(true,4,l' 21 4),(true,5,e' 22 2 5),(true,6,o' 23 (.bld [.s,.i .i64,.s] [(0,1,.t 21),(1,2,.t 22)])),(false,2,c' 19 298 [18]), (false,7,o' 24 (.bsl 3 1 [.s,.i .i64,.s] [(0,.t 23)])),(false,8,c' 25 297 [19,20,24]),(false,9,o' 26 (.bld [.sl f7] [(0, 1,.t 25)])),(false,10,s' 1 6 26)] [[0,1,2,3,4,5,7,6,8,9,10]] [6,7,8,9,10,11]) .ret)))) [.c 6 true 1] [(298,[],a8a),(295,[],a8c),(297,[0,2],b3N)] ?_;intro hb hE;have hI:=c3v e.Binds v x;simp only [go_sem];(repeat' first | apply cj' | intro hc | apply a3H);(all_goals (try ((first | refine b4r 6 rfl ?_);intro S hS B0 hB;simp only [go_sem,q0V,q1Y] at hS hB;(repeat (first | replace hS:=And.right hS | replace hS:=CJ.r hS));have Rr6:=congrArg (fun s:St=>s.sl 6) hS;have Rr18:=congrArg (fun s:St=>s.sl 18) hS;have Rr20:=congrArg (fun s:St=>s.sl 20) hS;have Rr23:=congrArg (fun s:St=>s.sl 23) hS;have Rb6:=congrArg (fun s:St=>s.bx 6) hS;have Rb7:=congrArg (fun s:St=>s.bx 7) hS;have Rb8:=congrArg (fun s:St=>s.bx 8) hS;have Rb9:=congrArg (fun s:St=>s.bx 9) hS;have Rb10:=congrArg (fun s:St=>s.bx 10) hS;have Rb11:=congrArg (fun s:St=>s.bx 11) hS;have Rb12:=congrArg (fun s:St=>s.bx 12) hS;clear hS;simp only [go_sem] at Rr6 Rr18 Rr20 Rr23 Rb6 Rb7 Rb8 Rb9 Rb10 Rb11 Rb12;(try clear hc);intro K hc;simp only [go_sem,Rr6,Rr18,Rr20,Rr23,Rb6,Rb7,Rb8,Rb9,Rb10,Rb11,Rb12,hB,q0M,q2V,q0W,q1S] at hc ⊢;simp only [go_sem,Rr6,Rr18,Rr20,Rr23,Rb6,Rb7,Rb8,Rb9,Rb10,Rb11,Rb12,hB,A7d,A7h,A6v,A6u,A7c,A6t,nf_put_sub,A7f,A7e,nf_put_susK,nf_put_dip,nf_put_put,A7g,A7b,A6w,y3,w8,w6,w7,w9,nf_sub_sub] at hc ⊢;simp only [hc,q2L,q1D];done)));all_goals try exact om'
 ·rw [<- hI.2.2,b6Q,V5 hc,V1]
 ·rw [b6Q,V9 hc,V3] at hI;exact ⟨⟨hI.1,hI.2.1⟩,by omega⟩
 ·rw [<- hI.2.2,b6Q,V9 hc,V3]
noncomputable def a1Y:CT:=j9 (fun (x:d3×(List UInt8)×c6) h=>b2T x.1 x.2.1 x.2.2 h)
@[go_sem] def c0M:=fun x0 v x1 x2=>nm' (fP' a1Y rfl (⟨x0⟩,v,⟨x1,x2⟩))
def a9y (e:d3) (v:List UInt8) (x:c6) (hpre:e.Binds.length<=1000):A0c Tryz.prog 218 [(true,[l9 e.Binds]),(false,[.s v]),(true,[.i .i64 x.N,.s x.S])] [] (.one (true,[l9 ((⟨y8 e.Binds v x⟩:d3).Binds)])):=by
 refine sx' false true none Tryz.func218 a3K [.c 6 true 1] [] ?_;intro hb hE;simp only [go_sem];repeat' first | apply cj' | intro hc | exact om' | fail
 refine lk' false [(true,14,0,200028)] [1,5,6,7,13,14] [10,12] [] (fun i:{i:Nat // i<=e.Binds.length}=>[(8,slV (.b ((e.Binds.take i.1).any (gtB v)))),(15,slV (.i .i64 i.1))]) (fun i=>[(14,[.ow 200028])]) (fun i=>[(200028,f7,(a3D (e.Binds.take i.1) v x).map c4.cells)]) (fun i=>e.Binds.length - i.1) (⟨0,by simp⟩) ?_;intro S0 hS0 i;obtain ⟨i,hi⟩:=i;have hol:=b6O (e.Binds.take i) v x;rw [V4] at hol;have hsn:i < e.Binds.length->e.Binds.take (i+1)=e.Binds.take i++[e.Binds.getD i default]:=fun h=>i6 default h
 simp only [go_sem,hS0];repeat' first | apply cj' | intro hc | exact om' | fail
 ·have h1:=b6N (x:=x) hc.1 hc.2;rw [<- hsn (by omega)] at h1
  (refine lpK_n2 (⟨i+1,by omega⟩) _ (by simp only [go_sem];try rfl) ?_;simp only [go_sem,hS0]<;>repeat' first | apply V7 | exact on' | fail)
  all_goals (first | exact congrArg (List.map c4.cells) h1.1.symm | (rw [h1.2];done) | (rw [h1.2];exact congrArg _ hc.1.symm))
 ·have h1:=b9X (x:=x) hc;rw [<- hsn (by omega)] at h1
  (refine lpK_n2 (⟨i+1,by omega⟩) _ (by simp only [go_sem];try rfl) ?_;simp only [go_sem,hS0]<;>repeat' first | apply V7 | exact on' | fail)
  all_goals (first | exact congrArg (List.map c4.cells) h1.1.symm | (rw [h1.2];done) | (rw [h1.2];exact congrArg _ hc.1.symm))
 ·rw [f8 (by omega)] at hc ⊢;rw [a3D,hc,V3,a7T x hc]
 ·rw [f8 (by omega)] at hc ⊢;rw [a3D,hc,V1]
noncomputable def a3s:CT:=j9 (fun (x:d3×(List UInt8)×c6) h=>a9y x.1 x.2.1 x.2.2 h)
@[go_sem] def b8s:=fun x0 v x1 x2=>nm' (fP' a3s rfl (⟨x0⟩,v,⟨x1,x2⟩))
def b4X (e:d3) (args:List c9) (row:c7) (hpre:e.Binds.length<=500/\row.V.length<=6):A0c Tryz.prog 236 [(true,[l9 e.Binds]),(false,[i7 args]),(true,[j3 row.V])] [] (.tup [(true,[l9 (((a2x e args row).1).Binds)]),(false,[.b ((a2x e args row).2)])]):=by
 refine sx' false true none Tryz.func236 (q' 3 [ao (.box 1 (.t 0)),ax (o' 5 (.box 1 (.t 2))),ax (w' 6 [.sl f7]),ab 7 false] (.seq (q' 12 [am 1,aN,aG 0 5,aN,ao (.bin .neq (.t 13) (.t 16))] (.cond (.t 17) (q' 18 [ao (.bld [.sl f7] []),aS 1 6 18,ab 7 false] .ret) .skip)) (.seq (q' 19 [am 1,aN,aK 0] (.block 0 (.loop (q' 22 [ar 21 20] (.seq (.cond (.t 22) .skip (.exit 0)) (.seq (.block 1 (q' 23 [am 21,ai 3 19 21,aE 3,ax (w' 9 [.s,.i .i64,.s]),av 8 23,aS 3 9 25] (q' 27 [ae 1 3,ae 3 9,ac 187 [27,28],aV 26,ao (.ext (.t 26) 0),ao (.ext (.t 26) 1),ax (w' 10 [.i .i64,.s]),aS 2 10 30,aV 11] (.block 2 (q' 33 [am 11,ao (.not (.t 33)),aV 32] (.cond (.t 32) (.rego [(true,1,f' 36 0 9),(true,2,l' 37 36),(true,3,f' 38 0 5),(true,4,l' 39 38),(true,5,m' 40 8),(true,6,i' 41 2 39 40),(true,7,e' 42 2 41),(false,0,e' 35 1 3),(false,8,c' 43 237 [35,37,42]),(false,9,s' 1 3 43)] [18,19,10,11]) (.seq (G' 45 [ae 2 10,aG 0 5,am 8,aI 2,aE 2,ao (.eqs true [.i .i64,.s] (.t 45) (.t 50)),aV 44]) (.cond (.t 44) (q' 52 [ao (.bld [.sl f7] []),aS 1 6 52,ab 7 false] .ret) .skip)))))))) (g' 53 [aA 21]))))))) (q' 54 [ae 1 3,aS 1 6 54,ab 7 true] .ret)))) [.c 6 true 1,.t 7] [(187,[],z9),(237,[],a1Y)] ?_;intro hb hE;obtain ⟨hp1,hp2⟩:=hpre;simp only [go_sem];repeat' first | apply cj' | intro hc | exact om' | fail
 ·rw [a2x,V9 (by intro h;rw [h] at hc;simp at hc)];exact ⟨rfl,rfl⟩
 have hl:args.length=row.V.length:=by simpa [q3M,bne] using hc
 clear hc;refine lq' false [3,5,6,19,20] [10,11,19] [] (fun i:{q:Nat×List c4 // q.1<=args.length/\a0y e.Binds args row.V q.1=some q.2}=>[(21,slV (.i .i64 i.1.1))]) (fun i=>[(6,[.c (l9 i.1.2)]),(12,[.nl f7])]) nl' (fun i=>args.length - i.1.1) (⟨(0,e.Binds),by simp,rfl⟩) ?_;intro S0 hS0 i;obtain ⟨⟨i,c⟩,hi,hf⟩:=i;simp only at hi hf;have hcl:=a6r hf;simp only [go_sem,hS0];repeat' first | apply cj' | intro hc | exact om' | fail
 ·exact nx0 ⟨(i+1,y8 c (args.getD i default).Var (row.V.getD i default)),by simp only;omega,b9O hf hc⟩
 ·rename_i hv;rw [a2x,V5 hl,V1,b4N hf (by omega) hv hc];exact ⟨rfl,rfl⟩
 ·rename_i hv;exact nx0 ⟨(i+1,c),by simp only;omega,b0U hf hv (by rw [a5s,hc.1,hc.2];rfl)⟩
 ·obtain rfl:i=args.length:=by omega
  rw [a2x,V5 hl,V1,hf];exact ⟨rfl,rfl⟩
noncomputable def a5Y:CT:=j9 (fun (x:d3×(List c9)×c7) h=>b4X x.1 x.2.1 x.2.2 h)
@[go_sem] def c2f:=fun x0 x1 x2=>nm' (fP' a5Y rfl (⟨x0⟩,x1,⟨x2⟩))
def a9x (e:d3) (args:List c9) (row:c7) (hpre:e.Binds.length<=500/\row.V.length<=6):A0c Tryz.prog 155 [(true,[l9 e.Binds]),(false,[i7 args]),(true,[j3 row.V])] [] (.tup [(true,[l9 (((a2x e args row).1).Binds)]),(false,[.b ((a2x e args row).2)])]):=by
 refine sx' false true none Tryz.func155 (q' 3 [ao (.box 1 (.t 0)),ax (o' 5 (.box 1 (.t 2))),ax (w' 6 [.sl f7]),ab 7 false] (.seq (q' 14 [am 1,aN,aG 0 5,aN,ao (.bin .neq (.t 15) (.t 18))] (.cond (.t 19) (q' 20 [ao (.bld [.sl f7] []),aS 1 6 20,ab 7 false] .ret) .skip)) (q' 21 [ao (.bsl 3 0 [.s,.i .i64,.s] []),aG 0 3,ao (.app 3 40 [.s,.i .i64,.s] (.t 21) (.t 23)),ao (.bld [.sl f7] [(0,1,.t 24)]),ax (w' 8 [.sl f7]),aS 1 8 25] (.seq (q' 26 [am 1,aN,aK 0] (.block 0 (.loop (q' 29 [ar 28 27] (.seq (.cond (.t 29) .skip (.exit 0)) (.seq (.block 1 (q' 30 [am 28,ai 3 26 28,aE 3,ax (w' 10 [.s,.i .i64,.s]),av 9 30,aS 3 10 32] (q' 33 [af 1 10,aE 2,ax (w' 11 [.i .i64,.s]),aS 2 11 34] (.seq (q' 35 [aG 0 10,ao (.bin .neq (.t 36) (.k (.v false [.c (.s [])])))] (.cond (.t 37) (q' 39 [ae 1 8,aG 0 10,ac 159 [39,41],aV 38,ao (.ext (.t 38) 0),ao (.ext (.t 38) 1),ax (w' 12 [.i .i64,.s]),aS 2 12 43,aV 13] (.seq (q' 45 [am 13,ao (.not (.t 45))] (.cond (.t 46) (.seq (.rego [(true,1,f' 48 0 10),(true,2,l' 49 48),(true,3,f' 50 0 5),(true,4, l' 51 50),(true,5,m' 52 9),(true,6,i' 53 2 51 52),(true,7,e' 54 2 53),(false,0,e' 47 1 8),(false,8,c' 55 218 [47,49,54]),(false,9,s' 1 8 55)] [20,21,10,11]) (g' 56 [aG 0 5,am 9,aI 2,aE 2,aS 2 12 60])) .skip)) (g' 61 [ae 2 12,aS 2 11 61]))) .skip)) (.seq (G' 62 [ae 2 11,aG 0 5,am 9,aI 2,aE 2,ao (.eqs true [.i .i64,.s] (.t 62) (.t 67))]) (.cond (.t 68) (q' 69 [ao (.bld [.sl f7] []),aS 1 6 69,ab 7 false] .ret) .skip)))))) (g' 70 [aA 28]))))))) (q' 71 [ae 1 8,aS 1 6 71,ab 7 true] .ret))))) [.c 6 true 1,.t 7] [(159,[],a0U),(218,[],a5n)] ?_;intro hb hE;obtain ⟨hp1,hp2⟩:=hpre;simp only [go_sem];repeat' first | apply cj' | intro hc | exact om' | fail
 ·rw [a2x,V9 (by intro h;rw [h] at hc;simp at hc)];exact ⟨rfl,rfl⟩
 have hl:args.length=row.V.length:=by simpa [q3M,bne] using hc
 clear hc;refine lk' false [(true,16,0,200032)] [5,6,8,26,27] [10,11,21] [] (fun i:{q:Nat×List c4 // q.1<=args.length/\a0y e.Binds args row.V q.1=some q.2}=>[(28,slV (.i .i64 i.1.1))]) (fun i=>[(16,[.ow 200032]),(12,[.nl f7])]) (fun i=>[(200032,f7,i.1.2.map c4.cells)]) (fun i=>args.length - i.1.1) (⟨(0,e.Binds),by simp,rfl⟩) ?_;intro S0 hS0 i;obtain ⟨⟨i,c⟩,hi,hf⟩:=i;simp only at hi hf;have hcl:=a6r hf;simp only [go_sem,hS0];repeat' first | apply cj' | intro hc | exact om' | fail
 ·rename_i hv;exact nk0 ⟨(i+1,y8 c (args.getD i default).Var (row.V.getD i default)),by simp only;omega,b9O hf (by rw [a6L hv];exact hc)⟩
 ·rename_i hv ho;rw [a2x,V5 hl,V1,b4N hf (by omega) (by rw [a6L hv];exact ho) (by rw [a6L hv];exact hc)];exact ⟨rfl,rfl⟩
 ·rename_i hv ho;exact nk0 ⟨(i+1,c),by simp only;omega,b0U hf (by rw [a6L hv];exact ho) (by rw [a6L hv,a5s,hc.1,hc.2];rfl)⟩
 ·rename_i hv;rw [a2x,V5 hl,V1,b4N hf (by omega) (by rw [a4O hv]) (by rw [a4O hv];exact hc)];exact ⟨rfl,rfl⟩
 ·rename_i hv;exact nk0 ⟨(i+1,c),by simp only;omega,b0U hf (by rw [a4O hv]) (by rw [a4O hv,a5s,hc.1,hc.2];rfl)⟩
 ·obtain rfl:i=args.length:=by omega
  rw [a2x,V5 hl,V1,hf];exact ⟨rfl,rfl⟩
noncomputable def a3r:CT:=j9 (fun (x:d3×(List c9)×c7) h=>a9x x.1 x.2.1 x.2.2 h)
@[go_sem] def b8r:=fun x0 x1 x2=>nm' (fP' a3r rfl (⟨x0⟩,x1,⟨x2⟩))
def body8 {r:c8} (h:i5 r=true):r.Body.length<=8:=by
 simp only [i5,W5,q0H] at h;omega
def z5 {α:Type} {l:List α} {i:Nat} (d:α) (h:i < l.length):l.getD i d∈l:=by
 rw [l4 d h];exact q0R _
def b6R {r:d7} (h:z7 r=true) {i:Nat} (hi:i < r.Rows.length):(r.Rows.getD i default).V.length<=6:=by
 simp only [z7,W5,q1G] at h;exact (b4c (a0Q (a1K h.2 hi))).1
abbrev arA (r:c8) (n:Nat):List c9:=(r.Body.getD n default).Atom.Args
abbrev arR (r:c8) (s:d5) (n:Nat):List c7:=(v8 s (r.Body.getD n default).Atom.Name).1.Rows
def a8U (A:List c9) (e:d3) (R:List c7) (base:List d3):Nat->List d3
 | 0=>base
 | k+1=>a8U A e R base k++(b0S A e (R.getD k default)).toList
def b4y {A:List c9} {e:d3} {R:List c7} {base:List d3}:∀ {k:Nat},k<=R.length->a8U A e R base k=base++a1T A (R.take k) e
 | 0,_=>by simp [a8U,a1T]
 | k+1,h=>by
   rw [a8U,b4y (by omega)];cases hf:b0S A e (R.getD k default) with
   | none=>rw [rows_no (by omega) hf];simp
   | some c=>rw [c3O (by omega) hf];simp
def b5R {A:List c9} {e:d3} {R:List c7} {base:List d3} {k:Nat} (h:k<=R.length):(a8U A e R base k).length<=base.length+R.length:=by
 rw [b4y h,V0];have:=c1R A (R.take k) e;rw [V4] at this;omega
def b5Q {A:List c9} {R:List c7} {now:List d3} {j:Nat} (h:j < now.length):a8U A (now.getD j default) R (m7 A R (now.take j)) R.length=m7 A R (now.take (j+1)):=by
 rw [b4y (V8 _),List.take_length,b8Q h]
def b2V (r:c8) (s:d5) (hpre:i5 r=true/\m8 s=true):A0c Tryz.prog 182 [(true,[.i .i64 r.Kind,.s r.Head.Name,i7 r.Head.Args,u5 r.Body]),(true,[o9 s.Rels])] [] (.tup [(false,[kTEnv ((z6 r s).1)]),(false,[.b ((z6 r s).2)])]):=by
 refine sx' false false none Tryz.func182 (q' 2 [ao (.box 4 (.t 0)),ao (.box 1 (.t 1)),ao (.mov (.k (.v false [.nl a0F]))),ao (.mov (bb false))] (q' 18 [ao (.bld [.sl f7] []),ao (.bsl 1 1 [.sl f7] [(0,.t 18)]),aV 6] (.seq (q' 20 [aG 3 2,aN,aK 0] (.block 0 (.loop (q' 24 [ar 23 22] (.seq (.cond (.t 24) .skip (.exit 0)) (.seq (.block 1 (q' 25 [ai 10 21 23,aE 10,ax (w' 8 [.i .i64,.s,.sl f7,.i .i64,.s,.i .i64,.s,.s,.i .i64,.s]),aS 10 8 26] (.seq (q' 27 [aG 0 8,ao (.bin .neq (.t 28) (k' 1))] (.cond (.t 29) (.exit 1) .skip)) (q' 31 [ae 1 3,af 1 8,aG 0 32,ac 235 [31,34],aV 30,ao (.ext (.t 30) 0),ao (.ext (.t 30) 1),ax (w' 9 [.i .i64,.sl o6]),aS 2 9 36,aV 10] (q' 38 [ao (.bsl 1 0 [.sl f7] []),aV 11] (.seq (q' 39 [am 6,aN,aK 0] (.block 2 (.loop (q' 42 [ar 41 40] (.seq (.cond (.t 42) .skip (.exit 2)) (.seq (.block 3 (q' 43 [ai 1 39 41,aE 1,ax (w' 13 [.sl f7]),aS 1 13 44] (.seq (q' 45 [aG 1 9,aN,aK 0] (.block 4 (.loop (q' 49 [ar 48 47] (.seq (.cond (.t 49) .skip (.exit 4)) (.seq (.block 5 (q' 50 [ai 1 46 48,aE 1,ax (w' 15 [.sl i9]),aS 1 15 51] (q' 53 [ae 1 13,af 1 8,aG 1 54,ae 1 15,ac 236 [53,56,57],aV 52,ao (.ext (.t 52) 0),ao (.ext (.t 52) 1),ax (w' 16 [.sl f7]),aS 1 16 59,aV 17] (q' 61 [am 17] (.cond (.t 61) (g' 62 [am 11,ae 1 16,ao (.bsl 1 1 [.sl f7] [(0,.t 63)]),ao (.app 1 24 [.sl f7] (.t 62) (.t 64)),aV 11]) .skip))))) (g' 66 [aA 48]))))))) (q' 67 [am 11,aN,ao (.bin .gtr (.t 68) (k' 2000))] (.cond (.t 69) (q' 0 [ax (o' 4 (.mov (.k (.v false [.nl a0F])))),ab 5 false] .ret) .skip))))) (g' 70 [aA 41]))))))) (g' 71 [am 11,aV 6]))))))) (g' 72 [aA 23]))))))) (q' 73 [am 6,aV 4,ab 5 true] .ret)))) [.t 4,.t 5] [(235,[],a2J),(236,[],a5Y)] ?_;intro hb hE;obtain ⟨hr,hs⟩:=hpre;have hb8:=body8 hr;simp only [go_sem];repeat' first | apply cj' | intro hc | exact om' | fail
 refine lk' false [(false,6,0,100012)] [3,21,22] [6] [] (fun i:{q:Nat×List d3 // q.1<=r.Body.length/\y6 r s q.1=some q.2}=>[(6,.v false [.ow 100012]),(23,slV (.i .i64 i.1.1))]) nl' (fun i=>[(100012,a0F,i.1.2.map (d3.cells false false))]) (fun i=>r.Body.length - i.1.1) (⟨(0,[⟨[]⟩]),by simp,rfl⟩) ?_;intro S0 hS0 i;obtain ⟨⟨n,now⟩,hn,hj⟩:=i;simp only at hn hj;have hJ:=Jn.all hr hs hn hj;have hl:=a7B hj;have hR:=a4J hs (r.Body.getD n default).Atom.Name;have hRl:=a7R hR;have hRe:(arR r s n).length=(v8 s (r.Body.getD n default).Atom.Name).1.Rows.length:=rfl;simp only [go_sem,hS0];repeat' first | apply cj' | intro hc | exact om' | fail
 ·exact nk0 ⟨(n+1,now),by simp only;omega,b1d hj (by simpa [bne] using hc)⟩
 ·have hk:((r.Body.getD n default).Kind==1)=true:=by simpa [bne] using hc
  refine a7t 100012 ?_;refine lk' false [(false,11,0,100022)] [3,8,9,21,22,23,39,40] [6,16,18] [] (fun i:{j:Nat // j<=now.length/\(m7 (arA r n) (arR r s n) (now.take j)).length<=2000}=>[(11,.v false [.ow 100022]),(41,slV (.i .i64 i.1))]) nl' (fun i=>[(100022,a0F,(m7 (arA r n) (arR r s n) (now.take i.1)).map (d3.cells false false))]) (fun i=>now.length - i.1) (⟨0,by simp,by simp [m7]⟩) ?_;intro S1 hS1 i;obtain ⟨j,hj1,hj2⟩:=i;simp only [go_sem,hS0,hS1];repeat' first | apply cj' | intro hc | exact om' | fail
  ·have hm:=z5 (l:=now) default (i:=j) (by omega);have he6:=hJ.len _ hm;have hall:=b5Q (A:=arA r n) (R:=arR r s n) (now:=now) (j:=j) (by omega);refine lk' false [(false,11,0,100022)] [3,8,9,13,21,22,23,39,40,41,46,47] [6,16,18,26] [] (fun i:{k:Nat // k<=(arR r s n).length}=>[(11,.v false [.ow 100022]),(48,slV (.i .i64 i.1))]) nl' (fun i=>[(100022,a0F,(a8U (arA r n) (now.getD j default) (arR r s n) (m7 (arA r n) (arR r s n) (now.take j)) i.1).map (d3.cells false false))]) (fun i=>(arR r s n).length - i.1) (⟨0,by simp⟩) ?_;intro S2 hS2 i;obtain ⟨k,hk1⟩:=i;have hlk:=b5R (A:=arA r n) (e:=now.getD j default) (R:=arR r s n) (base:=m7 (arA r n) (arR r s n) (now.take j)) hk1;simp only [go_sem,hS0,hS1,hS2];repeat' first | apply cj' | intro hc | exact om' | fail
   ·exact ⟨by omega,b6R hR (by omega)⟩
   ·(refine lpK_n2 (⟨k+1,by omega⟩) _ (by simp only [go_sem,hS0,hS1];try rfl) ?_;simp only [go_sem,hS0,hS1,hS2]<;>repeat' first | apply V7 | exact on' | fail)
    all_goals (rw [a8U,b0T hc];rfl)
   ·(refine lpK_n2 (⟨k+1,by omega⟩) _ (by simp only [go_sem,hS0,hS1];try rfl) ?_;simp only [go_sem,hS0,hS1,hS2]<;>repeat' first | apply V7 | exact on' | fail)
    all_goals (rw [a8U,b4M hc];simp)
   ·obtain rfl:k=(arR r s n).length:=by omega
    rw [hall] at hc;rw [b3S hj (by omega) hk (j:=j+1) (show 2000 < (m7 (arA r n) (arR r s n) (now.take (j+1))).length by omega)];exact ⟨rfl,rfl⟩
   ·obtain rfl:k=(arR r s n).length:=by omega
    rw [hall] at hc
    (refine lpK_n2 (⟨j+1,by omega,by omega⟩) _ (by simp only [go_sem,hS0,hS1];try rfl) ?_;simp only [go_sem,hS0,hS1,hS2]<;>repeat' first | apply V7 | exact on' | fail)
    all_goals rw [hall]
  ·rw [f8 (by omega)] at hj2
   (refine lpK_n2 (⟨(n+1,m7 (arA r n) (arR r s n) now),by simp only;omega,b6z hj hk hj2⟩) _ (by simp only [go_sem,hS0,hS1];try rfl) ?_;simp only [go_sem,hS0,hS1]<;>repeat' first | apply V7 | exact on' | fail)
   all_goals rw [f8 (by omega)]
 ·obtain rfl:n=r.Body.length:=by omega
  rw [b6A hj];exact ⟨rfl,rfl⟩
noncomputable def a4W:CT:=j9 (fun (x:c8×d5) h=>b2V x.1 x.2 h)
@[go_sem] def c0O:=fun x0 x1 x2 x3 x4=>nm' (fP' a4W rfl (⟨x0,⟨x1,x2⟩,x3⟩,⟨x4⟩))
def a8V (l:d4) (b:List c4):Bool:=v5 l&&((f9 ⟨b⟩ l.A).2&&!(f9 ⟨b⟩ l.B).2 || (f9 ⟨b⟩ l.B).2&&!(f9 ⟨b⟩ l.A).2)
def eqG (r:c8) (b:List c4):Nat->Bool
 | 0=>false
 | n+1=>eqG r b n || a8V (r.Body.getD n default) (eqP r b n)
def b4H {l:d4} {b:List c4} (h:a8V l b=false):eqS l b=b:=by
 rw [a8V] at h;rw [eqS];cases h0:v5 l with
 | false=>rfl
 | true=>
   rw [h0] at h;cases h1:(f9 ⟨b⟩ l.A).2<;>cases h2:(f9 ⟨b⟩ l.B).2<;>rw [h1,h2] at h<;>first | rfl | (exact absurd h (by decide))
def c3o {r:c8} {l:d4} {b:List c4} (hl:l∈r.Body) (h:a8V l b=true):miss r ((eqS l b).map c4.Var) < miss r (b.map c4.Var):=by
 rcases (a2w l b).miss hl with h1 | ⟨_,h1⟩
 ·exfalso;have h2:=congrArg List.length h1;rw [a8V,W5] at h;obtain ⟨h0,h⟩:=h;rw [eqS,h0] at h2;cases h3:(f9 ⟨b⟩ l.A).2<;>cases h4:(f9 ⟨b⟩ l.B).2<;>rw [h3,h4] at h h2
  ·exact absurd h (by decide)
  ·simp only [V1,V3,a1b] at h2;omega
  ·simp only [V1,V3,a1b] at h2;omega
  ·exact absurd h (by decide)
 ·exact h1
def b8D {r:c8} {b:List c4}:∀ {n:Nat},eqG r b n=false->eqP r b n=b
 | 0,_=>rfl
 | n+1,h=>by
   rw [eqG,q2N] at h;have h1:=b4H h.2;rw [b8D h.1] at h1;rw [eqP,b8D h.1,h1]
def b9H {r:c8} {b:List c4}:∀ {n:Nat},n<=r.Body.length->eqG r b n=true->miss r ((eqP r b n).map c4.Var) < miss r (b.map c4.Var)
 | 0,_,h=>by cases h
 | n+1,hn,h=>by
   have hm:=z5 (l:=r.Body) default (i:=n) (by omega);have hle:=(a1D (r:=r) (b:=b) (n:=n) (by omega)).2;rw [eqG,q2F] at h;rw [eqP];rcases h with h | h
   ·have h1:=b9H (by omega) h;rcases (a2w (r.Body.getD n default) (eqP r b n)).miss hm with h2 | ⟨_,h2⟩
    ·rw [h2];exact h1
    ·omega
   ·have h1:=c3o hm h;rcases hle with h2 | h2
    ·rw [h2] at h1 ⊢;exact h1
    ·omega
def b6s {r:c8} {b:List c4} (hV:(a3B r).length<=64) {n:Nat} (hn:n<=r.Body.length):(eqP r b n).length<=b.length+64:=by
 have h1:=(a1D (r:=r) (b:=b) hn).1;have h2:=a9G r (b.map c4.Var);omega
def b6r {r:c8} {b:List c4} (hV:(a3B r).length<=64) (k:Nat):(eqI r b k).length<=b.length+64:=by
 have h1:=b0Q (r:=r) (b:=b) k;have h2:=a9G r (b.map c4.Var);omega
def b9W {l:d4} (h:(l.Kind != 3)=true\/(l.Op != 1)=true):v5 l=false:=by
 rw [v5];rcases h with h | h<;>simp only [bne,q1G] at h<;>rw [h]<;>simp
def a9I {l:d4} (h:(l.Kind != 3)=false/\(l.Op != 1)=false):v5 l=true:=by
 simp only [bne,q1R] at h;rw [v5,h.1,h.2];rfl
def a8W (op:Int) (a:c6) (b:c6):A0c Tryz.prog 239 [(false,[.i .i64 op]),(true,[.i .i64 a.N,.s a.S]),(true,[.i .i64 b.N,.s b.S])] [] (.one (false,[.b (p8 op a b)])):=by
 refine sx' false false none Tryz.func239 (q' 4 [ao (.box 2 (.t 1)),ao (.box 2 (.t 2)),ao (.mov (bb false))] (.seq (q' 7 [ae 2 4,ac 229 [7],ao (.not (.t 8)),am 9,au (.ld true 2 (.t 5)) 10 false,au (.call 229 [.t 11]) 10 false,au (.not (.t 12)) 10 false,ao (.pick (.t 10) (bb true) (.t 13))] (.cond (.t 14) (q' 0 [ab 6 false] .ret) .skip)) (.seq (q' 15 [am 0] (.block 0 (q' 17 [ao (.bin .eql (.t 15) (k' 1)),aV 16] (.cond (.t 16) (q' 18 [ae 2 4,ae 2 5,ao (.eqs false [.i .i64,.s] (.t 18) (.t 19)),aV 6] .ret) (q' 22 [ao (.bin .eql (.t 15) (k' 2)),aV 21] (.cond (.t 21) (q' 23 [ae 2 4,ae 2 5,ao (.eqs true [.i .i64,.s] (.t 23) (.t 24)),aV 6] .ret) (q' 27 [ao (.bin .eql (.t 15) (k' 3)),aV 26] (.cond (.t 26) (q' 28 [ae 2 4,ae 2 5,ac 234 [28,29],ao (.bin .lss (.t 30) (k' 0)),aV 6] .ret) (q' 33 [ao (.bin .eql (.t 15) (k' 4)),aV 32] (.cond (.t 32) (q' 34 [ae 2 4,ae 2 5,ac 234 [34,35],ao (.bin .leq (.t 36) (k' 0)),aV 6] .ret) .skip)))))))))) (q' 0 [ab 6 false] .ret)))) [.t 6] [(229,[],a0v),(234,[],a0w)] ?_;intro hb hE;simp only [go_sem];repeat' first | apply cj' | intro hc | exact om' | fail
 ·rcases hc with h | h<;>simp [p8,h]
 ·rename_i h;simp [p8,h,hc,vEq]
 ·rename_i h h1;simp [p8,h,hc,h1,vEq]
 ·rename_i h h1 h2;simp only [p8,h.1,h.2,hc,h1,h2,V1,V3,q0N];exact b0E h.1 h.2
 ·rename_i h h1 h2 h3;simp only [p8,h.1,h.2,hc,h1,h2,h3,V1,V3,q0N];exact b0D h.1 h.2
 ·rename_i h h1 h2 h3;simp only [p8,h.1,h.2,hc,h1,h2,h3,V3,q0N]
noncomputable def a2V:CT:=j4 (fun (x:Int×c6×c6)=>a8W x.1 x.2.1 x.2.2)
@[go_sem] def b7R:=fun op x0 x1 x2 x3=>nm' (fQ' a2V rfl (op,⟨x0,x1⟩,⟨x2,x3⟩))
def a9o (op:Int) (a:c6) (b:c6):A0c Tryz.prog 220 [(false,[.i .i64 op]),(true,[.i .i64 a.N,.s a.S]),(true,[.i .i64 b.N,.s b.S])] [] (.one (false,[.b (p8 op a b)])):=by
 refine sx' false false none Tryz.func220 (q' 4 [ao (.box 2 (.t 1)),ao (.box 2 (.t 2)),ao (.mov (bb false))] (.seq (q' 7 [ae 2 4,ac 280 [7],ao (.not (.t 8)),am 9,au (.ld true 2 (.t 5)) 10 false,au (.call 280 [.t 11]) 10 false,au (.not (.t 12)) 10 false,ao (.pick (.t 10) (bb true) (.t 13))] (.cond (.t 14) (q' 0 [ab 6 false] .ret) .skip)) (.seq (q' 15 [am 0] (.block 0 (q' 17 [ao (.bin .eql (.t 15) (k' 1)),aV 16] (.cond (.t 16) (q' 18 [ae 2 4,ae 2 5,ao (.eqs false [.i .i64,.s] (.t 18) (.t 19)),aV 6] .ret) (q' 22 [ao (.bin .eql (.t 15) (k' 2)),aV 21] (.cond (.t 21) (q' 23 [ae 2 4,ae 2 5,ao (.eqs true [.i .i64,.s] (.t 23) (.t 24)),aV 6] .ret) (q' 27 [ao (.bin .eql (.t 15) (k' 3)),aV 26] (.cond (.t 26) (q' 28 [ae 2 4,ae 2 5,ac 282 [28,29],aV 6] .ret) (q' 32 [ao (.bin .eql (.t 15) (k' 4)),aV 31] (.cond (.t 31) (q' 33 [ae 2 4,ae 2 5,ac 282 [33,34],am 35,au (.ld true 2 (.t 4)) 36 false,au (.ld true 2 (.t 5)) 36 false,au (.eqs false [.i .i64,.s] (.t 37) (.t 38)) 36 false,ao (.pick (.t 36) (bb true) (.t 39)),aV 6] .ret) .skip)))))))))) (q' 0 [ab 6 false] .ret)))) [.t 6] [(280,[],a0a),(282,[],a2u)] ?_;intro hb hE;simp only [go_sem];repeat' first | apply cj' | intro hc | exact om' | fail
 ·rcases hc with h | h<;>simp [p8,h]
 ·rename_i h;simp [p8,h,hc,vEq]
 ·rename_i h h1;simp [p8,h,hc,h1,vEq]
 ·rename_i h h1 h2;simp only [p8,a1r,h.1,h.2,hc,h1,h2,V1,V3,q0N]
 ·rename_i h h1 h2 h3;simp only [p8,a1r,h.1,h.2,hc,h1,h2,h3,V1,V3,q0N,vEq]
 ·rename_i h h1 h2 h3;simp only [p8,h.1,h.2,hc,h1,h2,h3,V3,q0N]
noncomputable def a3k:CT:=j4 (fun (x:Int×c6×c6)=>a9o x.1 x.2.1 x.2.2)
@[go_sem] def b8j:=fun op x0 x1 x2 x3=>nm' (fQ' a3k rfl (op,⟨x0,x1⟩,⟨x2,x3⟩))
def a8Y (r:c8) (e:d3) (hpre:i5 r=true/\e.Binds.length<=100):A0c Tryz.prog 183 [(true,[.i .i64 r.Kind,.s r.Head.Name,i7 r.Head.Args,u5 r.Body]),(true,[l9 e.Binds])] [] (.one (true,[l9 ((eqE r e).Binds)])):=by
 refine sx' false true none Tryz.func183 (q' 2 [ao (.box 4 (.t 0)),ao (.box 1 (.t 1)),aw [.sl f7]] (.seq (q' 0 [ab 5 true] (.block 0 (.loop (.seq (q' 12 [am 5] (.cond (.t 12) .skip (.exit 0))) (.block 1 (q' 0 [ab 5 false] (q' 13 [aG 3 2,aN,aK 0] (.block 2 (.loop (q' 17 [ar 16 15] (.seq (.cond (.t 17) .skip (.exit 2)) (.seq (.block 3 (q' 18 [ai 10 14 16,aE 10,ax (w' 7 [.i .i64,.s,.sl f7,.i .i64,.s,.i .i64,.s,.s,.i .i64,.s]),aS 10 7 19] (.seq (q' 20 [aG 0 7,ao (.bin .neq (.t 21) (k' 3)),am 22,au (.fa 3 (.t 7)) 23 false,au (.ld false 1 (.t 24)) 23 false,au (.bin .neq (.t 25) (k' 1)) 23 false,ao (.pick (.t 23) (bb true) (.t 26))] (.cond (.t 27) (.exit 3) .skip)) (q' 29 [ae 1 3,af 4 7,aE 3,ac 187 [29,31],aV 28,ao (.ext (.t 28) 0),ao (.ext (.t 28) 1),ax (w' 8 [.i .i64,.s]),aS 2 8 33,aV 9] (q' 36 [ae 1 3,af 7 7,aE 3,ac 187 [36,38],aV 35,ao (.ext (.t 35) 0),ao (.ext (.t 35) 1),ax (w' 10 [.i .i64,.s]),aS 2 10 40,aV 11] (.block 4 (q' 43 [aM [9,43],au (.mov (.t 11)) 44 true,au (.not (.t 45)) 44 true,ao (.pick (.t 44) (.t 46) (bb false)),aV 42] (.cond (.t 42) (q' 48 [ae 1 3,af 7 7,aG 0 49,ae 2 8,ac 237 [48,51,52],aS 1 3 53] (g' 0 [ab 5 true])) (q' 55 [aM [11,55],au (.mov (.t 9)) 56 true,au (.not (.t 57)) 56 true,ao (.pick (.t 56) (.t 58) (bb false)),aV 54] (.cond (.t 54) (q' 60 [ae 1 3,af 4 7,aG 0 61,ae 2 10,ac 237 [60,63,64],aS 1 3 65] (g' 0 [ab 5 true])) .skip)))))))))) (g' 66 [aA 16]))))))))))))) (q' 67 [ae 1 3,aS 1 4 67] .ret))) [.c 4 true 1] [(187,[],z9),(237,[],a1Y)] ?_;intro hb hE;obtain ⟨hr,he⟩:=hpre;have hV:=a1s hr;simp only [go_sem];repeat' first | apply cj' | intro hc | exact om' | fail
 refine lq' false [2,3,4] [4,8] [] (fun i:{q:Bool×List c4 // (∃ k,eqI r e.Binds k=q.2)/\(q.1=false->a2S r q.2=q.2)}=>[(5,slV (.b i.1.1))]) (fun i=>[(6,[.c (l9 i.1.2)])]) nl' (fun i=>2 * miss r (i.1.2.map c4.Var)+(bif i.1.1 then 1 else 0)) (⟨(true,e.Binds),⟨0,rfl⟩,by intro h;cases h⟩) ?_;intro S0 hS0 i;obtain ⟨⟨g,c⟩,⟨k,hk⟩,hp⟩:=i;simp only at hk hp;have hcl:c.length<=e.Binds.length+64:=by rw [<- hk];exact b6r hV k
 simp only [go_sem,hS0];repeat' first | apply cj' | intro hc | exact om' | fail
 ·skip
  refine lq' false [2,3,4,14,15] [4,8] [] (fun i:{j:Nat // j<=r.Body.length}=>[(5,slV (.b (eqG r c i.1))),(16,slV (.i .i64 i.1))]) (fun i=>[(6,[.c (l9 (eqP r c i.1))])]) nl' (fun i=>r.Body.length - i.1) (⟨0,by simp⟩) ?_;intro S1 hS1 i;obtain ⟨j,hj⟩:=i;have hl2:=b6s (b:=c) hV hj;simp only [go_sem,hS0,hS1];repeat' first | apply cj' | intro hc | exact om' | fail
  ·have h0:=b9W hc
   (refine lpK_n2 (⟨j+1,by omega⟩) _ rfl ?_;simp only [go_sem,hS0,hS1]<;>repeat' first | apply V7 | exact on' | fail)
   all_goals first | (rw [eqP,b6u h0];done) | (rw [eqG,a8V,h0];simp;done)
  ·rename_i h1;have h0:=a9I h1
   (refine lpK_n2 (⟨j+1,by omega⟩) _ rfl ?_;simp only [go_sem,hS0,hS1]<;>repeat' first | apply V7 | exact on' | fail)
   all_goals first | (rw [eqP,b3Q h0 hc.1 hc.2];done) | (rw [eqG,a8V,h0,hc.1,hc.2];simp;done)
  ·rename_i h1 h2;have h0:=a9I h1
   (refine lpK_n2 (⟨j+1,by omega⟩) _ rfl ?_;simp only [go_sem,hS0,hS1]<;>repeat' first | apply V7 | exact on' | fail)
   all_goals first | (rw [eqP,b6t h0 hc.1 hc.2];done) | (rw [eqG,a8V,h0,hc.1,hc.2];simp;done)
  ·rename_i h1 h2;have h3:a8V (r.Body.getD j default) (eqP r c j)=false:=by rw [a8V,h2,hc];simp
   (refine lpK_n2 (⟨j+1,by omega⟩) _ rfl ?_;simp only [go_sem,hS0,hS1]<;>repeat' first | apply V7 | exact on' | fail)
   all_goals first | (rw [eqP,b4H h3];done) | (rw [eqG,h3,Bool.or_false];done)
  ·obtain rfl:j=r.Body.length:=by omega
   have h1:eqG r c r.Body.length=false->eqP r c r.Body.length=c:=b8D;have h2:=b9H (r:=r) (b:=c) (V8 _);have h4:eqI r e.Binds (k+1)=eqP r c r.Body.length:=by rw [eqI,hk];rfl
   cases hG:eqG r c r.Body.length with
   | true=>
     have h5:=h2 hG
     (refine lpK_n2 (⟨(true,eqP r c r.Body.length),⟨k+1,h4⟩,by intro h;cases h⟩) _ rfl ?_;simp only [go_sem,hS0,hS1]<;>repeat' first | apply V7 | exact on' | fail)
     all_goals first | rfl | (rename_i h;rw [h];simp only [V1];omega) | (simp only [*,V1];omega) | trace_state
   | false=>
     have h5:=h1 hG;rw [h5]
     (refine lpK_n2 (⟨(false,c),⟨k,hk⟩,fun _=>h5⟩) _ rfl ?_;simp only [go_sem,hS0,hS1]<;>repeat' first | apply V7 | exact on' | fail)
     all_goals first | rfl | (simp only [*,V1,V3];omega) | trace_state
 ·exact congrArg (List.map c4.cells) (b4L ⟨k,hk,hp hc⟩).symm
noncomputable def a2X:CT:=j9 (fun (x:c8×d3) h=>a8Y x.1 x.2 h)
@[go_sem] def b7T:=fun x0 x1 x2 x3 x4=>nm' (fP' a2X rfl (⟨x0,⟨x1,x2⟩,x3⟩,⟨x4⟩))
def b1K (e:d3) (t:c9):A0c Tryz.prog 219 [(true,[l9 e.Binds]),(true,[.s t.Var,.i .i64 t.Val.N,.s t.Val.S])] [] (.tup [(true,[.i .i64 (((f9 e t).1).N),.s (((f9 e t).1).S)]),(false,[.b ((f9 e t).2)])]):=by
 refine sx' false false none Tryz.func219 (q' 2 [ao (.box 1 (.t 0)),ao (.box 3 (.t 1)),aw [.i .i64,.s],ao (.mov (bb false))] (.seq (q' 6 [aG 0 3,ao (.bin .eql (.t 7) (.k (.v false [.c (.s [])])))] (.cond (.t 8) (q' 9 [af 1 3,aE 2,aS 2 4 10,ab 5 true] .ret) .skip)) (q' 11 [ae 1 2,aG 0 3,ac 159 [11,13],ao (.ext (.t 14) 0),ao (.ext (.t 14) 1),aS 2 4 15,aV 5] .ret))) [.c 4 true 2,.t 5] [(159,[],a0U)] ?_;intro hb hE;simp only [go_sem];repeat' first | apply cj' | intro hc | exact om' | fail
 all_goals first | (rw [f9,hc];exact ⟨⟨rfl,rfl⟩,rfl⟩) | trace_state
noncomputable def a1B:CT:=j4 (fun (x:d3×c9)=>b1K x.1 x.2)
@[go_sem] def b9G:=fun x0 x1 x2 x3=>nm' (fQ' a1B rfl (⟨x0⟩,⟨x1,⟨x2,x3⟩⟩))
def a9z (r:c8) (e:d3) (hpre:i5 r=true/\e.Binds.length<=100):A0c Tryz.prog 156 [(true,[.i .i64 r.Kind,.s r.Head.Name,i7 r.Head.Args,u5 r.Body]),(true,[l9 e.Binds])] [] (.one (true,[l9 ((eqE r e).Binds)])):=by
 refine sx' false true none Tryz.func156 (q' 2 [ao (.box 4 (.t 0)),ao (.box 1 (.t 1)),aw [.sl f7]] (.seq (q' 5 [ao (.mov (.k (.v false [.c (.i .i64 (-1))])))] (.block 0 (.loop (.seq (q' 12 [am 5,aG 0 3,aN,ar 12 15] (.cond (.t 16) .skip (.exit 0))) (.block 1 (q' 17 [aG 0 3,aN,aV 5] (q' 20 [aG 3 2,aN,aK 0] (.block 2 (.loop (q' 24 [ar 23 22] (.seq (.cond (.t 24) .skip (.exit 2)) (.seq (.block 3 (q' 25 [am 23,aV 6] (q' 26 [aG 3 2,am 6,aI 10,aE 10,ax (w' 7 [.i .i64,.s,.sl f7,.i .i64,.s,.i .i64,.s,.s,.i .i64,.s]),aS 10 7 30] (.seq (q' 31 [aG 0 7,ao (.bin .neq (.t 32) (k' 3)),am 33,au (.fa 3 (.t 7)) 34 false,au (.ld false 1 (.t 35)) 34 false,au (.bin .neq (.t 36) (k' 1)) 34 false,ao (.pick (.t 34) (bb true) (.t 37))] (.cond (.t 38) (.exit 3) .skip)) (q' 40 [ae 1 3,af 4 7,aE 3,ac 219 [40,42],aV 39,ao (.ext (.t 39) 0),ao (.ext (.t 39) 1),ax (w' 8 [.i .i64,.s]),aS 2 8 44,aV 9] (q' 47 [ae 1 3,af 7 7,aE 3,ac 219 [47,49],aV 46,ao (.ext (.t 46) 0),ao (.ext (.t 46) 1),ax (w' 10 [.i .i64,.s]),aS 2 10 51,aV 11] (.seq (q' 53 [aM [9,53],au (.mov (.t 11)) 54 true,au (.not (.t 55)) 54 true,ao (.pick (.t 54) (.t 56) (bb false))] (.cond (.t 57) (g' 58 [ae 1 3,af 7 7,aG 0 59,ae 2 8,ac 218 [58,61,62],aS 1 3 63]) .skip)) (q' 64 [aM [11,64],au (.mov (.t 9)) 65 true,au (.not (.t 66)) 65 true,ao (.pick (.t 65) (.t 67) (bb false))] (.cond (.t 68) (g' 69 [ae 1 3,af 4 7,aG 0 70,ae 2 10,ac 218 [69,72,73],aS 1 3 74]) .skip))))))))) (g' 75 [aA 23]))))))))))))) (q' 76 [ae 1 3,aS 1 4 76] .ret))) [.c 4 true 1] [(219,[],a1B),(218,[],a3s)] ?_;intro hb hE;obtain ⟨hr,he⟩:=hpre;have hV:=a1s hr;simp only [go_sem];repeat' first | apply cj' | intro hc | exact om' | fail
 refine lq' false [2,3,4] [4,8] [] (fun i:{q:Int×List c4 // (∃ k,eqI r e.Binds k=q.2)/\-1<=q.1/\(¬ q.1 < q.2.length->a2S r q.2=q.2)}=>[(5,slV (.i .i64 i.1.1))]) (fun i=>[(6,[.c (l9 i.1.2)])]) nl' (fun i=>2 * miss r (i.1.2.map c4.Var)+(bif decide (i.1.1 < i.1.2.length) then 1 else 0)) (⟨(-1,e.Binds),⟨0,rfl⟩,by simp,by simp only;omega⟩) ?_;intro S0 hS0 i;obtain ⟨⟨g,c⟩,⟨k,hk⟩,hg,hp⟩:=i;simp only at hk hg hp;have hcl:c.length<=e.Binds.length+64:=by rw [<- hk];exact b6r hV k
 simp only [go_sem,hS0];repeat' first | apply cj' | intro hc | exact om' | fail
 ·skip
  refine lq' false [2,3,4,5,22] [4,8] [] (fun i:{j:Nat // j<=r.Body.length}=>[(23,slV (.i .i64 i.1))]) (fun i=>[(6,[.c (l9 (eqP r c i.1))])]) nl' (fun i=>r.Body.length - i.1) (⟨0,by simp⟩) ?_;intro S1 hS1 i;obtain ⟨j,hj⟩:=i;have hl2:=b6s (b:=c) hV hj;simp only [go_sem,hS0,hS1];repeat' first | apply cj' | intro hc | exact om' | fail
  ·have h0:=b9W hc
   (refine lpK_n2 (⟨j+1,by omega⟩) _ rfl ?_;simp only [go_sem,hS0,hS1]<;>repeat' first | apply V7 | exact on' | fail)
   all_goals rw [eqP,b6u h0]
  ·rename_i h1 h2;rw [h2.2] at hc;exact absurd hc.1 (by decide)
  ·rename_i h1 h2;rw [h2.2] at hc;exact absurd hc.1 (by decide)
  ·rename_i h1 h2;have h0:=a9I h1
   (refine lpK_n2 (⟨j+1,by omega⟩) _ rfl ?_;simp only [go_sem,hS0,hS1]<;>repeat' first | apply V7 | exact on' | fail)
   all_goals rw [eqP,b3Q h0 h2.1 h2.2]
  ·rename_i h1 h2;have h0:=a9I h1
   (refine lpK_n2 (⟨j+1,by omega⟩) _ rfl ?_;simp only [go_sem,hS0,hS1]<;>repeat' first | apply V7 | exact on' | fail)
   all_goals rw [eqP,b6t h0 hc.1 hc.2]
  ·rename_i h1 h2;have h3:a8V (r.Body.getD j default) (eqP r c j)=false:=by rw [a8V,h2,hc];simp
   (refine lpK_n2 (⟨j+1,by omega⟩) _ rfl ?_;simp only [go_sem,hS0,hS1]<;>repeat' first | apply V7 | exact on' | fail)
   all_goals rw [eqP,b4H h3]
  ·obtain rfl:j=r.Body.length:=by omega
   have h4:eqI r e.Binds (k+1)=eqP r c r.Body.length:=by rw [eqI,hk];rfl
   have h5:=(a1D (r:=r) (b:=c) (V8 _)).2;have h6:¬ (c.length:Int) < (eqP r c r.Body.length).length->a2S r (eqP r c r.Body.length)=eqP r c r.Body.length:=fun h=>by
    have:a2S r c=c:=b3X (by rw [a2S];omega);rw [a2S] at this;rw [this];exact this
   have h7:2 * miss r ((eqP r c r.Body.length).map c4.Var)+(bif decide ((c.length:Int) < (eqP r c r.Body.length).length) then 1 else 0) < 2 * miss r (c.map c4.Var)+(bif decide (g < (c.length:Int)) then 1 else 0):=by
    rw [V5 (p:=g < (c.length:Int)) (by omega),V1];rcases h5 with h5 | h5
    ·rw [h5,V9 (by omega),V3];omega
    ·cases decide ((c.length:Int) < (eqP r c r.Body.length).length)<;>simp only [V1,V3]<;>omega
   (refine lpK_n2 (⟨(c.length,eqP r c r.Body.length),⟨k+1,h4⟩,by simp only;omega,h6⟩) _ rfl ?_;simp only [go_sem,hS0,hS1]<;>repeat' first | apply V7 | exact on' | fail)
   all_goals first | exact h7 | trace_state
 ·exact congrArg (List.map c4.cells) (b4L ⟨k,hk,hp (by omega)⟩).symm
noncomputable def a3t:CT:=j9 (fun (x:c8×d3) h=>a9z x.1 x.2 h)
@[go_sem] def b8t:=fun x0 x1 x2 x3 x4=>nm' (fP' a3t rfl (⟨x0,⟨x1,x2⟩,x3⟩,⟨x4⟩))
def b6v {b:List c4} {args:List c9} (hb:EnvS b) (ha:args.all o5=true) (hl:args.length<=6):a0o (o8 ⟨b⟩ args).1=true:=by
 rw [o8];cases h:args.all (fun t=>(f9 ⟨b⟩ t).2) with
 | false=>rfl
 | true=>
   rw [V1,a0o,V5 (by rw [q0G];omega),q0N,q0J];intro x hx;obtain ⟨t,ht,rfl⟩:=q0U.1 hx;exact b2c hb (q0J.1 ha t ht) (q0J.1 h t ht)
def b3V {r:c8} (hr:i5 r=true) {i:Nat} (hi:i < r.Body.length) (hk:((r.Body.getD i default).Kind==3)=false):(r.Body.getD i default).Atom.Args.all o5=true/\(r.Body.getD i default).Atom.Args.length<=6:=b1W hr (z5 default hi) hk
def k2_3 {k:Int} (h:(k==2)=true):(k==3)=false:=by rw [beq_iff_eq] at h;rw [h];rfl
def hH_no {r:c8} {s:d5} {e:d3} {i:Nat} (hi:i < r.Body.length) (h:a7O s e (r.Body.getD i default)=false):a2l r s e=false:=all_false (p:=a7O s e) (d:=default) hi h
def hX_no {r:c8} {s:d5} {e:d3} {i:Nat} (hi:i < r.Body.length) (h:b1M s e (r.Body.getD i default)=false):a4v r s e=false:=all_false (p:=b1M s e) (d:=default) hi h
def b4Z (r:c8) (s:d5) (e:d3) (hpre:i5 r=true/\m8 s=true/\EnvS e.Binds):A0c Tryz.prog 184 [(true,[.i .i64 r.Kind,.s r.Head.Name,i7 r.Head.Args,u5 r.Body]),(true,[o9 s.Rels]),(true,[l9 e.Binds])] [] (.one (false,[.b (a2l r s e)])):=by
 refine sx' false false none Tryz.func184 (q' 3 [ao (.box 4 (.t 0)),ao (.box 1 (.t 1)),ao (.box 1 (.t 2)),ao (.mov (bb false))] (.seq (q' 17 [aG 3 3,aN,aK 0] (.block 0 (.loop (q' 21 [ar 20 19] (.seq (.cond (.t 21) .skip (.exit 0)) (.seq (.block 1 (q' 22 [ai 10 18 20,aE 10,ax (w' 8 [.i .i64,.s,.sl f7,.i .i64,.s,.i .i64,.s,.s, .i .i64,.s]),aS 10 8 23] (q' 24 [aG 0 8] (.block 2 (q' 27 [ao (.bin .eql (.t 25) (k' 2)),aV 26] (.cond (.t 26) (q' 29 [ae 1 5,af 1 8,aG 1 30,ac 107 [29,32],aV 28,ao (.ext (.t 28) 0),ao (.ext (.t 28) 1),ax (w' 9 [.sl i9]),aS 1 9 34,aV 10] (q' 37 [ae 1 4,af 1 8,aG 0 38,ac 235 [37,40],aV 36,ao (.ext (.t 36) 0),ao (.ext (.t 36) 1),ax (w' 11 [.i .i64,.sl o6]),aS 2 11 42,aV 12] (q' 44 [ae 2 11,ae 1 9,ac 238 [44,45]] (.cond (.t 46) (q' 0 [ab 6 false] .ret) .skip)))) (q' 48 [ao (.bin .eql (.t 25) (k' 3)),aV 47] (.cond (.t 47) (q' 50 [ae 1 5,af 4 8,aE 3,ac 187 [50,52],aV 49,ao (.ext (.t 49) 0),ao (.ext (.t 49) 1),ax (w' 13 [.i .i64,.s]),aS 2 13 54,aV 14] (q' 57 [ae 1 5,af 7 8,aE 3,ac 187 [57,59],aV 56,ao (.ext (.t 56) 0),ao (.ext (.t 56) 1),ax (w' 15 [.i .i64,.s]),aS 2 15 61,aV 16] (q' 63 [aG 3 8,ae 2 13,ae 2 15,ac 239 [64,65,66],ao (.not (.t 67))] (.cond (.t 68) (q' 0 [ab 6 false] .ret) .skip)))) .skip)))))))) (g' 69 [aA 20]))))))) (q' 0 [ab 6 true] .ret))) [.t 6] [(107,[],a3X),(235,[],a2J),(238,[],b0L),(187,[],z9),(239,[],a2V)] ?_;intro hb hE;obtain ⟨hr,hs,he⟩:=hpre;simp only [go_sem];repeat' first | apply cj' | intro hc | exact om' | fail
 refine lq' false [4,5,18,19] [8,10] [] (fun i:{i:Nat // i<=r.Body.length/\(r.Body.take i).all (a7O s e)=true}=>[(20,slV (.i .i64 i.1))]) nl' nl' (fun i=>r.Body.length - i.1) (⟨0,by simp⟩) ?_;intro S0 hS0 i;obtain ⟨i,hi,ha⟩:=i;have hR:=a4J hs (r.Body.getD i default).Atom.Name;have hT:=fun (h1:i < r.Body.length) (h2:((r.Body.getD i default).Kind==2)=true)=>b3V hr h1 (k2_3 h2)
 simp only [go_sem,hS0];repeat' first | apply cj' | intro hc | exact om' | fail
 ·exact (hT (by omega) hc).2
 ·exact ⟨hR,b6v he (hT (by omega) hc).1 (hT (by omega) hc).2⟩
 ·rename_i h1;rw [hH_no (i:=i) (by omega) (by rw [a7O,h1,V1,hc];rfl)]
 ·rename_i h1;exact nx0 ⟨i+1,by omega,a0W (p:=a7O s e) default (by omega) ha (by rw [a7O,h1,V1,hc];rfl)⟩
 ·rename_i h1 h2;rw [hH_no (i:=i) (by omega) (by rw [a7O,h1,V3,h2,V1];exact hc)]
 ·rename_i h1 h2;exact nx0 ⟨i+1,by omega,a0W (p:=a7O s e) default (by omega) ha (by rw [a7O,h1,V3,h2,V1];exact hc)⟩
 ·rename_i h1;exact nx0 ⟨i+1,by omega,a0W (p:=a7O s e) default (by omega) ha (by rw [a7O,h1,V3,hc];rfl)⟩
 ·rw [f8 (by omega)] at ha;rw [a2l,ha]
noncomputable def a6a:CT:=j9 (fun (x:c8×d5×d3) h=>b4Z x.1 x.2.1 x.2.2 h)
@[go_sem] def c2h:=fun x0 x1 x2 x3 x4 x5=>nm' (fP' a6a rfl (⟨x0,⟨x1,x2⟩,x3⟩,⟨x4⟩,⟨x5⟩))
def a9B (r:c8) (s:d5) (e:d3) (hpre:i5 r=true):A0c Tryz.prog 157 [(true,[.i .i64 r.Kind,.s r.Head.Name,i7 r.Head.Args,u5 r.Body]),(true,[o9 s.Rels]),(true,[l9 e.Binds])] [] (.one (false,[.b (a4v r s e)])):=by
 refine sx' false false none Tryz.func157 (q' 3 [ao (.box 4 (.t 0)),ao (.box 1 (.t 1)),ao (.box 1 (.t 2)),ao (.mov (bb false))] (.seq (q' 15 [aG 3 3,aN,aK 0] (.block 0 (.loop (q' 19 [ar 18 17] (.seq (.cond (.t 19) .skip (.exit 0)) (.seq (.block 1 (q' 20 [am 18,aV 7] (q' 21 [aG 3 3,am 7,aI 10,aE 10,ax (w' 8 [.i .i64,.s,.sl f7,.i .i64,.s,.i .i64,.s,.s,.i .i64,.s]),aS 10 8 25] (.seq (q' 26 [aG 0 8,ao (.bin .eql (.t 27) (k' 3))] (.cond (.t 28) (q' 30 [ae 1 5,af 4 8,aE 3,ac 219 [30,32],aV 29,ao (.ext (.t 29) 0),ao (.ext (.t 29) 1),ax (w' 9 [.i .i64,.s]),aS 2 9 34,aV 10] (q' 37 [ae 1 5,af 7 8,aE 3,ac 219 [37,39],aV 36,ao (.ext (.t 36) 0),ao (.ext (.t 36) 1),ax (w' 11 [.i .i64,.s]),aS 2 11 41,aV 12] (.seq (q' 43 [aG 3 8,ae 2 9,ae 2 11,ac 220 [44,45,46],ao (.not (.t 47))] (.cond (.t 48) (q' 0 [ab 6 false] .ret) .skip)) (.exit 1)))) .skip)) (q' 50 [ae 1 5,af 1 8,aG 1 51,ac 90 [50,53],aV 49,ao (.ext (.t 49) 0),ao (.ext (.t 49) 1),ax (w' 13 [.sl i9]),aS 1 13 55,aV 14] (.seq (G' 57 [ae 1 4,af 1 8,aG 0 58,ae 1 13,ac 221 [57,60,61],aG 0 8,ao (.bin .eql (.t 64) (k' 1)),ao (.binb .neq (.t 62) (.t 65))]) (.cond (.t 66) (q' 0 [ab 6 false] .ret) .skip))))))) (g' 67 [aA 18]))))))) (q' 0 [ab 6 true] .ret))) [.t 6] [(90,[],a4p),(221,[],a6p),(219,[],a1B),(220,[],a3k)] ?_;intro hb hE;simp only [go_sem];repeat' first | apply cj' | intro hc | exact om' | fail
 refine lq' false [3,4,5,17] [6,8,10] [] (fun i:{i:Nat // i<=r.Body.length/\(r.Body.take i).all (b1M s e)=true}=>[(18,slV (.i .i64 i.1))]) nl' nl' (fun i=>r.Body.length - i.1) (⟨0,by simp⟩) ?_;intro S0 hS0 i;obtain ⟨i,hi,ha⟩:=i;have hT:=fun (h1:i < r.Body.length) (h2:((r.Body.getD i default).Kind==3)=false)=>b3V hpre h1 h2
 simp only [go_sem,hS0];repeat' first | apply cj' | intro hc | exact om' | fail
 ·rename_i h1;rw [hX_no (i:=i) (by omega) (by rw [b1M,h1,V1];exact hc)]
 ·rename_i h1;exact nx0 ⟨i+1,by omega,a0W (p:=b1M s e) default (by omega) ha (by rw [b1M,h1,V1];exact hc)⟩
 ·exact (hT (by omega) hc).2
 ·rename_i h1;rw [hX_no (i:=i) (by omega) (by rw [b1M,h1,V3];exact hc)]
 ·rename_i h1;exact nx0 ⟨i+1,by omega,a0W (p:=b1M s e) default (by omega) ha (by rw [b1M,h1,V3];exact hc)⟩
 ·rw [f8 (by omega)] at ha;rw [a4v,ha]
noncomputable def a3v:CT:=j9 (fun (x:c8×d5×d3) h=>a9B x.1 x.2.1 x.2.2 h)
@[go_sem] def b8v:=fun x0 x1 x2 x3 x4 x5=>nm' (fP' a3v rfl (⟨x0,⟨x1,x2⟩,x3⟩,⟨x4⟩,⟨x5⟩))
end Go.Aw
namespace Go.Aw
open Go.Proofs Go.Shelf
attribute [local irreducible] aft blk lpK retK AW A0c
set_option linter.all false
set_option maxRecDepth 100000
set_option maxHeartbeats 4000000
attribute [local irreducible] RM
def Comp (vs:List (List UInt8)) (e:d3):Prop:=EnvS e.Binds/\e.Binds.map c4.Var=vs
def Comp.len {vs:List (List UInt8)} {a b:d3} (ha:Comp vs a) (hb:Comp vs b):a.Binds.length=b.Binds.length:=by
 have:=congrArg List.length (ha.2.trans hb.2.symm);simpa using this
def Comp.cmp {vs:List (List UInt8)} {a b:d3} (ha:Comp vs a) (hb:Comp vs b):a1C a.Binds b.Binds=bif q0 a b then -1 else bif q0 b a then 1 else 0:=
 b0O (fun x hx=>(ha.1.1 x hx).2) (fun x hx=>(hb.1.1 x hx).2) (ha.2.trans hb.2.symm)
def Comp.eq0 {vs:List (List UInt8)} {a b:d3} (ha:Comp vs a) (hb:Comp vs b) (h:(a1C a.Binds b.Binds==0)=true):a=b:=by
 rw [ha.cmp hb] at h;cases h1:q0 a b with
 | true=>rw [h1,V1] at h;exact absurd h (by decide)
 | false=>
   cases h2:q0 b a with
   | true=>rw [h1,h2,V3,V1] at h;exact absurd h (by decide)
   | false=>exact a0M.tri _ _ h1 h2
def Comp.ne0 {vs:List (List UInt8)} {a b:d3} (ha:Comp vs a) (hb:Comp vs b) (h:(a1C a.Binds b.Binds==0)=false):¬ a=b:=by
 rintro rfl;rw [ha.cmp hb,a0M.irr] at h;exact absurd h (by decide)
def Comp.lt1 {vs:List (List UInt8)} {a b:d3} (ha:Comp vs a) (hb:Comp vs b):(a1C a.Binds b.Binds==-1)=q0 a b:=by
 rw [ha.cmp hb];cases q0 a b with
 | true=>rfl
 | false=>cases q0 b a<;>rfl
def Comp.by {vs:List (List UInt8)} {a b:d3} (ha:Comp vs a) (hb:Comp vs b):decide (a1f a.Binds.length (b4E a.Binds b.Binds) < 0)=q0 a b:=by
 have h1:sgn (a1f a.Binds.length (b4E a.Binds b.Binds))=a1C a.Binds b.Binds:=b6i fun i hi=>a8k (ha.1.1 _ (z5 default hi)).2 (hb.1.1 _ (z5 default (by rw [<- ha.len hb];exact hi))).2
 rw [ha.cmp hb] at h1;generalize a1f a.Binds.length (b4E a.Binds b.Binds)=x at h1;unfold sgn at h1;cases h:q0 a b with
 | true=>rw [h,V1] at h1;exact V5 (by omega)
 | false=>
   rw [h,V3] at h1;cases h2:q0 b a with
   | true=>rw [h2,V1] at h1;exact V9 (by omega)
   | false=>rw [h2,V3] at h1;exact V9 (by omega)
def a9C (a:d3) (b:d3) (hpre:a.Binds.length=b.Binds.length):A0c Tryz.prog 222 [(true,[l9 a.Binds]),(true,[l9 b.Binds])] [] (.one (false,[.i .i64 (a1C a.Binds b.Binds)])):=by
 refine sx' false false none Tryz.func222 (q' 2 [ao (.box 1 (.t 0)),ao (.box 1 (.t 1)),aK 0] (.seq (q' 6 [aG 0 2,aN,aK 0] (.block 0 (.loop (q' 10 [ar 9 8] (.seq (.cond (.t 10) .skip (.exit 0)) (.seq (.block 1 (q' 11 [am 9,aV 5] (.seq (.seq (G' 12 [aG 0 2,am 5,aI 3,aF 1,aE 2,aG 0 3,am 5,aI 3,aF 1,aE 2,ac 223 [17,23]]) (.cond (.t 24) (q' 4 [ao (.mov (.k (.v false [.c (.i .i64 (-1))])))] .ret) .skip)) (.seq (G' 25 [aG 0 3,am 5,aI 3,aF 1,aE 2,aG 0 2,am 5,aI 3,aF 1,aE 2,ac 223 [30,36]]) (.cond (.t 37) (q' 4 [aK 1] .ret) .skip))))) (g' 38 [aA 9]))))))) (q' 4 [aK 0] .ret))) [.t 4] [(223,[],a1z)] ?_;intro hb hE;simp only [go_sem];repeat' first | apply cj' | intro hc | exact om' | fail
 refine lq' false [2,3,8] [4,6] [] (fun i:{i:Nat // i<=a.Binds.length/\∀ j,j < i->a4Q (a.Binds.getD j default).Val (b.Binds.getD j default).Val=0}=>[(9,slV (.i .i64 i.1))]) nl' nl' (fun i=>a.Binds.length - i.1) (⟨0,by simp⟩) ?_;intro S0 hS0 i;obtain ⟨i,hi,hz⟩:=i;simp only [go_sem,hS0];repeat' first | apply cj' | intro hc | exact om' | fail
 ·rw [a8g hz (by rw [a4Q,hc,V1];decide) (by omega),a4Q,hc];rfl
 ·rename_i h1;rw [a8g hz (by rw [a4Q,h1,hc];decide) (by omega),a4Q,h1,hc];rfl
 ·rename_i h1;exact nx0 ⟨i+1,by omega,fun j hj=>(q3C.1 hj).elim (hz j) (fun q=>q▸(by rw [a4Q,h1,hc];rfl))⟩
 ·rw [b6p fun j hj=>hz j (by omega)]
noncomputable def a3w:CT:=j9 (fun (x:d3×d3) h=>a9C x.1 x.2 h)
@[go_sem] def b8w:=fun x0 x1=>nm' (fP' a3w rfl (⟨x0⟩,⟨x1⟩))
def b3B (l:List d3) (e:d3) (hpre:l.length<=4000/\∃ vs,Comp vs e/\∀ x∈l,Comp vs x):A0c Tryz.prog 158 [(false,[b6B l]),(true,[l9 e.Binds])] [] (.one (false,[b6B (y7 q0 l e)])):=by
 refine sx' false true none Tryz.func158 (q' 3 [ao (.box 1 (.t 1)),ao (.mov (.k (.v false [.nl a0F])))] (q' 9 [ao (.bsl 1 0 [.sl f7] []),aV 5] (q' 0 [ab 6 false] (.seq (q' 10 [am 0,aN,aK 0] (.block 0 (.loop (q' 13 [ar 12 11] (.seq (.cond (.t 13) .skip (.exit 0)) (.seq (.block 1 (q' 14 [am 12,aV 7] (.seq (G' 15 [ae 1 3,aM [0,7],aI 1,aE 1,ac 222 [15,19],aV 8]) (.seq (q' 21 [am 8,ao (.bin .eql (.t 21) (k' 0))] (.cond (.t 22) (q' 23 [am 0,aV 4] .ret) .skip)) (.seq (q' 24 [am 6,ao (.not (.t 24)),am 25,au (.mov (.t 8)) 26 true,au (.bin .eql (.t 27) (.k (.v false [.c (.i .i64 (-1))]))) 26 true,ao (.pick (.t 26) (.t 28) (bb false))] (.cond (.t 29) (q' 30 [am 5,ae 1 3,ao (.bsl 1 1 [.sl f7] [(0,.t 31)]),ao (.app 1 24 [.sl f7] (.t 30) (.t 32)),aV 5] (g' 0 [ab 6 true])) .skip)) (g' 34 [aM [5,0,7],aI 1,aE 1,ao (.bsl 1 1 [.sl f7] [(0,.t 38)]),ao (.app 1 24 [.sl f7] (.t 34) (.t 39)),aV 5])))))) (g' 41 [aA 12]))))))) (.seq (q' 42 [am 6,ao (.not (.t 42))] (.cond (.t 43) (g' 44 [am 5,ae 1 3,ao (.bsl 1 1 [.sl f7] [(0,.t 45)]),ao (.app 1 24 [.sl f7] (.t 44) (.t 46)),aV 5]) .skip)) (q' 48 [am 5,aV 4] .ret)))))) [.t 4] [(222,[],a3w)] ?_;intro hb hE;obtain ⟨hlen,vs,he,hl0⟩:=hpre;simp only [go_sem];repeat' first | apply cj' | intro hc | exact om' | fail
 refine lk' false [(false,5,0,100010)] [0,3,11] [6] [] (fun i:{i:Nat // i<=l.length/\¬ e∈l.take i}=>[(5,.v false [.ow 100010]),(6,slV (.b ((l.take i.1).any (q0 e)))),(12,slV (.i .i64 i.1))]) nl' (fun i=>[(100010,a0F,(a0b q0 e (l.take i.1)).map (d3.cells false false))]) (fun i=>l.length - i.1) (⟨0,by simp⟩) ?_;intro S0 hS0 i;obtain ⟨i,hi,hm⟩:=i;have hl:=a9F q0 e (l.take i);rw [V4] at hl;have hC:=fun (h:i < l.length)=>hl0 _ (z5 (l:=l) default h)
 simp only [go_sem,hS0];repeat' first | apply cj' | intro hc | exact om' | fail
 ·exact he.len (hC (by omega))
 ·have hm2:e∈l:=by rw [he.eq0 (hC (by omega)) hc];exact z5 default (by omega)
  rw [y7,if_pos hm2]
 ·rename_i h0;have hx:=i6 (l:=l) default (i:=i) (by omega);have hn:¬ e∈l.take (i+1):=by rw [hx];simp only [W8,q0B];rintro (h | h);exact hm h;exact he.ne0 (hC (by omega)) h0 h
  have h5:q0 e (l.getD i default)=true:=by rw [<- he.lt1 (hC (by omega))];exact hc.2
  have h1:(l.take (i+1)).any (q0 e)=true:=by rw [hx,q1J,hc.1,q2C,h5];rfl
  have h2:a0b q0 e (l.take (i+1))=a0b q0 e (l.take i)++[e]++[l.getD i default]:=by rw [hx,a9E hc.1 h5]
  (refine lpK_n2 (⟨i+1,by omega,hn⟩) _ (by simp only [go_sem];try rfl) ?_;simp only [go_sem,hS0]<;>repeat' first | apply V7 | exact on' | fail)
  all_goals first | rw [h1] | rw [h2] | trace_state
 ·rename_i h0;have hx:=i6 (l:=l) default (i:=i) (by omega);have hn:¬ e∈l.take (i+1):=by rw [hx];simp only [W8,q0B];rintro (h | h);exact hm h;exact he.ne0 (hC (by omega)) h0 h
  have h3:(l.take (i+1)).any (q0 e)=(l.take i).any (q0 e)/\a0b q0 e (l.take (i+1))=a0b q0 e (l.take i)++[l.getD i default]:=by
   rw [hx];cases h:(l.take i).any (q0 e) with
   | true=>exact ⟨by rw [q1J,h];rfl,a6v h⟩
   | false=>
     rw [h,he.lt1 (hC (by omega))] at hc;have hc2:q0 e (l.getD i default)=false:=hc;exact ⟨by rw [q1J,h,q2C,hc2];rfl,b4R h hc2⟩
  (refine lpK_n2 (⟨i+1,by omega,hn⟩) _ (by simp only [go_sem];try rfl) ?_;simp only [go_sem,hS0]<;>repeat' first | apply V7 | exact on' | fail)
  all_goals first | rw [h3.1] | rw [h3.2] | trace_state
 ·rw [f8 (by omega)] at hc hm ⊢;rw [a6x hm hc]
 ·rw [f8 (by omega)] at hc hm ⊢;rw [a6w hm hc]
noncomputable def a5o:CT:=j9 (fun (x:(List d3)×d3) h=>b3B x.1 x.2 h)
@[go_sem] def c1v:=fun l x0=>nm' (fP' a5o rfl (l,⟨x0⟩))
def c1J (a:List d3) (hpre:a.length < 4611686018427387904/\∃ vs,∀ x∈a,Comp vs x):A0c Tryz.prog 185 [(false,[.sl true [.sl false [.s [],.i .i64 0,.s []] []] (a.map (d3.cells false false))]),(false,[.f 186 []])] [(0,(false,[.sl true [.sl false [.s [],.i .i64 0,.s []] []] ((a0k q0 a).map (d3.cells false false))]))] (.tup []):=by
 obtain ⟨hlen,vs,hd⟩:=hpre;exact b4d Tryz.sortEnv (by kernel_rfl) (k:=1) (fun w=>rfl) (fun w=>rfl) (cf:=d3.cells false false) (cb:=d3.cells false false) (z:=[.sl false [.s [],.i .i64 0,.s []] []]) rfl (fun x=>by simp only [go_sem]) (fun _=>rfl) (dom:=Comp vs) (fun x y=>a1f x.Binds.length (b4E x.Binds y.Binds)) a0M (fun x y hx hy=>hx.by hy) (enters_of Tryz.func186 (by kernel_rfl) rfl) (fun x y hx hy=>a6y x y (hx.len hy)) a hd hlen
noncomputable def b3O:CT:=j9 (fun (x:(List d3)) h=>c1J x h)
@[go_sem] def c4l:=fun a=>nm' (fP' b3O rfl a)
def a4I {r:c8} {s:d5} {l:List d3} {i:Nat} (h:i < l.length):a2B r s (l.take (i+1))=a2B r s (l.take i)++(bif a2l r s (eqE r (l.getD i default)) then [eqE r (l.getD i default)] else []):=by
 rw [a2B,a2B,i6 default h,q2H,List.filter_append]
 congr 1
 all_goals (simp only [q0M,q2V,q5C,List.filter_nil];cases a2l r s (eqE r (l.getD i default))<;>rfl)
def a2Q {r:c8} {s:d5} (hr:i5 r=true) (hs:m8 s=true):(z6 r s).1.length<=2000/\(∀ e∈(z6 r s).1,e.Binds.length<=100/\EnvS e.Binds/\∀ l∈r.Body,Rooted s e l)/\∃ vs,∀ e∈a2B r s (z6 r s).1,Comp vs e:=by
 rw [z6];cases h:y6 r s r.Body.length with
 | none=>exact ⟨by simp,by simp,[],by simp [a2B]⟩
 | some l=>
   have hJ:=Jn.all hr hs (V8 _) h;have h8:=body8 hr;obtain ⟨vs,ha⟩:=hJ.alk;obtain ⟨ws,hb⟩:=b6P (s:=s) hr ha;refine ⟨a7B h,fun e he=>⟨by have:=hJ.len e he;omega,ha.ok e he,fun x hx=>?_⟩,ws,fun e he=>⟨hb.ok e he,hb.dom e he⟩⟩;obtain ⟨i,hi,rfl⟩:=q3X hx;have:=hJ.root e he i hi
   rwa [l4 default hi] at this
def b8H {r:c8} {s:d5} (hr:i5 r=true) (hs:m8 s=true):(a2B r s (z6 r s).1).Nodup:=by
 rw [z6];cases h:y6 r s r.Body.length with
 | none=>simp [a2B]
 | some l=>
   obtain ⟨vs,ha⟩:=(Jn.all hr hs (V8 _) h).alk;obtain ⟨ws,hb⟩:=b6P (s:=s) hr ha;exact hb.nd
def c1U {l:List d3} (h:l.Nodup):a0k q0 l=k7 q0 [] l:=by
 refine SS.uniq a0M (SS.of_sorted a0M (a2U a0M l) ((a0d q0 l).nodup_iff.2 h)) (SS.puts a0M SS.nil) fun x=>?_
 rw [a7Q,p9];simp
def b2U (r:c8) (s:d5) (hpre:i5 r=true/\m8 s=true):A0c Tryz.prog 106 [(true,[.i .i64 r.Kind,.s r.Head.Name,i7 r.Head.Args,u5 r.Body]),(true,[o9 s.Rels])] [] (.tup [(false,[kTEnv ((j8 r s).1)]),(false,[.b ((j8 r s).2)])]):=by
 refine sx' false false none Tryz.func106 (q' 2 [ao (.box 4 (.t 0)),ao (.box 1 (.t 1)),ao (.mov (.k (.v false [.nl a0F]))),ao (.mov (bb false))] (q' 12 [ae 4 2,ae 1 3,ac 182 [12,13],aV 11,ao (.ext (.t 11) 0),ao (.ext (.t 11) 1),av 6 15,aV 7] (.seq (q' 17 [am 7,ao (.not (.t 17))] (.cond (.t 18) (q' 0 [ax (o' 4 (.mov (.k (.v false [.nl a0F])))),ab 5 false] .ret) .skip)) (q' 19 [ao (.bsl 1 0 [.sl f7] []),aV 8] (.seq (q' 20 [am 6,aN,aK 0] (.block 0 (.loop (q' 23 [ar 22 21] (.seq (.cond (.t 23) .skip (.exit 0)) (.seq (.block 1 (q' 24 [ai 1 20 22,aE 1,ax (w' 10 [.sl f7]),aS 1 10 25] (q' 26 [ae 4 2,ae 1 10,ac 183 [26,27],aS 1 10 28] (q' 29 [ae 4 2,ae 1 3,ae 1 10,ac 184 [29,30,31]] (.cond (.t 32) (g' 33 [am 8,ae 1 10,ao (.bsl 1 1 [.sl f7] [(0,.t 34)]),ao (.app 1 24 [.sl f7] (.t 33) (.t 35)),aV 8]) .skip))))) (g' 37 [aA 22]))))))) (q' 38 [am 8,ao (.call 185 [.t 38,.k (.v false [.c (.f 186 [])])])] (q' 40 [am 8,aV 4,ab 5 true] .ret))))))) [.t 4,.t 5] [(182,[],a4W),(183,[],a2X),(184,[],a6a),(185,[0],b3O)] ?_;intro hb hE;have hpre0:=hpre;obtain ⟨hr,hs⟩:=hpre;obtain ⟨hl,hf,vs,hv⟩:=a2Q hr hs;have hnd:=b8H hr hs;simp only [go_sem];repeat' first | apply cj' | intro hc | exact om' | fail
 ·rw [j8,hc];exact ⟨rfl,rfl⟩
 refine lk' false [(false,8,0,100016)] [2,3,20,21] [4,6] [1792] (fun i:{i:Nat // i<=(z6 r s).1.length}=>[(8,.v false [.ow 100016]),(22,slV (.i .i64 i.1))]) nl' (fun i=>[(100016,a0F,(a2B r s ((z6 r s).1.take i.1)).map (d3.cells false false))]) (fun i=>(z6 r s).1.length - i.1) (⟨0,by simp⟩) ?_;intro S0 hS0 i;obtain ⟨i,hi⟩:=i;have hol:=a6G r s ((z6 r s).1.take i);rw [V4] at hol;have hm:=fun (h:i < (z6 r s).1.length)=>hf _ (z5 default h)
 simp only [go_sem,hS0];repeat' first | apply cj' | intro hc | exact om' | fail
 ·exact ⟨⟨hr,hs⟩,c3r hr (hm (by omega)).2.1⟩
 ·(refine lpK_n2 (⟨i+1,by omega⟩) _ (by simp only [go_sem];try rfl) ?_;simp only [go_sem,hS0]<;>repeat' first | apply V7 | exact on' | fail)
  all_goals (rw [a4I (by omega),hc];rfl)
 ·(refine lpK_n2 (⟨i+1,by omega⟩) _ (by simp only [go_sem];try rfl) ?_;simp only [go_sem,hS0]<;>repeat' first | apply V7 | exact on' | fail)
  all_goals (rw [a4I (by omega),hc];simp)
 ·rw [f8 (by omega)];exact ⟨by have:=a6G r s (z6 r s).1;omega,vs,hv⟩
 ·rename_i h1;rw [f8 (by omega),c1U hnd,j8,h1];exact ⟨rfl,rfl⟩
noncomputable def a4V:CT:=j9 (fun (x:c8×d5) h=>b2U x.1 x.2 h)
@[go_sem] def c0N:=fun x0 x1 x2 x3 x4=>nm' (fP' a4V rfl (⟨x0,⟨x1,x2⟩,x3⟩,⟨x4⟩))
def c3L {vs:List (List UInt8)}:∀ {l a:List d3},(∀ x∈a,Comp vs x)->(∀ x∈l,Comp vs x)->∀ x∈k7 q0 a l,Comp vs x:=fun {l a} h1 h2 x hx=>(p9.1 hx).elim (h1 x) (h2 x)
def b0Y {r:c8} {s:d5} {e:d3} (hr:i5 r=true) (h:∀ l∈r.Body,Rooted s e l):a4v r s (eqE r e)=a2l r s (eqE r e):=
 c3u hr fun l hl=>(h l hl).ext (b4J r e.Binds)
def c3H {r:c8} {s:d5} {l:List d3} {i:Nat} {x:d3} (h:x∈a2B r s (l.take i)):x∈a2B r s l:=by
 rw [a2B,q1V,q0U] at h ⊢;obtain ⟨⟨e,he,hx⟩,h2⟩:=h;exact ⟨⟨e,q2G he,hx⟩,h2⟩
def b8O (a l:List d3) (e:d3):k7 q0 a (l++[e])=y7 q0 (k7 q0 a l) e:=by
 simp only [k7,q4K,q3T,List.foldl_nil]
def a7M (r:c8) (s:d5) (hpre:i5 r=true/\m8 s=true):A0c Tryz.prog 89 [(true,[.i .i64 r.Kind,.s r.Head.Name,i7 r.Head.Args,u5 r.Body]),(true,[o9 s.Rels])] [] (.tup [(false,[b6B ((j8 r s).1)]),(false,[.b ((j8 r s).2)])]):=by
 refine sx' false true none Tryz.func89 (q' 2 [ao (.box 4 (.t 0)),ao (.box 1 (.t 1)),ao (.mov (.k (.v false [.nl a0F]))),ao (.mov (bb false))] (q' 19 [ao (.bld [.sl f7] []),ao (.bsl 1 1 [.sl f7] [(0,.t 19)]),aV 6] (.seq (q' 21 [aG 3 2,aN,aK 0] (.block 0 (.loop (q' 25 [ar 24 23] (.seq (.cond (.t 25) .skip (.exit 0)) (.seq (.block 1 (q' 26 [am 24,aV 7] (q' 27 [aG 3 2,am 7,aI 10,aE 10,ax (w' 8 [.i .i64,.s,.sl f7,.i .i64,.s,.i .i64,.s,.s,.i .i64,.s]),aS 10 8 31] (.seq (q' 32 [aG 0 8,ao (.bin .neq (.t 33) (k' 1))] (.cond (.t 34) (.exit 1) .skip)) (q' 36 [ae 1 3,af 1 8,aG 0 37,ac 154 [36,39],aV 35,ao (.ext (.t 35) 0),ao (.ext (.t 35) 1),ax (w' 9 [.i .i64,.sl o6]),aS 2 9 41,aV 10] (q' 43 [ao (.bsl 1 0 [.sl f7] []),aV 11] (.seq (q' 44 [am 6,aN,aK 0] (.block 2 (.loop (q' 47 [ar 46 45] (.seq (.cond (.t 47) .skip (.exit 2)) (.seq (.block 3 (q' 48 [am 46,aV 12] (.seq (q' 49 [aG 1 9,aN,aK 0] (.block 4 (.loop (q' 53 [ar 52 51] (.seq (.cond (.t 53) .skip (.exit 4)) (.seq (.block 5 (q' 54 [am 52,aV 13] (.seq (rm' [(true,0,m' 56 6),(true,1,m' 57 12),(true,2,i' 58 1 56 57),(true,3,e' 59 1 58),(true,4,f' 60 1 8),(true,5, f' 61 1 60),(true,6,l' 62 61),(true,7,f' 63 1 9),(true,8,l' 64 63),(true,9,m' 65 13),(true,10,i' 66 1 64 65),(true,11,e' 67 1 66),(false, 12,c' 68 155 [59,62,67]),(false,13,m' 55 68),(false,14,o' 69 (.ext (.t 55) 0)),(false,15,o' 70 (.ext (.t 55) 1)),(false,16,w' 14 [.sl f7]),(false,17,s' 1 14 69),(false,18,m' 15 70)] [[0,1,2,3,4,5,6,7,8,9,10,11,12,13,14,16,15,17,18],[0,1,2,3,4,5, 6,7,8,9,10,11,12,13,14,16,17,15,18],[0,1,2,3,4,5,6,7,8,9,10,11,12,13,15,14,16,17,18],[0,1,2,3,4,5,6,7,8,9,10,11, 12,13,15,16,14,17,18],[0,1,2,3,4,5,6,7,8,9,10,11,12,13,16,14,15,17,18],[0,1,2,3,4,5,6,7,8,9,10,11,12,13,16,14,17, 15,18],[0,1,2,3,4,5,6,7,8,9,10,11,12,13,16,15,14,17,18],[0,1,2,3,4,5,6,7,8,9,10,11,12,16,13,14,15,17,18],[0,1,2,3, 4,5,6,7,8,9,10,11,12,16,13,14,17,15,18],[0,1,2,3,4,5,6,7,8,9,10,11,12,16,13,15,14,17,18],[0,1,2,3,4,5,6,7,8,9,10, 11,16,12,13,14,15,17,18],[0,1,2,3,4,5,6,7,8,9,10,11,16,12,13,14,17,15,18],[0,1,2,3,4,5,6,7,8,9,10,11,16,12,13,15, 14,17,18]] [16,17,18,19]) (q' 71 [am 15] (.cond (.t 71) (g' 72 [am 11,ae 1 14,ao (.bsl 1 1 [.sl f7] [(0,.t 73)]),ao (.app 1 24 [.sl f7] (.t 72) (.t 74)),aV 11]) .skip))))) (g' 76 [aA 52]))))))) (q' 77 [am 11,aN,ao (.bin .gtr (.t 78) (k' 2000))] (.cond (.t 79) (q' 0 [ax (o' 4 (.mov (.k (.v false [.nl a0F])))),ab 5 false] .ret) .skip))))) (g' 80 [aA 46]))))))) (g' 81 [am 11,aV 6])))))))) (g' 82 [aA 24]))))))) (q' 83 [ao (.bsl 1 0 [.sl f7] []),aV 16] (.seq (q' 84 [am 6,aN,aK 0] (.block 6 (.loop (q' 87 [ar 86 85] (.seq (.cond (.t 87) .skip (.exit 6)) (.seq (.block 7 (q' 88 [am 86,aV 17] (.seq (rm' [(true,0,e' 89 4 2),(true,1,m' 90 6),(true,2,m' 91 17), (true,3,i' 92 1 90 91),(true,4,e' 93 1 92),(false,5,c' 94 156 [89,93]),(false,6,w' 18 [.sl f7]),(false,7,s' 1 18 94)] [[0,1,2,3,4,6,5,7]] [4,5]) (q' 95 [ae 4 2,ae 1 3,ae 1 18,ac 157 [95,96,97]] (.cond (.t 98) (g' 99 [am 16,ae 1 18,ac 158 [99,100],aV 16]) .skip))))) (g' 102 [aA 86]))))))) (q' 103 [am 16,aV 4,ab 5 true] .ret)))))) [.t 4,.t 5] [(154,[],a2j),(155,[],a3r),(156,[],a3t),(157,[],a3v),(158,[],a5o)] ?_;intro hb hE;obtain ⟨hr,hs⟩:=hpre;have hb8:=body8 hr;simp only [go_sem];(repeat' first | apply cj' | intro hc | apply a3H);(all_goals (try (refine (show A3E _ _ _ _ _ _ from ?_);simp only [go_sem] at hc ⊢;simp only [go_sem,A7d,A7h,A6v,A6u,A7c,A6t,nf_put_sub,A7f,A7e,nf_put_susK,nf_put_dip,nf_put_put,A7g,A7b,A6w,y3,w8,w6,w7,w9,nf_sub_sub] at hc ⊢;simp only [hc,q2L,q1D];done)));all_goals try exact om'
 refine lk' false [(false,6,0,100012)] [2,3,23] [4,6,17,19,5] [] (fun i:{q:Nat×List d3 // q.1<=r.Body.length/\y6 r s q.1=some q.2}=>[(6,.v false [.ow 100012]),(24,slV (.i .i64 i.1.1))]) nl' (fun i=>[(100012,a0F,i.1.2.map (d3.cells false false))]) (fun i=>r.Body.length - i.1.1) (⟨(0,[⟨[]⟩]),by simp,rfl⟩) ?_;intro S0 hS0 i;obtain ⟨⟨n,now⟩,hn,hj⟩:=i;simp only at hn hj;have hJ:=Jn.all hr hs hn hj;have hl:=a7B hj;have hR:=a4J hs (r.Body.getD n default).Atom.Name;have hRl:=a7R hR;have hRe:(arR r s n).length=(v8 s (r.Body.getD n default).Atom.Name).1.Rows.length:=rfl;simp only [go_sem,hS0];(repeat' first | apply cj' | intro hc | apply a3H);(all_goals (try (refine (show A3E _ _ _ _ _ _ from ?_);simp only [go_sem,hS0] at hc ⊢;simp only [go_sem,hS0,A7d,A7h,A6v,A6u,A7c,A6t,nf_put_sub,A7f,A7e,nf_put_susK,nf_put_dip,nf_put_put,A7g,A7b,A6w,y3,w8,w6,w7,w9,nf_sub_sub] at hc ⊢;simp only [hc,q2L,q1D];done)));all_goals try exact om'
 ·exact nk0 ⟨(n+1,now),by simp only;omega,b1d hj (by simpa [bne] using hc)⟩
 ·have hk:((r.Body.getD n default).Kind==1)=true:=by simpa [bne] using hc
  refine a7t 100012 ?_;refine lk' false [(false,11,0,100022)] [2,3,6,8,9,23,24,45] [4,6,16,18,17,19,5] [] (fun i:{j:Nat // j<=now.length/\(m7 (arA r n) (arR r s n) (now.take j)).length<=2000}=>[(11,.v false [.ow 100022]),(46,slV (.i .i64 i.1))]) nl' (fun i=>[(100022,a0F,(m7 (arA r n) (arR r s n) (now.take i.1)).map (d3.cells false false))]) (fun i=>now.length - i.1) (⟨0,by simp,by simp [m7]⟩) ?_;intro S1 hS1 i;obtain ⟨j,hj1,hj2⟩:=i;simp only [go_sem,hS0,hS1];(repeat' first | apply cj' | intro hc | apply a3H);(all_goals (try (refine (show A3E _ _ _ _ _ _ from ?_);simp only [go_sem,hS0,hS1] at hc ⊢;simp only [go_sem,hS0,hS1,A7d,A7h,A6v,A6u,A7c,A6t,nf_put_sub,A7f,A7e,nf_put_susK,nf_put_dip,nf_put_put,A7g,A7b,A6w,y3,w8,w6,w7,w9,nf_sub_sub] at hc ⊢;simp only [hc,q2L,q1D];done)));all_goals try exact om'
  ·have hm:=z5 (l:=now) default (i:=j) (by omega);have he6:=hJ.len _ hm;have hall:=b5Q (A:=arA r n) (R:=arR r s n) (now:=now) (j:=j) (by omega);refine lk' false [(false,11,0,100022)] [2,3,6,8,9,12,23,24,45,46,51] [4,6,16,18,17,19,5] [] (fun i:{k:Nat // k<=(arR r s n).length}=>[(11,.v false [.ow 100022]),(52,slV (.i .i64 i.1))]) nl' (fun i=>[(100022,a0F,(a8U (arA r n) (now.getD j default) (arR r s n) (m7 (arA r n) (arR r s n) (now.take j)) i.1).map (d3.cells false false))]) (fun i=>(arR r s n).length - i.1) (⟨0,by simp⟩) ?_;intro S2 hS2 i;obtain ⟨k,hk1⟩:=i;have hlk:=b5R (A:=arA r n) (e:=now.getD j default) (R:=arR r s n) (base:=m7 (arA r n) (arR r s n) (now.take j)) hk1;simp only [go_sem,hS0,hS1,hS2];(repeat' first | apply cj' | intro hc | apply a3H);(all_goals (try ((first | refine b4r 12 rfl ?_);intro S hS B0 hB;simp only [go_sem,hS0,hS1,hS2,q0V,q1Y] at hS hB;(repeat (first | replace hS:=And.right hS | replace hS:=CJ.r hS));have Rr59:=congrArg (fun s:St=>s.sl 59) hS;have Rr62:=congrArg (fun s:St=>s.sl 62) hS;have Rr67:=congrArg (fun s:St=>s.sl 67) hS;have Rb16:=congrArg (fun s:St=>s.bx 16) hS;have Rb17:=congrArg (fun s:St=>s.bx 17) hS;have Rb18:=congrArg (fun s:St=>s.bx 18) hS;have Rb19:=congrArg (fun s:St=>s.bx 19) hS;clear hS;simp only [go_sem,hS0,hS1,hS2] at Rr59 Rr62 Rr67 Rb16 Rb17 Rb18 Rb19;(try clear hc);intro K hc;simp only [go_sem,hS0,hS1,hS2,Rr59,Rr62,Rr67,Rb16,Rb17,Rb18,Rb19,hB,q0M,q2V,q0W,q1S] at hc ⊢;simp only [go_sem,hS0,hS1,hS2,Rr59,Rr62,Rr67,Rb16,Rb17,Rb18,Rb19,hB,A7d,A7h,A6v,A6u,A7c,A6t,nf_put_sub,A7f,A7e,nf_put_susK,nf_put_dip,nf_put_put,A7g,A7b,A6w,y3,w8,w6,w7,w9,nf_sub_sub] at hc ⊢;simp only [hc,q2L,q1D];done)));all_goals try exact om'
   ·exact ⟨by omega,b6R hR (by omega)⟩
   ·(refine lpK_n2 (⟨k+1,by omega⟩) _ (by simp only [go_sem,hS0,hS1];try rfl) ?_;simp only [go_sem,hS0,hS1,hS2]<;>repeat' first | apply V7 | exact on' | fail)
    all_goals (rw [a8U,b0T hc];rfl)
   ·(refine lpK_n2 (⟨k+1,by omega⟩) _ (by simp only [go_sem,hS0,hS1];try rfl) ?_;simp only [go_sem,hS0,hS1,hS2]<;>repeat' first | apply V7 | exact on' | fail)
    all_goals (rw [a8U,b4M hc];simp)
   ·obtain rfl:k=(arR r s n).length:=by omega
    rw [hall] at hc;rw [j8,b3S hj (by omega) hk (j:=j+1) (show 2000 < (m7 (arA r n) (arR r s n) (now.take (j+1))).length by omega)];exact ⟨rfl,rfl⟩
   ·obtain rfl:k=(arR r s n).length:=by omega
    rw [hall] at hc
    (refine lpK_n2 (⟨j+1,by omega,by omega⟩) _ (by simp only [go_sem,hS0,hS1];try rfl) ?_;simp only [go_sem,hS0,hS1,hS2]<;>repeat' first | apply V7 | exact on' | fail)
    all_goals rw [hall]
  ·rw [f8 (by omega)] at hj2
   (refine lpK_n2 (⟨(n+1,m7 (arA r n) (arR r s n) now),by simp only;omega,b6z hj hk hj2⟩) _ (by simp only [go_sem,hS0,hS1];try rfl) ?_;simp only [go_sem,hS0,hS1]<;>repeat' first | apply V7 | exact on' | fail)
   all_goals rw [f8 (by omega)]
 obtain rfl:n=r.Body.length:=by omega
 have hJR:=b6A hj;obtain ⟨_,hf,vs,hv⟩:=a2Q hr hs;rw [hJR] at hf hv;simp only at hf hv;refine a7t 100012 ?_;refine a7t 10624 ?_;refine lq' false [2,3,6,85] [4,6,5] [] (fun i:{i:Nat // i<=now.length}=>[(16,.v false [.c (b6B (k7 q0 [] (a2B r s (now.take i.1))))]),(86,slV (.i .i64 i.1))]) nl' nl' (fun i=>now.length - i.1) (⟨0,by simp⟩) ?_;intro S3 hS3 i;obtain ⟨i,hi⟩:=i;have hol:=a6G r s (now.take i);rw [V4] at hol;have hpl:=a0n q0 (a2B r s (now.take i)) [];have hm:=fun (h:i < now.length)=>hf _ (z5 default h)
 have hsub:∀ k,∀ x∈a2B r s (now.take k),Comp vs x:=fun k x hx=>hv x (c3H hx)
 have hsy:=fun (h:i < now.length) (hc:a4v r s (eqE r (now.getD i default))=true)=>(a4I (r:=r) (s:=s) h).trans (by rw [(b0Y hr (hm h).2.2).symm,hc,V1])
 have hsn:=fun (h:i < now.length) (hc:a4v r s (eqE r (now.getD i default))=false)=>(a4I (r:=r) (s:=s) h).trans (by rw [(b0Y hr (hm h).2.2).symm,hc,V3,q0E])
 simp only [go_sem,hS0,hS3];(repeat' first | apply cj' | intro hc | apply a3H);(all_goals (try ((first | refine b4r 5 rfl ?_);intro S hS B0 hB;simp only [go_sem,hS0,hS3,q0V,q1Y] at hS hB;(repeat (first | replace hS:=And.right hS | replace hS:=CJ.r hS));have Rr89:=congrArg (fun s:St=>s.sl 89) hS;have Rr93:=congrArg (fun s:St=>s.sl 93) hS;have Rb4:=congrArg (fun s:St=>s.bx 4) hS;have Rb5:=congrArg (fun s:St=>s.bx 5) hS;clear hS;simp only [go_sem,hS0,hS3] at Rr89 Rr93 Rb4 Rb5;(try clear hc);intro K hc;simp only [go_sem,hS0,hS3,Rr89,Rr93,Rb4,Rb5,hB,q0M,q2V,q0W,q1S] at hc ⊢;simp only [go_sem,hS0,hS3,Rr89,Rr93,Rb4,Rb5,hB,A7d,A7h,A6v,A6u,A7c,A6t,nf_put_sub,A7f,A7e,nf_put_susK,nf_put_dip,nf_put_put,A7g,A7b,A6w,y3,w8,w6,w7,w9,nf_sub_sub] at hc ⊢;simp only [hc,q2L,q1D];done)));all_goals try exact om'
 ·have h1:=hsy (by omega) hc;refine ⟨by simp only [q1U] at hpl;omega,vs,hsub (i+1) _ (by rw [h1];simp),c3L (by intro x hx;cases hx) (hsub i)⟩
 ·have h1:=hsy (by omega) hc
  (refine lpK_n2 (⟨i+1,by omega⟩) _ rfl ?_;simp only [go_sem,hS0,hS3]<;>repeat' first | apply V7 | exact on' | fail)
  all_goals rw [h1,b8O]
 ·have h1:=hsn (by omega) hc
  (refine lpK_n2 (⟨i+1,by omega⟩) _ rfl ?_;simp only [go_sem,hS0,hS3]<;>repeat' first | apply V7 | exact on' | fail)
  all_goals rw [h1]
 ·rw [f8 (by omega),j8,hJR];exact ⟨rfl,rfl⟩
noncomputable def a0L:CT:=j9 (fun (x:c8×d5) h=>a7M x.1 x.2 h)
@[go_sem] def b7p:=fun x0 x1 x2 x3 x4=>nm' (fP' a0L rfl (⟨x0,⟨x1,x2⟩,x3⟩,⟨x4⟩))
end Go.Aw
namespace Go.Aw
open Go.Proofs
attribute [local irreducible] aft blk lpK retK AW A0c
set_option linter.all false
set_option maxRecDepth 100000
set_option maxHeartbeats 4000000
attribute [local irreducible] RM
def a3L {r:c8} {s:d5} (hr:i5 r=true) (hs:m8 s=true):(j8 r s).1.length<=2000/\∀ e∈(j8 r s).1,e.Binds.length<=164:=by
 obtain ⟨hl,hf,_⟩:=a2Q hr hs;rw [j8];cases (z6 r s).2 with
 | false=>exact ⟨q2S _,by intro e he;cases he⟩
 | true=>
   rw [V1];refine ⟨?_,fun e he=>?_⟩
   ·have h1:=a0n q0 (a2B r s (z6 r s).1) [];have h2:=a6G r s (z6 r s).1;simp only [q1U] at h1;simp only;omega
   ·have h1:=(p9.1 he).resolve_left (by intro h;cases h);rw [a2B,q1V,q0U] at h1;obtain ⟨⟨e',he',rfl⟩,_⟩:=h1;have h3:=(hf e' he').1;have h4:=eqR_len r e'.Binds;have h5:=a1s hr;simp only [eqE];omega
noncomputable def a3M (r:c8) (s:d5):List d3×Bool:=bif i5 r&&(!decide (0 < ((a1l r).length:Int))&&m8 s) then j8 r s else ([],false)
def b5V {r:c8} {s:d5} (h:(i5 r=false\/0 < ((a1l r).length:Int))\/m8 s=false):a3M r s=([],false):=by
 have:(i5 r&&(!decide (0 < ((a1l r).length:Int))&&m8 s))=false:=by
  rcases h with (h | h) | h
  ·rw [h];rfl
  ·rw [V5 h];simp
  ·rw [h];simp
 rw [a3M,this,V3]
def b3K {r:c8} {s:d5} (h:(i5 r=true/\¬0 < ((a1l r).length:Int))/\m8 s=true):a3M r s=j8 r s:=by
 rw [a3M,h.1.1,h.2,V9 h.1.2];rfl
def b3q (r:c8) (s:d5):A0c Tryz.prog 40 [(true,[.i .i64 r.Kind,.s r.Head.Name,i7 r.Head.Args,u5 r.Body]),(true,[o9 s.Rels])] [] (.tup [(false,[b6B ((a3M r s).1)]),(false,[.b ((a3M r s).2)])]):=by
 refine sx' false true none Tryz.func40 (q' 2 [ao (.box 4 (.t 0)),ao (.box 1 (.t 1)),ao (.mov (.k (.v false [.nl a0F]))),ao (.mov (bb false))] (.seq (q' 6 [ae 4 2,ac 86 [6],ao (.not (.t 7)),am 8,au (.ld true 4 (.t 2)) 9 false,au (.call 87 [.t 10]) 9 false,au (.len (.t 11)) 9 false,au (.bin .gtr (.t 12) (k' 0)) 9 false,ao (.pick (.t 9) (bb true) (.t 13)),am 14,au (.ld true 1 (.t 3)) 15 false,au (.call 88 [.t 16]) 15 false,au (.not (.t 17)) 15 false,ao (.pick (.t 15) (bb true) (.t 18))] (.cond (.t 19) (q' 0 [ax (o' 4 (.mov (.k (.v false [.nl a0F])))),ab 5 false] .ret) .skip)) (q' 20 [ae 4 2,ae 1 3,ac 89 [20,21],ao (.ext (.t 22) 0),ao (.ext (.t 22) 1),av 4 23,aV 5] .ret))) [.t 4,.t 5] [(86,[],a0g),(87,[],a2t),(88,[],a4m),(89,[],a0L)] ?_;intro hb hE;simp only [go_sem];repeat' first | apply cj' | intro hc | exact om' | fail
 ·rw [b5V hc];exact ⟨rfl,rfl⟩
 ·exact ⟨hc.1.1,hc.2⟩
 ·rw [b3K hc];exact ⟨rfl,rfl⟩
noncomputable def a5i:CT:=j4 (fun (x:c8×d5)=>b3q x.1 x.2)
@[go_sem] def c1j:=fun x0 x1 x2 x3 x4=>nm' (fQ' a5i rfl (⟨x0,⟨x1,x2⟩,x3⟩,⟨x4⟩))
end Go.Aw
namespace Go.Aw
open Go.Proofs Go.Shelf Go.Sort Go.Lib Go.RowKit
set_option linter.all false
set_option maxRecDepth 1000000
set_option maxHeartbeats 4000000
def b6m (a:Option Addr) (cap:Nat) (g:Nat) (w:World):Calls Tryz.prog 189 #[.slice a 0 cap,.func (.func g) #[] #[]] w fun e w'=>e=.returned (.slice a 0 cap)/\w' = w:=by
 have h1:((0:Nat):Int) < 2:=by omega
 go_enter Tryz.func189,Tryz.ntmps189
 go_wp2
 go_ret
 exact ⟨rfl,rfl⟩
def b8B {α:Type} [Inhabited α] (k:Nat) (zE:∀ w,(Go.sizeOf 117).run Tryz.prog w=.ok k w) (z:Value) (hzv:∀ w,(zeroValue 117).run Tryz.prog w=.ok z w) (hzs:z.cells.size=k) (hz1:∀ n,∀ v∈(Builtin.zeroCells z.cells n).toList,v.oneCell' = true) (enc:α->List Value) (hk:∀ x,(enc x).length=k) (h1:∀ x,∀ v∈enc x,v.oneCell' = true) (eq:α->α->Bool) (g:Nat) (eg:∀ args w,(callFunc g args).run Tryz.prog w=.ok (.enter g args) w)
  (blk off cap:Nat) (d:Array α) (w:World) (hq:b4j Tryz.prog g enc k eq blk off d.size w) (hH:HoldsK enc k w blk off d) (hblk:blk < w.heap.size) (hcap:d.size<=cap) (hsz:d.size < 4611686018427387904):
  Calls Tryz.prog 189 #[.slice (some ⟨blk,off,none⟩) d.size cap,.func (.func g) #[] #[]] w fun e w'=>e=.returned (.slice (some ⟨blk,off,none⟩) (keptUpTo (kpE eq d) d d.size).length cap)/\b4i enc k w blk off d (kpE eq d) w':=by
 have u0:=run_underlying Tryz.underlying33;have mixed:Tryz.prog.follows Departure.mixedOrders=true:=by kernel_rfl
 have aE:∀ w,(isAgg 117).run Tryz.prog w=.ok true w:=fun w=>rfl
 have R:RowK enc k w blk off d:=⟨hk,h1,hH,hblk⟩
 obtain ⟨kp,HK⟩:∃ kp:Nat->Bool,Hid (kp=kpE eq d):=⟨_,rfl⟩
 rw [show kpE eq d=kp from HK.out.symm];have same:∀ W,SWK enc k w blk off d W->(∀ j,j < d.size->kp j=true)->(keptUpTo kp d d.size).length=d.size/\b4i enc k w blk off d kp W:=by
  rintro W ⟨n,os,rfl⟩ hall;have e:keptUpTo kp d d.size=d.toList:=by rw [keptUpTo_all kp d _ hall,range_map_get]
  unfold b4i;rw [e];refine ⟨by simp,n,os,d,[],rfl,fun j hj=>?_,by simp,rfl⟩;have hj':j < d.size:=by simpa using hj
  rw [getElem!_pos d j hj',V2 hj];simp
 have hz0:∀ j,j < 1->kp j=true:=fun j hj=>by
  obtain rfl:j=0:=by omega
  rw [HK.out];simp [kpE]
 have HZ:Aside (∀ w,(zeroValue 117).run Tryz.prog w=.ok z w):=hzv;have HZ1:Aside (∀ n,∀ v∈(Builtin.zeroCells z.cells n).toList,v.oneCell' = true):=hz1;have HZS:Aside (z.cells.size=k):=hzs;clear hzv hz1 hzs;have HS:Aside _:=same;have HC:Aside _:=hq;have HR:Aside _:=R;clear same hq R hH hblk hk h1;by_cases h2:d.size < 2
 ·have h2z:(d.size:Int) < 2:=by omega
  go_enter Tryz.func189,Tryz.ntmps189
  go_wp2
  go_ret
  obtain ⟨e1,e2⟩:=HS.out w (SWK.start HR.out.hH) (fun j hj=>hz0 j (by omega));exact ⟨by rw [e1];rfl,e2⟩
 ·have h2z:¬ (d.size:Int) < 2:=by omega
  go_enter Tryz.func189,Tryz.ntmps189
  go_wp2
  go_loopg [5] d.size (fun gg s5 wr=>∃ kk:Nat,1<=kk/\kk<=d.size/\d.size - kk<=gg/\s5=.int .i64 kk/\Aside (SWK enc k w blk off d wr)/\Aside (∀ j,j < kk->kp j=true))
  case atStart=>exact ⟨1,V8 _,by omega,by omega,rfl,SWK.start HR.out.hH,hz0⟩
  case round=>
   obtain ⟨kk,hk1,hkd,hg,rfl,SW,A⟩:=hrel;by_cases hlt:kk < d.size
   ·have hltz:(kk:Int) < (d.size:Int):=by omega
    obtain ⟨kq,rfl⟩:∃ kq,kk=kq+1:=⟨kk - 1,by omega⟩
    have hwp:IntKind.i64.wrap (kq:Int)=(kq:Int):=by rw [IntKind.wrap_i64];omega
    have jz:(kq:Int)+1 < (d.size:Int):=by omega
    have jz1:(kq:Int) < (d.size:Int):=by omega
    have p0:(0:Int)<=(kq:Int)+1:=by omega
    have e0:((kq:Int)+1).toNat=kq+1:=by omega
    have lj:=SW.out.ld HR.out rfl Tryz.prog (kq+1) hlt;have lp:=SW.out.ld HR.out rfl Tryz.prog kq (by omega);have hcg:=c2S SW.out HC.out rfl d[kq+1]! d[kq]!;generalize hx:d[kq+1]! = x at lj hcg;generalize hy:d[kq]! = y at lp hcg;have B:Aside (d[kq+1]! = x/\d[kq]! = y):=⟨hx,hy⟩
    clear hx hy hz0;cases hq:eq x y with
    | false=>
      rw [hq] at hcg
      go_wp2_with fail
      go_quiet_grown (first | (go_at_fn g;refine Calls.grown_of (hcg _ _)))
      go_wp2
      go_roundg (d.size - (kq+2))
      case measure=>omega
      case rel=>
       refine ⟨kq+2,by omega,by omega,V8 _,by go_num,SW.out.grown _ _,(show Aside _ from fun j hj=>?_)⟩;by_cases e:j=kq+1
       ·subst e;rw [HK.out];exact b9T (by rw [B.out.1,Nat.add_sub_cancel,B.out.2];exact hq)
       ·exact A.out j (by omega)
    | true=>
      rw [hq] at hcg
      go_wp2_with fail
      go_quiet_grown (first | (go_at_fn g;refine Calls.grown_of (hcg _ _)))
      have SW2:Aside (SWK enc k w blk off d (grow (wr.drewN nq) osq)):=SW.out.grown nq osq;clear lj lp hcg;show Exit.then _ _ _ _ (grow (wr.drewN nq) osq);generalize grow (wr.drewN nq) osq=w2 at SW2 ⊢;have hkc:(kq:Int)+1<=(d.size:Int):=by omega
      have hkc2:(kq:Int)+1<=(cap:Int):=by omega
      have hdc:(d.size:Int)<=(cap:Int):=by omega
      go_wp2
      go_loopg [5,7] d.size (fun gg s5 s7 wr2=>∃ (i m:Nat) (dk:Array α),s5=.int .i64 i/\s7=.int .i64 m/\1<=m/\kq+1+m<=d.size/\d.size - (kq+1+m)<=gg/\Aside (SWK enc k w blk off dk wr2)/\Aside (KeptInv kp d (kq+1+m) i dk))
      case atStart=>exact ⟨kq+1,1,d,by first | rfl | go_num,rfl,V8 _,by omega,by omega,SW2,KeptInv.start A.out (by rw [HK.out];exact b9S (by omega) (by rw [B.out.1,Nat.add_sub_cancel,B.out.2];exact hq))⟩
      case round=>
       obtain ⟨i,m,dk,rfl,rfl,hm1,hmd,hg2,SWr,I⟩:=hrel;have hds:=I.out.size;have hil:=I.out.lt;by_cases hlt2:kq+1+m < d.size
       ·obtain ⟨mq,rfl⟩:∃ mq,m=mq+1:=⟨m - 1,by omega⟩
        have hadd:∀ z,off+(kq+1) * k+z * k=off+(kq+1+z) * k:=fun z=>by rw [q1N (kq+1) z k];omega
        have lj:=SWr.out.ld HR.out hds Tryz.prog (kq+1+(mq+1)) (by omega);have lp:=SWr.out.ld HR.out hds Tryz.prog (kq+1+mq) (by omega);have hcg:=c2S SWr.out HC.out hds dk[kq+1+(mq+1)]! dk[kq+1+mq]!;have hx2:dk[kq+1+(mq+1)]! = d[kq+1+(mq+1)]!:=I.out.high _ (by omega);have hy2:dk[kq+1+mq]! = d[kq+1+mq]!:=I.out.high _ (by omega);generalize dk[kq+1+(mq+1)]! = u at lj hcg hx2;generalize dk[kq+1+mq]! = v at lp hcg hy2;have C:Aside (u=d[kq+1+(mq+1)]!/\v=d[kq+1+mq]!):=⟨hx2,hy2⟩
        clear hx2 hy2;have hwm:IntKind.i64.wrap (mq:Int)=(mq:Int):=by rw [IntKind.wrap_i64];omega
        have m0:(0:Int)<=(mq:Int)+1:=by omega
        have m1:((mq:Int)+1).toNat=mq+1:=by omega
        have mz:(mq:Int)+1 < ((d.size - (kq+1):Nat):Int):=by omega
        have mz1:(mq:Int) < ((d.size - (kq+1):Nat):Int):=by omega
        have hsm:mq+1 < d.size - (kq+1):=by omega
        have hsm1:mq < d.size - (kq+1):=by omega
        have hB:i * k+k<=dk.size * k:=by
         have:=q0X k (show i+1<=dk.size by omega);rwa [q1N,q4B] at this
        have iz:(i:Int) < (d.size:Int):=by omega
        have izn:i < d.size:=by omega
        cases hq2:eq u v with
        | false=>
          rw [hq2] at hcg
          go_wp2_with fail
          go_quiet_grown (first | (go_at_fn g;refine Calls.grown_of (hcg _ _)))
          have SW3:=SWr.out.grown nq osq;clear lj lp hcg;show Exit.then _ _ _ _ (grow (wr.drewN nq) osq);generalize grow (wr.drewN nq) osq=w3 at SW3 ⊢;have lj3:=SW3.load HR.out hds Tryz.prog (kq+1+(mq+1)) (by omega);have hx2:dk[kq+1+(mq+1)]! = u:=(I.out.high _ (by omega)).trans C.out.1.symm;rw [hx2] at lj3;have s1:Sem.run Tryz.prog (storeCells ⟨blk,off+i * k,none⟩ (enc u) 0) w3=.ok () (w3.setCells blk (off+i * k) (enc u)):=stores_of_holds Tryz.prog (SW3.holds HR.out.hblk HR.out.hH hds) (i * k) _ (by rw [HR.out.hk,size_flatK];exact hB) (HR.out.h1 _);have hsU:(enc u).length=k:=HR.out.hk _;have SW4:Aside (SWK enc k w blk off (dk.setIfInBounds i u) (w3.setCells blk (off+i * k) (enc u))):=c0B SW3 HR.out.hk HR.out.hblk i (by omega) u;clear SW3 hx2 hB;obtain ⟨cU,hcU⟩:∃ c,c=enc u:=⟨_,rfl⟩
          rw [<- hcU] at lj3 s1 hsU SW4;clear hcU
          go_wp2
          go_roundg (d.size - (kq+1+(mq+2)))
          case measure=>omega
          case rel=>
           refine ⟨i+1,mq+2,dk.setIfInBounds i u,by go_num,by go_num,by omega,by omega,V8 _,SW4,(show Aside _ from ?_)⟩;have:=I.out.keep hlt2 (by rw [HK.out];exact b9T (by rw [<- C.out.1,show kq+1+(mq+1) - 1=kq+1+mq by omega,<- C.out.2];exact hq2))
           rwa [<- C.out.1] at this
        | true=>
          rw [hq2] at hcg
          go_wp2_with fail
          go_quiet_grown (first | (go_at_fn g;refine Calls.grown_of (hcg _ _)))
          have SW3:Aside (SWK enc k w blk off dk (grow (wr.drewN nq) osq)):=SWr.out.grown nq osq;clear lj lp hcg;show Exit.then _ _ _ _ (grow (wr.drewN nq) osq);generalize grow (wr.drewN nq) osq=w3 at SW3 ⊢
          go_wp2
          go_roundg (d.size - (kq+1+(mq+2)))
          case measure=>omega
          case rel=>exact ⟨i,mq+2,dk,rfl,by go_num,by omega,by omega,V8 _,SW3,I.out.skip (by rw [HK.out];exact b9S (by omega) (by rw [<- C.out.1,show kq+1+(mq+1) - 1=kq+1+mq by omega,<- C.out.2];exact hq2))⟩
       ·have hend:kq+1+m=d.size:=by omega
        have hmz:¬ (m:Int) < ((d.size - (kq+1):Nat):Int):=by omega
        have hmn:¬ m < d.size - (kq+1):=by omega
        have hin:0 < d.size - i:=by omega
        have hidz:(i:Int)<=(d.size:Int):=by omega
        have hicz:(i:Int)<=(cap:Int):=by omega
        have hHk:HoldsK enc k wr blk off dk:=SWr.out.holds HR.out.hblk HR.out.hH hds;have hzl:(Builtin.zeroCells z.cells (d.size - i)).toList.length=(d.size - i) * k:=by simp [Builtin.zeroCells,HZS.out]
        have hcl:∀ ty,(Builtin.clear_ #[33] ty #[.slice (some ⟨blk,off+i * k,none⟩) (d.size - i) (cap - i)]).run Tryz.prog wr=.ok (.tuple #[]) (wr.setCells blk (off+i * k) (Builtin.zeroCells z.cells (d.size - i)).toList):=fun ty=>
         b6T wr _ _ ty z Tryz.underlying33 HZ.out (HZ1.out _) blk (off+i * k) _ hin
          (fun j hj=>by rw [HZS.out] at hj;rw [q3L,(hHk (i * k+j) (by rw [size_flatK,hds,<- Nat.sub_add_cancel (show i<=d.size by omega),q1N];omega)).1];rfl)
          (fun j hj=>by rw [HZS.out] at hj;rw [q3L];exact (hHk (i * k+j) (by rw [size_flatK,hds,<- Nat.sub_add_cancel (show i<=d.size by omega),q1N];omega)).2)
        generalize (Builtin.zeroCells z.cells (d.size - i)).toList=zs at hcl hzl;clear hHk
        go_wp2
        go_ret
        have hI:=I.out;rw [hend] at hI;refine ⟨by rw [hI.len];rfl, ?_⟩;obtain ⟨n,os,hw⟩:=SWr.out;refine ⟨n,os,dk,zs,hds,fun j hj=>hI.low j (by rw [<- hI.len];exact hj), ?_,by rw [hI.len,<- hw]⟩;rw [hI.len,hzl,<- q1N];exact q0X k (by omega)
   ·obtain rfl:kk=d.size:=by omega
    have hltz:¬ (d.size:Int) < (d.size:Int):=by omega
    go_wp2
    go_ret
    obtain ⟨e1,e2⟩:=HS.out _ SW.out A.out;exact ⟨by rw [e1];rfl,e2⟩
def b6n:CpfRuns Tryz.prog 189 1:=⟨b6m,fun enc hk h1 eq g eg blk off cap d w hq hH hblk hcap hsz=>b8B 1 (fun w=>rfl) (.agg #[.slice none 0 0]) (fun w=>rfl) rfl (b3E (by decide) (by simp [Value.cells,Value.oneCell'])) enc hk h1 eq g eg blk off cap d w hq hH hblk hcap hsz⟩
end Go.Aw
namespace Go.Aw
open Go.Proofs Go.Shelf
attribute [local irreducible] aft blk lpK retK AW A0c
set_option linter.all false
set_option maxRecDepth 100000
set_option maxHeartbeats 4000000
attribute [local irreducible] RM
def t5 (a b:c7):Bool:=a1F vLt a.V b.V
def a7S:STO t5 where
 irr x:=a6K.lex.irr x.V
 tr x y z:=a6K.lex.tr x.V y.V z.V
 tri x y h1 h2:=by
  have:=a6K.lex.tri x.V y.V h1 h2;cases x;cases y;simp_all
def b1Q:∀ {a b:List c6},okL a->okL b->z8 a b=bif a1F vLt a b then -1 else bif a1F vLt b a then 1 else 0
 | [],[],_,_=>rfl
 | [],_::_,_,_=>rfl
 | _::_,[],_,_=>rfl
 | x::a,y::b,ha,hb=>by
   have hx:=ha x (by simp);have hy:=hb y (by simp);have ih:=b1Q (okL.tl ha) (okL.tl hb);rw [z8,<- b5C hx hy,<- b5C hy hx,a1F,a1F];cases h1:vLt x y with
   | true=>rw [a6K.asy h1];rfl
   | false=>
     cases h2:vLt y x with
     | true=>rfl
     | false=>rw [V3,V3,ih];rfl
def bRow_by {a b:c7} (ha:okL a.V) (hb:okL b.V):decide (a0l a.V b.V < 0)=t5 a b:=by
 have h:=b1Q ha hb;rw [t5];cases h1:a1F vLt a.V b.V with
 | true=>rw [h1,V1] at h;exact V5 ((a5S ha hb).2 h)
 | false=>
   rw [h1,V3] at h;refine V9 fun h2=>?_
   rw [(a5S ha hb).1 h2] at h;cases h3:a1F vLt b.V a.V<;>rw [h3] at h<;>exact absurd h (by decide)
def b9Z {a b:c7} (ha:okL a.V) (hb:okL b.V):(z8 a.V b.V==-1)=t5 a b:=by
 rw [b1Q ha hb,t5];cases a1F vLt a.V b.V with
 | true=>rfl
 | false=>cases a1F vLt b.V a.V<;>rfl
def b8I (l:List c6) (hpre:l.length < 1000000):A0c Tryz.prog 265 [(false,[.sl false [.i .i64 0,.s []] (l.map c6.cells)])] [] (.one (false,[.sl true [.i .i64 0,.s []] (l.map c6.cells)])):=by
 exact a7v (d:=[.i .i64 0,.s []]) Tryz.cloneVal (by kernel_rfl) (hi:=rfl) (hz0:=rfl) (hz1:=rfl) (bytes:=24) (hz2:=rfl) (hzs:=rfl) (by decide) (fun w=>rfl) _ (by rw [q0G];omega)
noncomputable def b0G:CT:=j9 (fun (x:(List c6)) h=>b8I x h)
@[go_sem] def c4b:=fun l=>nm' (fP' b0G rfl l)
def b1n (r:c7) (hpre:r.V.length < 1000000):A0c Tryz.prog 206 [(true,[j3 r.V])] [] (.one (true,[a1R r.V])):=by
 refine sx' false false none Tryz.func206 (q' 1 [ao (.box 1 (.t 0)),aw [.sl i9]] (q' 3 [aG 0 1,ac 265 [4],ao (.bld [.sl i9] [(0,1,.t 5)]),aS 1 2 6] .ret)) [.c 2 true 1] [(265,[],b0G)] ?_;intro hb hE;simp only [go_sem];repeat' first | apply cj' | intro hc | exact om' | fail
noncomputable def a3W:CT:=j9 (fun (x:c7) h=>b1n x h)
@[go_sem] def b9h:=fun x0=>nm' (fP' a3W rfl ⟨x0⟩)
def c1K (a:List c7) (hpre:a.length < 4611686018427387904/\∀ x∈a,okL x.V):A0c Tryz.prog 188 [(false,[.sl true [.sl true [.i .i64 0,.s []] []] (a.map (c7.cells true true))]),(false,[.f 180 []])] [(0,(false,[.sl true [.sl true [.i .i64 0,.s []] []] ((a0k t5 a).map (c7.cells true true))]))] (.tup []):=by
 obtain ⟨hlen,hd⟩:=hpre;exact b4d Tryz.sortRow (by kernel_rfl) (k:=1) (fun w=>rfl) (fun w=>rfl) (cf:=c7.cells true true) (cb:=c7.cells false false) (z:=[.sl true [.i .i64 0,.s []] []]) rfl (fun x=>by simp only [go_sem]) (fun _=>rfl) (dom:=fun x=>okL x.V) (fun x y=>a0l x.V y.V) a7S (fun x y hx hy=>bRow_by hx hy) (enters_of Tryz.func180 (by kernel_rfl) rfl) (fun x y _ _=>a6z x y) a hd hlen
noncomputable def b3P:CT:=j9 (fun (x:(List c7)) h=>c1K x h)
@[go_sem] def c4m:=fun a=>nm' (fP' b3P rfl a)
def c3y (a:List c7) (hpre:a.length < 4611686018427387904):A0c Tryz.prog 189 [(false,[.sl true [.sl true [.i .i64 0,.s []] []] (a.map (c7.cells true true))]),(false,[.f 190 []])] [] (.one (false,[.sl true [.sl true [.i .i64 0,.s []] []] ((Lib.compact a).map (c7.cells true true))])):=by
 have h:=cpf_out (P:=Tryz.prog) b6n (by kernel_rfl) (cf:=c7.cells true true) (cb:=c7.cells false false) (z:=[.sl true [.i .i64 0,.s []] []]) rfl (fun x=>by simp only [go_sem]) (fun _=>rfl) (dom:=fun _=>True) (fun x y:c7=>decide (x.V=y.V)) (enters_of Tryz.func190 (by kernel_rfl) rfl) (fun x y _ _=>a4x x y) a (fun _ _=>trivial) hpre;rw [show (fun x y:c7=>decide (x.V=y.V))=fun x y=>decide (x=y) from funext fun x=>funext fun y=>by cases x;cases y;simp,b2M] at h;exact h
noncomputable def b5Y:CT:=j9 (fun (x:(List c7)) h=>c3y x h)
@[go_sem] def c_cpfRow_eq:=fun a=>nm' (fP' b5Y rfl a)
def b1m (r:d7) (hpre:r.Rows.length<=200000/\∀ x∈r.Rows,x.V.length < 1000):A0c Tryz.prog 136 [(true,[.i .i64 r.Arity,v6 r.Rows])] [] (.one (true,[.i .i64 r.Arity,a4w r.Rows])):=by
 refine sx' true false none Tryz.func136 (q' 1 [ao (.box 2 (.t 0)),aw [.i .i64,.sl o6]] (q' 6 [aG 0 1,ao (.bld [.i .i64,.sl o6] [(0,1,.t 7)]),ax (w' 3 [.i .i64,.sl o6]),aS 2 3 8] (.seq (q' 9 [aG 1 1,aN,aK 0] (.block 0 (.loop (q' 13 [ar 12 11] (.seq (.cond (.t 13) .skip (.exit 0)) (.seq (.block 1 (q' 14 [ai 1 10 12,aE 1,ax (w' 5 [.sl i9]),aS 1 5 15] (rm' [(true,2,e' 18 1 5),(false,0,f' 16 1 3), (false,1,l' 17 16),(false,3,c' 19 206 [18]),(false,4,o' 20 (.bsl 1 1 [.sl i9] [(0,.t 19)])),(false,5,o' 21 (.app 1 24 [.sl i9] (.t 17) (.t 20))),(false,6,f' 22 1 3),(false,7,s' 1 22 21)] [[0,1,3,2,4,5,6,7],[0,1,3,4,2,5,6,7],[0,3,1,2,4,5,6, 7],[0,3,1,4,2,5,6,7],[0,3,4,1,2,5,6,7]] [10,11]))) (g' 23 [aA 12]))))))) (q' 24 [ae 2 3,aS 2 2 24] .ret)))) [.c 2 true 2] [(206,[],a3W)] ?_;intro hb hE;obtain ⟨hl,hv⟩:=hpre;simp only [go_sem];(repeat' first | apply cj' | intro hc | apply a3H);(all_goals (try (refine (show A3E _ _ _ _ _ _ from ?_);simp only [go_sem] at hc ⊢;simp only [go_sem,A7d,A7h,A6v,A6u,A7c,A6t,nf_put_sub,A7f,A7e,nf_put_susK,nf_put_dip,nf_put_put,A7g,A7b,A6w,y3,w8,w6,w7,w9,nf_sub_sub] at hc ⊢;simp only [hc,q2L,q1D];done)));all_goals try exact om'
 refine lk' true [(true,6,1,200012)] [2,3,10,11] [4,11] [] (fun i:{i:Nat // i<=r.Rows.length}=>[(12,slV (.i .i64 i.1))]) (fun i=>[(6,[.c (.i .i64 r.Arity),.ow 200012])]) (fun i=>[(200012,b2e,(r.Rows.take i.1).map (c7.cells true true))]) (fun i=>r.Rows.length - i.1) (⟨0,by simp⟩) ?_;intro S0 hS0 i;obtain ⟨i,hi⟩:=i;have hm:=fun (h:i < r.Rows.length)=>hv _ (z5 default h)
 have hol:(r.Rows.take i).length=i:=by rw [V4];omega
 have hsn:i < r.Rows.length->r.Rows.take (i+1)=r.Rows.take i++[r.Rows.getD i default]:=fun h=>i6 default h
 simp only [go_sem,hS0];(repeat' first | apply cj' | intro hc | apply a3H);(all_goals (try ((first | refine b4r 1 rfl ?_);intro S hS B0 hB;simp only [go_sem,hS0,q0V,q1Y] at hS hB;(repeat (first | replace hS:=And.right hS | replace hS:=CJ.r hS));have Rr3:=congrArg (fun s:St=>s.sl 3) hS;have Rr18:=congrArg (fun s:St=>s.sl 18) hS;have Rb6:=congrArg (fun s:St=>s.bx 6) hS;have Rb10:=congrArg (fun s:St=>s.bx 10) hS;have Rb11:=congrArg (fun s:St=>s.bx 11) hS;have Ro200012:=congrArg (fun s:St=>s.ow 200012) hS;clear hS;simp only [go_sem,hS0] at Rr3 Rr18 Rb6 Rb10 Rb11 Ro200012;(try clear hc);intro K hc;simp only [go_sem,hS0,Rr3,Rr18,Rb6,Rb10,Rb11,Ro200012,hB,q0M,q2V,q0W,q1S] at hc ⊢;simp only [go_sem,hS0,Rr3,Rr18,Rb6,Rb10,Rb11,Ro200012,hB,A7d,A7h,A6v,A6u,A7c,A6t,nf_put_sub,A7f,A7e,nf_put_susK,nf_put_dip,nf_put_put,A7g,A7b,A6w,y3,w8,w6,w7,w9,nf_sub_sub] at hc ⊢;simp only [hc,q2L,q1D];done)));all_goals try exact om'
 ·(refine lpK_n2 (⟨i+1,by omega⟩) _ (by simp only [go_sem];try rfl) ?_;simp only [go_sem,hS0]<;>repeat' first | apply V7 | exact on' | fail)
  all_goals rw [hsn (by omega)]
 ·rw [f8 (by omega)]
noncomputable def a3V:CT:=j9 (fun (x:d7) h=>b1m x h)
@[go_sem] def b9g:=fun x0 x1=>nm' (fP' a3V rfl ⟨x0,x1⟩)
def b3C (a:Int) (rows:List c7):d7×Bool:=bif decide (300 < ((Lib.compact (a0k t5 rows)).length:Int)) then (default,false) else (⟨a,Lib.compact (a0k t5 rows)⟩,true)
def b5c (arity:Int) (rows:List c7) (hpre:rows.length<=100000/\∀ x∈rows,okL x.V/\x.V.length < 1000):A0c Tryz.prog 108 [(false,[.i .i64 arity]),(false,[v6 rows])] [] (.tup [(true,[.i .i64 (((b3C arity rows).1).Arity),a4w (((b3C arity rows).1).Rows)]),(false,[.b ((b3C arity rows).2)])]):=by
 refine sx' true false none Tryz.func108 (q' 0 [ax (w' 4 [.i .i64,.sl o6]),ab 5 false] (q' 7 [aM [0,1],ao (.bld [.i .i64,.sl o6] [(0,1, .t 7),(1,1,.t 8)]),ac 136 [9],ax (w' 6 [.i .i64,.sl o6]),aS 2 6 10] (q' 11 [aG 1 6,ao (.call 188 [.t 12,.k (.v false [.c (.f 180 [])])])] (q' 14 [aG 1 6,ao (.call 189 [.t 15,.k (.v false [.c (.f 190 [])])]),af 1 6,aS 1 17 16] (.seq (q' 18 [aG 1 6,aN,ao (.bin .gtr (.t 20) (k' 300))] (.cond (.t 21) (q' 22 [ao (.bld [.i .i64,.sl o6] []),aS 2 4 22,ab 5 false] .ret) .skip)) (q' 23 [ae 2 6,aS 2 4 23,ab 5 true] .ret)))))) [.c 4 true 2,.t 5] [(136,[],a3V),(188,[0],b3P),(189,[0],b5Y)] ?_;intro hb hE;obtain ⟨hl,hv⟩:=hpre;have hs:=(a0d t5 rows).length_eq;simp only [go_sem];repeat' first | apply cj' | intro hc | exact om' | fail
 ·exact ⟨by omega,fun x hx=>(hv x hx).2⟩
 ·exact ⟨by omega,fun x hx=>(hv x hx).1⟩
 ·rw [b3C,V5 hc];exact ⟨⟨rfl,rfl⟩,rfl⟩
 ·rw [b3C,V9 hc];exact ⟨⟨rfl,rfl⟩,rfl⟩
noncomputable def a6c:CT:=j9 (fun (x:Int×(List c7)) h=>b5c x.1 x.2 h)
@[go_sem] def c2k:=fun x0 x1=>nm' (fP' a6c rfl (x0,x1))
def a6q (l:List c7):Lib.compact (a0k t5 l)=k7 t5 [] l:=
 a2M a7S (SS.puts a7S SS.nil) fun x=>by rw [p9];simp
end Go.Aw
