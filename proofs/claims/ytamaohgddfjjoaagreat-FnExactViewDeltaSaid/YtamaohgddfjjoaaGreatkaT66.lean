/- What a round keeps: the rows of a good program's views are right. No condition. -/
import Derived.Test.YtamaohgddfjjoaaGreatkaT47
import Derived.Test.YtamaohgddfjjoaaGreatkBx17ka
namespace Go.Aw
set_option maxHeartbeats 4000000
open Go.Proofs
set_option linter.all false
set_option maxRecDepth 100000
variable{n:Int}{v:List UInt8}{c:List c7}{L:List d9}{i j:Nat}
def EqStep.le{l:d7}{b:List c7}(h:EqStep l b c):b.length<=c.length:=by
 rcases h.len with rfl|h<;>omega
def d0g(r:c8)(b:List c7):∀{n m:Nat},n<=m->(eqP r b n).length<=(eqP r b m).length
 | n,0,h=>by cases Nat.le_zero.1 h;exact q0C _
 | n,m+1,h=>by
   by_cases hn:n=m+1
   ·subst hn;exact q0C _
   ·have h1:=d0g r b (n:=n) (m:=m) z0C;have h2:=(a4N (r.Body.getD m default) (eqP r b m)).le;rw[eqP];omega
def d5S{r:c8}(h:a6c r c=c){n:Nat}(hn:n<=r.Body.length):eqP r c n=c:=by
 rcases c7g r c n with h1|h1
 ·exact h1
 ·have h2:=d0g r c hn;rw[show eqP r c r.Body.length=c from h]at h2;omega
def e1c{r:c8}(h:a6c r c=c){l:d7}(hl:l∈r.Body):eqS l c=c:=by
 obtain⟨n,hn,rfl⟩:=q1H hl;have h1:=d5S h (n:=n+1) z0C;rw[eqP,d5S h (n:=n) z0C,j7 default hn]at h1;exact h1
def d3V(r:c8)(b:List c7):∀l∈r.Body,a0F ((eqR r b).map c7.Var) l:=by
 obtain⟨k,_,hp⟩:=c1n r b;intro l hl he hk x hx;have h1:=congrArg (List.map c7.Var) (e1c hp hl);rw[c7i,domE,he,W8]at h1;have key:∀v,a1f Op.bytesLess ((eqR r b).map c7.Var) v=(eqR r b).map c7.Var->v∈(eqR r b).map c7.Var:=fun v hv=>d0V (congrArg List.length hv)
 have both:u1 ((eqR r b).map c7.Var) l.A=true/\u1 ((eqR r b).map c7.Var) l.B=true:=by
  cases h2:u1 ((eqR r b).map c7.Var) l.A with
  | true=>
    cases h3:u1 ((eqR r b).map c7.Var) l.B with
    | true=>exact⟨rfl,rfl⟩
    | false=>
      rw[h2,h3]at h1;have h4:=key _ h1;rw[u1,q0U]at h3;rw[q2F.2 h4]at h3;exact absurd h3.2 (by decide)
  | false=>
    rw[h2,q3Q]at hk;rw[h2,hk]at h1;have h4:=key _ h1;rw[u1,q0U]at h2;rw[q2F.2 h4]at h2;exact absurd h2.2 (by decide)
 obtain⟨t,ht,hv,rfl⟩:=a0u.1 hx;have h5:u1 ((eqR r b).map c7.Var) t=true:=by
  simp only[V9,q4R,or_false]at ht;rcases ht with rfl|rfl
  ·exact both.1
  ·exact both.2
 rw[u1,show(t.Var==[])=false by simpa[a0C]using hv,q3Q]at h5;exact q2F.1 h5
def d0Y{r:c8}{s:c4}(h:∀l∈r.Body,Rooted s ⟨c⟩ l):a3I r (c.map c7.Var):=by
 intro l hl hk x hx;obtain⟨t,ht,hv,rfl⟩:=a0u.1 hx;obtain⟨row,_,_,hb⟩:=h l hl hk;obtain⟨i,hi,rfl⟩:=q1H ht;have h1:=hb i hi;rw[j7 default hi]at h1;have h2:=a5A c (l.Atom.Args[i]);rw[show k9 ⟨c⟩ (l.Atom.Args[i])=_ from h1]at h2;rw[u1,show((l.Atom.Args[i]).Var==[])=false by simpa[a0C]using hv,q3Q]at h2;exact q2F.1 h2.symm
def body_bd{r:c8}{s:c4}(hr:k7 r=true)(hs:j6 s=true){e:d6}(he:e∈(o7 r s).1)(hv:Bd r v):v∈e.Binds.map c7.Var:=by
 obtain⟨_,hf,_⟩:=a3h hr hs;rw[o7]at he;cases hj:(a1j r s).2 with
 | false=>rw[hj]at he;cases he
 | true=>
   rw[hj,W8]at he;have h1:=(o8.1 he).resolve_left (by intro h;cases h);rw[a6b,q1A,q0X]at h1;obtain⟨⟨e',he',rfl⟩,_⟩:=h1;exact hv.mem (d0Y fun l hl=>((hf e' he').2.2 l hl).ext (c:=eqE r e') (b9t r e'.Binds)) (d3V r e'.Binds)
def d3Z{p:c6}(hg:a0m p=true)(hj:j<p.Rules.length):a5v (p.Rules.getD j default)=[]:=by
 have hB:=a0X (a0n hg);rw[a0m,W3,a1O,hB,W8]at hg;have h1:a1a a3S p.Rules=-1:=by simpa using hg.2
 have h2:=a1l a3S p.Rules;rw[h1]at h2;have h3:=q2R.1 h2.symm _ (u7 (l:=p.Rules) default hj);rw[a3S,V8]at h3;exact List.eq_nil_of_length_eq_zero z0C
def d4a{r:c8}{s:c4}(hr:k7 r=true)(hs:j6 s=true)(hl:a5v r=[]){e:d6}(he:e∈(o7 r s).1):y8 e r.Head.Args=(⟨r.Head.Args.map fun t=>(k9 e t).1⟩,true):=by
 rw[y8,show r.Head.Args.all (fun t=>(k9 e t).2)=true from q0K.2 fun t ht=>?_]
 ·rfl
 ·rw[show(k9 e t).2=u1 (e.Binds.map c7.Var) t from a5A e.Binds t,u1];cases h0:t.Var==[]with
  | true=>rfl
  | false=>
    rw[q3Q];refine q2F.2 (body_bd hr hs he ?_);have h1:t.Var∈a3Z r:=by
     rw[a3Z,o8];exact .inr (W9.2 (.inl (a0u.2 ⟨t,ht,by rw[a0C,h0];rfl,rfl⟩)))
    rw[a5v,hr,W8,e1z,List.filter_eq_nil_iff]at hl;have h2:=hl _ h1;exact a4T.1 (q2F.1 z1P)
def head_ar{p:c6}(hg:a0m p=true)(hj:j<p.Rules.length):w6 p (p.Rules.getD j default).Head.Name=(p.Rules.getD j default).Head.Args.length:=by
 have h:=(a4V z17).2.2 j hj;rw[a0o,z7]at h;cases h1:(v5 (p.Rules.getD j default)).any (a5d p)with
 | true=>rw[h1]at h;simp at h
 | false=>
   cases h2:(v5 (p.Rules.getD j default)).any (a4o p)with
   | true=>rw[h1,h2]at h;simp at h
   | false=>
     have h3:=q2R.1 h2 _ (show(p.Rules.getD j default).Head∈v5 (p.Rules.getD j default)from q2M);rw[a4o]at h3;simpa using h3
def d4o{p:c6}{s:c4}(hg:a0m p=true)(hs:j6 s=true)(hj:j<p.Rules.length):∀x∈a3Y (p.Rules.getD j default) s,a0Z x=true/\(x.V.length:Int)=w6 p (p.Rules.getD j default).Head.Name:=by
 have hr:=(a7B (a0X (a0n hg))).1 _ (u7 (l:=p.Rules) default hj);intro x hx;obtain⟨e,he,rfl⟩:=q0X.1 hx;obtain⟨_,_,vs,hv⟩:=a3h hr hs;have h1:EnvS e.Binds:=by
  have he:=he;rw[o7]at he;cases hj:(a1j (p.Rules.getD j default) s).2 with
  | false=>rw[hj]at he;cases he
  | true=>
    rw[hj,W8]at he;exact(hv e ((o8.1 he).resolve_left (by intro h;cases h))).1
 refine⟨c1o h1 (a3g hr).1 (a3g hr).2, ?_⟩;rw[d4a hr hs (d3Z hg hj) he,head_ar hg hj];simp
def d0M{p:c6}{s:c4}(hg:a0m p=true)(hs:j6 s=true)(hA:arOk p s)(hv:v∈vwS p):∀x∈a3T p s v,a0Z x=true/\(x.V.length:Int)=w6 p v:=by
 intro x hx;rcases W9.1 hx with hx|hx
 ·cases h0:(k6 s v).2 with
  | false=>rw[d0W h0]at hx;cases hx
  | true=>
    obtain⟨y,hy1,hy2,hy3⟩:=c3a h0;have hk:=z5 hs v;have ha:(k6 s v).1.Arity=w6 p v:=by rw[hy3,hA y hy1 (by rw[hy2];exact(b0t hg hv).1),hy2]
    obtain⟨i,hi,rfl⟩:=q1H hx;simp only[n8,W3,q0M]at hk;have h1:=a1U.1 hk.2 i hi;rw[a0P,j7 default hi]at h1;simp only[q0U,q0Q,beq_iff_eq]at h1;exact⟨h1.1.2,by rw[h1.1.1,ha]⟩
 ·rw[a0W,q2W]at hx;obtain⟨r,hr,hx⟩:=hx;obtain⟨j,hj,rfl⟩:=q1H hr;cases h0:isV p v (p.Rules[j])with
  | false=>rw[h0]at hx;cases hx
  | true=>
    rw[h0,W8]at hx;have hn:(p.Rules[j]).Head.Name=v:=by
     rw[isV,W3]at h0;simpa using h0.2
    have h1:=d4o hg hs hj;rw[j7 default hj]at h1;rw[<-hn];refine h1 x ?_;rw[a0i]at hx;cases hb:(o7 (p.Rules[j]) s).2 with
    | false=>rw[hb]at hx;cases hx
    | true=>rw[hb,W8]at hx;exact(a6Y _ _).2 x hx
def d0X{a:Int}{l:List d3}(h0:0<=a)(h6:a<=6)(hl:l.length<=300)(hr:∀x∈l,a0Z x=true/\(x.V.length:Int)=a)(hs:SS s6 l):n8 ⟨a,l⟩=true:=by
 simp only[n8,W3,q0M,V8];refine⟨⟨⟨h0,h6⟩,z0C⟩,a1U.2 fun i hi=>?_⟩;have h1:=hr _ (u7 (l:=l) default hi);simp only[a0P,q0U,q0Q];refine⟨⟨by simpa using h1.2,h1.1⟩, ?_⟩;cases hd:decide (0<i)with
 | false=>rfl
 | true=>
   have hp:0<i:=of_decide_eq_true hd;have h2:=hr _ (u7 (l:=l) default (show i-1<l.length by omega));have h3:=q2N.1 hs (i-1) i z0C hi z0C;rw[q0Z,q0Q,b9z (a0j h2.1) (a0j h1.1),j7 default hi,j7 default (show i-1<l.length by omega)];exact h3
def c6s{p:c6}(hg:a0m p=true)(hv:v∈vwS p):a2X (a0G p v)=true:=by
 have hB:=a0X (a0n hg);obtain⟨x,hx,hp,e⟩:=b3z (b0t hg hv).1;rw[a0G,e];simp only[y6,W3,q0K]at hB;exact hB.1.1.1 x hx
def e1A{p:c6}{s:c4}(hg:a0m p=true)(hs:j6 s=true)(hA:arOk p s)(hv:v∈vwS p)(h:b6w p s v=true):n8 (c2R p s v)=true/\(c2R p s v).Arity=w6 p v:=by
 have hS:=b6D (z5 hs v);have hR:=d0M hg hs hA hv;have hd:=c6s hg hv;simp only[a2X,K7]at hd;rw[b6w,W3,a3T,a4i hS]at h;rw[c2R,a3T,a4i hS];cases hc:decide (300<((m8 s6 (k6 s v).1.Rows (a0W p s v p.Rules)).length:Int))with
 | true=>rw[hc]at h;simp at h
 | false=>
   have h1:=of_decide_eq_false hc;refine⟨d0X (by rw[(b0t hg hv).2];omega) (by rw[(b0t hg hv).2];omega) z0C (fun x hx=>hR x ?_) (hS.puts a3k),rfl⟩;rw[a3T,W9];exact o8.1 hx
def c3q{l:List c9}(hl:l.length<=24)(hs:SS sLt (l.map c9.Name))(h:∀x∈l,a0Y x.Name=true/\n8 x.Rel=true):j6 ⟨l⟩=true:=by
 simp only[j6,W3,q0M,V8];refine⟨z0C,a1U.2 fun i hi=>?_⟩;have h1:=h _ (u7 (l:=l) default hi);simp only[a1b,q0U,q0Q];refine⟨⟨h1.1,h1.2⟩, ?_⟩;cases hd:decide (0<i)with
 | false=>rfl
 | true=>
   have hp:0<i:=of_decide_eq_true hd;have h3:=q2N.1 hs (i-1) i z0X (by rw[q0F];exact hi) z0C;rw[q3W,q3W]at h3;rw[q0Z,q0Q,j7 default hi,j7 default (show i-1<l.length by omega)];exact h3
def c3r{s:c4}(h:j6 s=true):∀x∈s.Rels,a0Y x.Name=true/\n8 x.Rel=true:=by
 intro x hx;obtain⟨i,hi,rfl⟩:=q1H hx;simp only[j6,W3,q0M]at h;have h2:=a1U.1 h.2 i hi;rw[a1b,j7 default hi]at h2;simp only[q0U,q0Q]at h2;exact h2.1
def d8P{p:c6}(hg:a0m p=true)(hv:v∈vwS p):a0Y v=true:=by
 have hd:=c6s hg hv;obtain⟨x,hx,hp,e⟩:=b3z (b0t hg hv).1;simp only[a2X,W3]at hd;have h1:=hd.1.2;rw[a0G,e]at h1;have h2:x.Name=v:=by simpa using hp
 rw[show(some x).getD default=x from rfl,h2]at h1;rw[d0Q,W3]at h1;exact h1.1
def d8z{p:c6}{s:c4}(hg:a0m p=true)(hs:j6 s=true)(hA:arOk p s)(n:Int):∀L:List d9,(∀l∈L,l.Name∈vwS p)->a8G p s n L=true->∀x∈a9U p s n L,(a0Y x.Name=true/\n8 x.Rel=true)/\(a0z p x.Name=true->x.Rel.Arity=w6 p x.Name):=by
 intro L;rw[a9U]
 suffices h:∀(L:List d9) (o:List c9),(∀l∈L,l.Name∈vwS p)->a8G p s n L=true->(∀x∈o,(a0Y x.Name=true/\n8 x.Rel=true)/\(a0z p x.Name=true->x.Rel.Arity=w6 p x.Name))->∀x∈L.foldl (a4W p s n) o,(a0Y x.Name=true/\n8 x.Rel=true)/\(a0z p x.Name=true->x.Rel.Arity=w6 p x.Name)from fun h1 h2=>h L _ h1 h2 fun x hx=>⟨c3r hs x hx,hA x hx⟩
 intro L
 induction L with
 | nil=>intro o _ _ ho;exact ho
 | cons l L ih=>
   intro o hV ha ho;rw[a8G,q2U,W3]at ha;rw[q2D];refine ih _ (fun y hy=>hV y (q1W _ hy)) ha.2 fun x hx=>?_
   rw[a4W]at hx;cases hc:l.N==n with
   | false=>rw[hc]at hx;exact ho x hx
   | true=>
     rw[hc,W8]at hx;have hv:=hV l q2M;have hk:=e1A hg hs hA hv (by rw[hc]at ha;simpa using ha.1);rcases a9Q hx with rfl|hx
     ·exact⟨⟨d8P hg hv,hk.1⟩,fun _=>hk.2⟩
     ·exact ho x hx
def a4j{p:c6}{s:c4}(hg:a0m p=true)(hs:j6 s=true)(hA:arOk p s)(hV:∀l∈L,l.Name∈vwS p)(h:(t5 p L s n).2=true):j6 (t5 p L s n).1=true/\arOk p (t5 p L s n).1:=by
 rw[t5]at h ⊢;cases h1:a8G p s n L&&decide (((a9U p s n L).length:Int)<=24)with
 | false=>rw[h1]at h;cases h
 | true=>
   rw[W3,V8]at h1;have h2:=d8z hg hs hA n L hV h1.1;exact⟨c3q z0C (b2f p n (a2m hs) L).1 fun x hx=>(h2 x hx).1,fun x hx=>(h2 x hx).2⟩
attribute [local irreducible] aft blk lpK retK AW A0d
attribute [local irreducible] RM
def a2w(p:c6)(s:c4):Prop:=j6 s=true/\arOk p s
noncomputable def c2O(p:c6)(L:List d9)(n:Int):Nat->c4->c4×Bool
 | 0,s=>(s,true)
 | k+1,s=>bif (t5 p L s n).2 then(bif decide (y9 s<y9 (t5 p L s n).1)then c2O p L n k (t5 p L s n).1 else((t5 p L s n).1,true))else(default,false)
noncomputable def a5Z(p:c6)(L:List d9)(n:Int)(s:c4):c4×Bool:=c2O p L n (7201-y9 s) s
def a2c{s:c4}(h:j6 s=true):y9 s<=7200:=by
 rw[<-b6F (s:=s) (i:=s.Rels.length) z0C];exact c3f h (q0C _)
def c5Z{p:c6}{L:List d9}{n:Int}(hg:a0m p=true)(hV:∀l∈L,l.Name∈vwS p):∀(k k':Nat) {s:c4},a2w p s->7200-y9 s<k->7200-y9 s<k'->c2O p L n k s=c2O p L n k' s
 | 0,_,s,_,h,_=>by omega
 | _+1,0,s,_,_,h=>by omega
 | k+1,k'+1,s,hs,h1,h2=>by
   rw[c2O,c2O];cases hr:(t5 p L s n).2 with
   | false=>rfl
   | true=>
     rw[W8,W8];cases hc:decide (y9 s<y9 (t5 p L s n).1)with
     | false=>rfl
     | true=>
       have h3:=a4j hg hs.1 hs.2 hV hr;have h4:=a2c h3.1;have h5:=of_decide_eq_true hc;exact c5Z hg hV k k' h3 z0C z0C
def c6a{p:c6}{n:Int}(hg:a0m p=true)(hV:∀l∈L,l.Name∈vwS p){s:c4}(hs:a2w p s):a5Z p L n s=bif (t5 p L s n).2 then(bif decide (y9 s<y9 (t5 p L s n).1)then a5Z p L n (t5 p L s n).1 else((t5 p L s n).1,true))else(default,false):=by
 have h0:=a2c hs.1;rw[a5Z,show 7201-y9 s=(7200-y9 s)+1 by omega,c2O];cases hr:(t5 p L s n).2 with
 | false=>rfl
 | true=>
   rw[W8,W8];cases hc:decide (y9 s<y9 (t5 p L s n).1)with
   | false=>rfl
   | true=>
     have h3:=a4j hg hs.1 hs.2 hV hr;have h4:=a2c h3.1;have h5:=of_decide_eq_true hc;rw[W8,W8,a5Z];exact c5Z hg hV _ _ h3 z0C z0C
def d6c{p:c6}{L:List d9}{n:Int}(hg:a0m p=true)(hV:∀l∈L,l.Name∈vwS p):∀(k:Nat) {s:c4},a2w p s->(c2O p L n k s).2=true->a2w p (c2O p L n k s).1
 | 0,s,hs,_=>hs
 | k+1,s,hs,h=>by
   rw[c2O]at h ⊢;cases hr:(t5 p L s n).2 with
   | false=>rw[hr]at h;cases h
   | true=>
     rw[hr]at h;rw[W8]at h ⊢;have h3:=a4j hg hs.1 hs.2 hV hr;cases hc:decide (y9 s<y9 (t5 p L s n).1)with
     | false=>exact h3
     | true=>rw[hc]at h;exact d6c hg hV k h3 h
noncomputable def upR(p:c6)(L:List d9)(s:c4):Nat->c4×Bool
 | 0=>(s,true)
 | n+1=>bif (upR p L s n).2 then a5Z p L n (upR p L s n).1 else(default,false)
def c3u{p:c6}{L:List d9}(hg:a0m p=true)(hV:∀l∈L,l.Name∈vwS p){s:c4}(hs:a2w p s):∀{n:Nat},(upR p L s n).2=true->a2w p (upR p L s n).1
 | 0,_=>hs
 | n+1,h=>by
   rw[upR]at h ⊢;cases hu:(upR p L s n).2 with
   | false=>rw[hu]at h;cases h
   | true=>
     rw[hu]at h;rw[W8]at h ⊢;exact d6c hg hV _ (c3u hg hV hs hu) h
def c8y{p:c6}{L:List d9}{s:c4}{n:Nat}(h:(upR p L s n).2=false):∀{m:Nat},n<=m->(upR p L s m).2=false/\(n<m->upR p L s m=(default,false))
 | 0,hm=>by cases Nat.le_zero.1 hm;exact⟨h,fun h=>z0C⟩
 | m+1,hm=>by
   by_cases hn:n=m+1
   ·subst hn;exact⟨h,fun h=>z0C⟩
   ·have h1:=(c8y h (m:=m) z0C).1;have h2:upR p L s (m+1)=(default,false):=by rw[upR,h1];rfl
    exact⟨by rw[h2],fun _=>h2⟩
def d4n{p:c6}{s:c4}(hs:j6 s=true)(h:∀l∈L,¬l.N=n):t5 p L s n=(s,true):=by
 have h1:a9U p s n L=s.Rels:=by
  rw[a9U];generalize s.Rels=o
  induction L generalizing o with
  | nil=>rfl
  | cons l L ih=>
    rw[q2D,c3p (by simpa[bne]using h l q2M)];exact ih (fun y hy=>h y (q1W _ hy)) o
 have h2:a8G p s n L=true:=q0K.2 fun l hl=>by
  rw[show(l.N==n)=false by simpa using h l hl];rfl
 rw[t5,h1,h2,V0 (by have:=a0I hs;omega)];rfl
def e1x{p:c6}{s:c4}(hs:j6 s=true)(h:∀l∈L,¬l.N=n):a5Z p L n s=(s,true):=by
 have h0:=a2c hs;rw[a5Z,show 7201-y9 s=(7200-y9 s)+1 by omega,c2O,d4n hs h,W8,V3 (Nat.lt_irrefl _)];rfl
def d1j{p:c6}{L:List d9}(hg:a0m p=true)(hV:∀l∈L,l.Name∈vwS p){s:c4}(hs:a2w p s){n:Nat}(hn:∀l∈L,l.N<n):∀{m:Nat},n<=m->(upR p L s n).2=true->upR p L s m=upR p L s n
 | 0,hm,_=>by cases Nat.le_zero.1 hm;rfl
 | m+1,hm,h=>by
   by_cases he:n=m+1
   ·subst he;rfl
   ·have h1:=d1j hg hV hs hn (m:=m) z0C h;rw[upR,h1,h,W8,e1x (c3u hg hV hs h).1 (fun l hl=>by have:=hn l hl;omega)];rw[<-h]
def b3N(b:c4)(a:c4):spZ 145 [(true,[i6 b.Rels]),(true,[i6 a.Rels])] [] (.tup []):=by
 refine sy' Tryz.func145 (g' 2 [aX 1 0,aX 1 1]) [] [] ?_;intro hb hE;simp only[go_sem];repeat' first|apply cj'|intro hc|exact om'|fail
noncomputable def a5h:CT:=j8 (fun(x:c4×c4)=>b3N x.1 x.2)
@[go_sem] def c9x:=fun x0 x1=>nm' (fQ' a5h rfl (⟨x0⟩,⟨x1⟩))
def c1u{p:c6}(hg:a0m p=true):∃g,(i9 p).1=lvl p g/\Least p g:=by
 have h1:(i9 p).2=true:=by
  rw[a0m,W3]at hg;exact hg.1
 by_cases h:∃g,Least p g
 ·refine⟨h.choose, ?_,h.choose_spec⟩;rw[i9,a4g h1,W8,dif_pos h]
 ·rw[i9,a4g h1,W8,dif_neg h]at h1;cases h1
def b5G{p:c6}(hg:a0m p=true):(∀l∈(i9 p).1,l.Name∈vwS p)/\(∀l∈(i9 p).1,0<=l.N/\l.N<=((i9 p).1.length:Int)):=by
 obtain⟨g,h1,h2⟩:=c1u hg;rw[h1];refine⟨fun l hl=>?_,fun l hl=>?_⟩
 ·obtain⟨v,hv,rfl⟩:=q0X.1 hl;exact hv
 ·obtain⟨v,hv,rfl⟩:=q0X.1 hl;have:=h2.le v hv;have:=h2.low.ge v;rw[a7z];exact⟨this,by assumption⟩
def d0J{p:c6}(hg:a0m p=true):(i9 p).1.length<=64:=by
 obtain⟨g,h1,_⟩:=c1u hg;have h2:=c8A (a0X (a0n hg));rw[h1,a7z];omega
noncomputable def c4o(p:c6)(s:c4):c4×Bool:=upR p (i9 p).1 s ((i9 p).1.length+1)
def b4v{s:c4}(hs:j6 s=true):s.Rels.length<=1000/\∀x∈s.Rels,x.Rel.Rows.length<=100000/\∀y∈x.Rel.Rows,y.V.length<1000:=by
 have hsl:=a0I hs;exact⟨z0C,fun x hx=>by
   have h:=a0r (a1J hs x hx);exact⟨z0C,fun y hy=>(h.2 y hy).2⟩⟩
def c5t(p:c6)(s:c4)(hpre:a0m p=true/\a2w p s):spZ 73 [(true,[m9 p.Decls,m7 p.Rules]),(true,[i6 s.Rels])] [] (.tup [(true,[i6 (((c4o p s).1).Rels)]),(false,[.b ((c4o p s).2)])]):=by
 refine sx' false true none Tryz.func73 (q' 2 [aX 2 0,aX 1 1,aw [.sl i7],aU false] (q' 14 [ae 2 2,ac 131 [14],aV 13,aZ 13 0,aZ 13 1,av 6 16,aV 7] (q' 18 [ae 1 3,ac 94 [18],ax (w' 8 [.sl i7]),aS 1 8 19] (.seq (q' 9 [aK 0] (fo 0 20 [aM [9,6],aN,aD .leq 20 22] 23 1 (q' 10 [ao (.mov (.k (.v false [.c (.i .i64 (-1))])))] (lO 2 (.seq (q' 26 [am 10,ae 1 8,ac 132 [27],ar 26 28] (cd 29 .skip (.exit 2))) (.block 3 (q' 30 [ae 1 8,ac 132 [30],aV 10] (q' 33 [ae 2 2,am 6,ae 1 8,am 9,ac 133 [33,34,35,36],aV 32,aZ 32 0,aZ 32 1,ax (w' 11 [.sl i7]),aS 1 11 38,aV 12] (.seq (q' 40 [am 12,aO 40] (ci 41 (q' 42 [ao (.bld [.sl i7] []),aS 1 4 42,ab 5 false] .ret))) (g' 43 [ae 1 11,aS 1 8 43])))))))) (g' 24 [aB 9]))) (q' 44 [ae 1 8,aS 1 4 44,ab 5 true] .ret))))) [.c 4 true 1,.t 5] [(131,[],a5V),(94,[],a2I),(132,[],a9F),(133,[],a8o)] ?_;intro hb hE;obtain⟨hg,hs⟩:=hpre;have hL:=d0J hg;have hV:=b5G hg;have hcp:=b4v hs.1;simp only[go_sem];repeat' first|apply cj'|intro hc|exact om'|fail
 ·exact hcp
 refine lq' false [2,4,6,8] [4] [] (fun i:{i:Nat // i<=(i9 p).1.length+1/\(upR p (i9 p).1 s i).2=true}=>[(9,slV (.i .i64 i.1))]) (fun i=>[(16,[.c (i6 (upR p (i9 p).1 s i.1).1.Rels)]),(8,[.nl i7])]) nl' (fun i=>(i9 p).1.length+1-i.1) (⟨0,z0C,rfl⟩) ?_;intro S0 hS0 i;obtain⟨m,hm,hu⟩:=i;have hst:=c3u hg hV.1 hs hu;have hr0:=a2c hst.1;have hup:upR p (i9 p).1 s (m+1)=a5Z p (i9 p).1 m (upR p (i9 p).1 s m).1:=by rw[upR,hu];rfl
 have hms:(m:Int)=m:=rfl;simp only[go_sem,hS0];repeat' first|apply cj'|intro hc|exact om'|fail
 rotate_left
 ·rw[c4o,show(i9 p).1.length+1=m by omega,hu];exact⟨rfl,rfl⟩
 generalize hst0:(upR p (i9 p).1 s m).1=st at*;refine lq' false [2,4,6,8,9] [4] [] (fun i:{q:Int×c4 // a2w p q.2/\-1<=q.1/\q.1<=7200/\(q.1<y9 q.2->a5Z p (i9 p).1 m q.2=a5Z p (i9 p).1 m st)/\(¬q.1<y9 q.2->a5Z p (i9 p).1 m st=(q.2,true))}=>[(10,slV (.i .i64 i.1.1))]) (fun i=>[(16,[.c (i6 i.1.2.Rels)]),(8,[.nl i7])]) nl' (fun i=>(7201-i.1.1).toNat) (⟨(-1,st),hst,z0C,z0C,fun _=>rfl,fun h=>absurd h (by show¬¬(-1:Int)<_;omega)⟩) ?_;intro S1 hS1 i;obtain⟨⟨r,o⟩,ho,hr1,hr2,hrl,hrx⟩:=i;simp only at ho hr1 hr2 hrl hrx;have ho0:=a2c ho.1;have hstep:=c6a hg hV.1 (n:=m) ho;simp only[go_sem,hS0,hS1];repeat' first|apply cj'|intro hc|exact om'|fail
 ·exact ho.1
 ·exact ho.1
 ·exact⟨⟨⟨⟨hg,ho.1⟩,ho.2⟩,hV.1⟩,z0C⟩
 ·have hlt:=‹r<(y9 o:Int)›;have e:=(hrl hlt).symm.trans hstep;rw[hc,V2]at e;have h1:(upR p (i9 p).1 s (m+1)).2=false:=by rw[hup,e]
  have h3:upR p (i9 p).1 s ((i9 p).1.length+1)=(default,false):=by
   by_cases he:m+1=(i9 p).1.length+1
   ·rw[<-he,hup,e]
   ·exact(c8y h1 z0C).2 (by omega)
  rw[c4o,h3];exact⟨rfl,rfl⟩
 ·have hlt:=‹r<(y9 o:Int)›;have e:=(hrl hlt).symm.trans hstep;rw[hc,W8]at e;have h3:=a4j hg ho.1 ho.2 hV.1 hc;have h4:=a2c h3.1;have e1:(y9 o:Int)<y9 (t5 p (i9 p).1 o m).1->a5Z p (i9 p).1 m (t5 p (i9 p).1 o m).1=a5Z p (i9 p).1 m st:=fun h=>by rw[e,V0 z0C,W8]
  have e2:¬(y9 o:Int)<y9 (t5 p (i9 p).1 o m).1->a5Z p (i9 p).1 m st=((t5 p (i9 p).1 o m).1,true):=fun h=>by rw[e,V3 z0C,V2]
  exact nx1 ⟨((y9 o:Int),(t5 p (i9 p).1 o m).1),h3,z0C,z0C,e1,e2⟩
 ·have e3:upR p (i9 p).1 s (m+1)=(o,true):=by rw[hup,hrx hc]
  (refine lpK_n2 (⟨m+1,z0C,by rw[e3]⟩) _ rfl ?_;simp only[go_sem,hS0,hS1]<;>repeat' first|apply W6|exact on'|fail)
  all_goals rw[e3]
noncomputable def b1i:CT:=k8 (fun(x:c6×c4) h=>c5t x.1 x.2 h)
@[go_sem] def d7X:=fun x0 x1 x2=>nm' (fP' b1i rfl (⟨x0,x1⟩,⟨x2⟩))
def mxN(L:List d9):Int:=L.foldl (fun a l=>max a l.N) 0
def e1C(h:i<L.length):mxN (L.take (i+1))=max (mxN (L.take i)) (L.getD i default).N:=by
 rw[mxN,j3 default h,q3A];rfl
def mxF(L:List d9):∀a:Int,a<=L.foldl (fun a l=>max a l.N) a/\(∀l∈L,l.N<=L.foldl (fun a l=>max a l.N) a)/\∀b,a<=b->(∀l∈L,l.N<=b)->L.foldl (fun a l=>max a l.N) a<=b:=by
 induction L with
 | nil=>intro a;exact⟨Int.le_refl _,z0D,fun b h _=>h⟩
 | cons x L ih=>
   intro a;rw[q2D];have h:=ih (max a x.N);refine⟨z0C,fun l hl=>?_,fun b hb hl=>h.2.2 b ?_ fun l h=>hl l (q1W _ h)⟩
   ·rcases V9.1 hl with rfl|hl
    ·omega
    ·exact h.2.1 l hl
   ·have:=hl x q2M;omega
noncomputable def a0O(p:c6)(s:c4):c4×Int:=bif (c4o p s).2 then((c4o p s).1,0)else(default,2)
def c1S(p:c6)(s:c4)(hpre:a0m p=true/\a2w p s):spZ 144 [(true,[m9 p.Decls,m7 p.Rules]),(true,[i6 s.Rels]),(false,[.f 145 []])] [] (.tup [(true,[i6 (((a0O p s).1).Rels)]),(false,[.i .i64 ((a0O p s).2)])]):=by
 refine sx' false true none Tryz.func144 (q' 3 [aX 2 0,aX 1 1,ax (w' 6 [.sl i7]),az 7 0] (q' 18 [ae 2 3,ac 199 [18],aV 17,aZ 17 0,aZ 17 1,av 8 20,aV 9] (q' 10 [aK 0] (.seq (q' 22 [am 8,aN,aK 0] (fO 0 25 [ar 24 23] 25 1 (q' 26 [ai 2 22 24,aE 2,ax (w' 12 [.s,.i .i64]),aS 2 12 27] (g' 28 [am 10,aG 1 12,ao (.max2 (.t 28) (.t 30)),aV 10])) (g' 32 [aA 24]))) (.seq (q' 13 [aK 0] (fo 2 33 [aM [13,10],aD .leq 33 34] 35 3 (q' 14 [aU true] (lO 4 (.seq (q' 38 [am 14] (cd 38 .skip (.exit 4))) (.block 5 (q' 40 [ae 2 3,am 8,ae 1 4,am 13,ac 206 [40,41,42,43],aV 39,aZ 39 0,aZ 39 1,ax (w' 15 [.sl i7]),aS 1 15 45,aV 16] (.seq (q' 47 [am 16,aO 47] (ci 48 (q' 49 [ao (.bld [.sl i7] []),aS 1 6 49,az 7 2] .ret))) (q' 50 [am 2,ae 1 4,ae 1 15,ao (.callv (.t 50) [.t 51,.t 52])] (.seq (G' 54 [ae 1 15,ac 207 [54],ae 1 4,ac 207 [56],aD .gtr 55 57,aV 14]) (g' 59 [ae 1 15,aS 1 4 59]))))))))) (g' 36 [aB 13]))) (q' 60 [ae 1 4,aS 1 6 60,az 7 0] .ret)))))) [.c 6 true 1,.t 7] [(199,[],a5F),(207,[],a6n),(206,[],b3l),(145,[],a5h)] ?_;intro hb hE;obtain⟨hg,hs⟩:=hpre;have hL:=d0J hg;have hV:=b5G hg;simp only[go_sem];repeat' first|apply cj'|intro hc|exact om'|fail
 refine a7h 2432 ?_;refine lq' false [2,3,4,6,8,22,23] [6] [] (fun i:{i:Nat // i<=(i9 p).1.length}=>[(10,slV (.i .i64 (mxN ((i9 p).1.take i.1)))),(24,slV (.i .i64 i.1))]) (fun i=>[(8,[.c (i6 s.Rels)]),(12,[.nl i7])]) nl' (fun i=>(i9 p).1.length-i.1) (⟨0,z0C⟩) ?_;intro S0 hS0 i;obtain⟨i,hi⟩:=i;simp only[go_sem,hS0];repeat' first|apply cj'|intro hc|exact om'|fail
 ·(refine lpK_n2 (⟨i+1,z0C⟩) _ rfl ?_;simp only[go_sem,hS0]<;>repeat' first|apply W6|exact on'|fail)
  all_goals rw[e1C z0C]
  all_goals(split<;>omega)
 rw[i4 z0C];have hM:=mxF (i9 p).1 0;have hM2:=hM.2.2 ((i9 p).1.length:Int) z0C fun l hl=>(hV.2 l hl).2
 change 0<=mxN (i9 p).1/\(∀l∈(i9 p).1,l.N<=mxN (i9 p).1)/\_ at hM;change mxN (i9 p).1<=_ at hM2;generalize mxN (i9 p).1=M at*;refine lq' false [2,3,4,6,8,10] [6] [] (fun i:{q:Nat×c4 // (q.1:Int)<=M+1/\upR p (i9 p).1 s q.1=(q.2,true)}=>[(13,slV (.i .i64 i.1.1))]) (fun i=>[(8,[.c (i6 i.1.2.Rels)]),(12,[.nl i7])]) nl' (fun i=>(M+1-i.1.1).toNat) (⟨(0,s),by show((0:Nat):Int)<=M+1;omega,rfl⟩) ?_;intro S1 hS1 i;obtain⟨⟨m,st⟩,hm,hu0⟩:=i;simp only at hm hu0;have hu:(upR p (i9 p).1 s m).2=true:=by rw[hu0]
 have hst:=c3u hg hV.1 hs hu;rw[hu0]at hst;simp only at hst;have hr0:=a2c hst.1;have hup:upR p (i9 p).1 s (m+1)=a5Z p (i9 p).1 m st:=by rw[upR,hu0];rfl
 simp only[go_sem,hS0,hS1];repeat' first|apply cj'|intro hc|exact om'|fail
 rotate_left
 ·have h1:=d1j hg hV.1 hs (n:=m) (m:=(i9 p).1.length+1) (fun l hl=>by have:=hM.2.1 l hl;omega) z0C hu;rw[a0O,c4o,h1,hu0];exact⟨rfl,rfl⟩
 refine lq' false [2,3,4,6,8,10,13] [6] [] (fun i:{q:Bool×c4 // a2w p q.2/\(q.1=true->a5Z p (i9 p).1 m q.2=a5Z p (i9 p).1 m st)/\(q.1=false->a5Z p (i9 p).1 m st=(q.2,true))}=>[(14,slV (.b i.1.1))]) (fun i=>[(8,[.c (i6 i.1.2.Rels)]),(12,[.nl i7])]) nl' (fun i=>(bif i.1.1 then 7202-y9 i.1.2 else 0)) (⟨(true,st),hst,fun _=>rfl,fun h=>by cases h⟩) ?_;intro S2 hS2 i;obtain⟨⟨r,o⟩,ho,hrl,hrx⟩:=i;simp only at ho hrl hrx;have ho0:=a2c ho.1;have hstep:=c6a hg hV.1 (n:=m) ho;simp only[go_sem,hS0,hS1,hS2];repeat' first|apply cj'|intro hc|exact om'|fail
 ·exact⟨⟨hg,ho.1⟩,z0C⟩
 ·have e:=(hrl ‹r=true›).symm.trans hstep;rw[hc,V2]at e;have h1:(upR p (i9 p).1 s (m+1)).2=false:=by rw[hup,e]
  have h3:upR p (i9 p).1 s ((i9 p).1.length+1)=(default,false):=by
   by_cases he:m+1=(i9 p).1.length+1
   ·rw[<-he,hup,e]
   ·exact(c8y h1 z0C).2 (by omega)
  rw[a0O,c4o,h3];exact⟨rfl,rfl⟩
 ·exact(a4j hg ho.1 ho.2 hV.1 hc).1
 ·exact ho.1
 ·have e:=(hrl ‹r=true›).symm.trans hstep;rw[hc,W8]at e;have h3:=a4j hg ho.1 ho.2 hV.1 hc;have h4:=a2c h3.1;have e1:decide ((y9 o:Int)<y9 (t5 p (i9 p).1 o m).1)=true->a5Z p (i9 p).1 m (t5 p (i9 p).1 o m).1=a5Z p (i9 p).1 m st:=fun h=>by
   have:=of_decide_eq_true h;rw[e,V0 z0C,W8]
  have e2:decide ((y9 o:Int)<y9 (t5 p (i9 p).1 o m).1)=false->a5Z p (i9 p).1 m st=((t5 p (i9 p).1 o m).1,true):=fun h=>by
   have:=of_decide_eq_false h;rw[e,V3 z0C,V2]
  have e4:(bif decide ((y9 o:Int)<y9 (t5 p (i9 p).1 o m).1)then 7202-y9 (t5 p (i9 p).1 o m).1 else 0)<(bif r then 7202-y9 o else 0):=by
   rw[‹r=true›,W8];cases h:decide ((y9 o:Int)<y9 (t5 p (i9 p).1 o m).1)with
   | false=>rw[V2];omega
   | true=>have:=of_decide_eq_true h;rw[W8];omega
  (refine lpK_n2 (⟨(decide ((y9 o:Int)<y9 (t5 p (i9 p).1 o m).1),(t5 p (i9 p).1 o m).1),h3,e1,e2⟩) _ rfl ?_;simp only[go_sem,hS0,hS1,hS2]<;>repeat' first|apply W6|exact on'|fail)
 ·have e3:upR p (i9 p).1 s (m+1)=(o,true):=by rw[hup,hrx hc]
  (refine lpK_n2 (⟨(m+1,o),by show((m+1:Nat):Int)<=M+1;omega,e3⟩) _ rfl ?_;simp only[go_sem,hS0,hS1,hS2]<;>repeat' first|apply W6|exact on'|fail)
noncomputable def a8X:CT:=k8 (fun(x:c6×c4) h=>c1S x.1 x.2 h)
@[go_sem] def d4N:=fun x0 x1 x2=>nm' (fP' a8X rfl (⟨x0,x1⟩,⟨x2⟩))
def d8d{p:c6}(hg:a0m p=true){d:e7}(hm:d∈p.Decls):a0G p d.Name=d/\w6 p d.Name=d.Arity:=by
 have hd:=(a4V z17).2.1;obtain⟨i,hi,rfl⟩:=q1H hm;rw[<-j7 default hi];have ha:((p.Decls.take i).any fun d=>d.Name==(p.Decls.getD i default).Name)=false:=by
  rw[q2R];intro x hx;obtain⟨j,hj,rfl⟩:=q2V.1 hx;have:=a7A hd hi (j:=j) z0C;rw[j7 default z0C]at this;simpa using this
 have h1:=b0b hi ha z0D;have h2:=hd i hi;rw[v6]at h2;simp only[q0U]at h2;refine⟨h1.1, ?_⟩;rw[w6,h2.1.1,h2.1.2,h1.2,h1.1];rfl
def d8f:∀l:List e7,∀x∈a0h l,∃d∈l,d.Name=x.Name/\d.Arity=x.Rel.Arity:=by
 intro l;have gen:∀(l:List e7) (s:List c9) (L:List e7),(∀d∈l,d∈L)->(∀x∈s,∃d∈L,d.Name=x.Name/\d.Arity=x.Rel.Arity)->∀x∈l.foldl (fun s d=>a2e s d.Name ⟨d.Name,⟨d.Arity,[]⟩⟩) s,∃d∈L,d.Name=x.Name/\d.Arity=x.Rel.Arity:=by
  intro l
  induction l with
  | nil=>intro s L _ h;exact h
  | cons d l ih=>
    intro s L hl h;rw[q2D];refine ih _ L (fun y hy=>hl y (q1W _ hy)) fun x hx=>?_
    rcases a9Q hx with rfl|hx
    ·exact⟨d,hl d q2M,rfl,rfl⟩
    ·exact h x hx
 exact gen l [] l (fun d h=>h) z0D
def a4h{p:c6}{s:c4}(h:a1I p s=true):a0m p=true/\a2w p s:=by
 simp only[a1I,W3]at h;refine⟨h.1.1,h.1.2,fun x hx _=>?_⟩;obtain⟨i,hi,rfl⟩:=q1H hx;have h2:=h.2;simp only[a1G,K7,q0M]at h2;have h3:=a1U.1 h2.2 i hi;simp only[b4o,q0U,q0Q,beq_iff_eq]at h3;obtain⟨d,hd,hn,ha⟩:=d8f (a1Z p 1) _ (u7 (l:=a0h (a1Z p 1)) (i:=i) default z0C);rw[j7 default hi]at h3;rw[h3.1,h3.2,<-hn,<-ha];exact((d8d h.1.1 (q1A.1 hd).1).2).symm
def c1c{p:c6}{s:c4}(hg:a0m p=true)(hs:a2w p s):j6 (a0O p s).1=true:=by
 rw[a0O];cases h:(c4o p s).2 with
 | false=>rfl
 | true=>exact(c3u hg (b5G hg).1 hs h).1
noncomputable def a5B(p:c6)(s:c4):c4×Int:=bif a1I p s then a0O p s else(default,1)
def with_ok(p:c6)(s:c4):j6 (a5B p s).1=true:=by
 rw[a5B];cases h:a1I p s with
 | false=>rfl
 | true=>exact c1c (a4h h).1 (a4h h).2
def d1o{p:c6}{s:c4}(h:a1I p s=false):a5B p s=(default,1):=by rw[a5B,h];rfl
def b0u{p:c6}{s:c4}(h:a1I p s=true):a5B p s=a0O p s:=by rw[a5B,h];rfl
def b8A(p:c6)(s:c4)(hpre:a0m p=true/\a2w p s):spZ 78 [(true,[m9 p.Decls,m7 p.Rules]),(true,[i6 s.Rels])] [] (.tup [(true,[i6 (((a0O p s).1).Rels)]),(false,[.i .i64 ((a0O p s).2)])]):=by
 refine sx' false true none Tryz.func78 (q' 2 [aX 2 0,aX 1 1,aw [.sl i7],aK 0] (q' 6 [ae 2 2,ae 1 3,ao (.call 144 [.t 6,.t 7,.k (.v false [.c (.f 145 [])])]),aZ 8 0,aZ 8 1,aS 1 4 9,aV 5] .ret)) [.c 4 true 1,.t 5] [(144,[],a8X)] ?_;intro hb hE;simp only[go_sem];repeat' first|apply cj'|intro hc|exact om'|fail
 ·exact hpre
noncomputable def a3J:CT:=k8 (fun(x:c6×c4) h=>b8A x.1 x.2 h)
@[go_sem] def d2T:=fun x0 x1 x2=>nm' (fP' a3J rfl (⟨x0,x1⟩,⟨x2⟩))
def b6l(p:c6)(s:c4):spZ 102 [(true,[m9 p.Decls,m7 p.Rules]),(true,[i6 s.Rels])] [] (.tup [(true,[i6 (((a5B p s).1).Rels)]),(false,[.i .i64 ((a5B p s).2)])]):=by
 refine sx' false true none Tryz.func102 (q' 2 [aX 2 0,aX 1 1,aw [.sl i7],aK 0] (.seq (q' 8 [ae 2 2,ae 1 3,ac 71 [8,9],aO 10] (ci 11 (q' 12 [ao (.bld [.sl i7] []),aS 1 4 12,az 5 1] .ret))) (q' 14 [ae 2 2,ae 1 3,ac 73 [14,15],aV 13,aZ 13 0,aZ 13 1,ax (w' 6 [.sl i7]),aS 1 6 17,aV 7] (.seq (q' 19 [am 7,aO 19] (ci 20 (q' 21 [ao (.bld [.sl i7] []),aS 1 4 21,az 5 2] .ret))) (q' 22 [ae 1 6,aS 1 4 22,az 5 0] .ret))))) [.c 4 true 1,.t 5] [(71,[],a9B),(73,[],b1i)] ?_;intro hb hE;simp only[go_sem];repeat' first|apply cj'|intro hc|exact om'|fail
 ·rw[d1o hc];exact⟨rfl,rfl⟩
 ·exact a4h hc
 ·rename_i h;rw[b0u h,a0O,hc];exact⟨rfl,rfl⟩
 ·rename_i h;rw[b0u h,a0O,hc];exact⟨rfl,rfl⟩
noncomputable def a6H:CT:=j8 (fun(x:c6×c4)=>b6l x.1 x.2)
@[go_sem] def d1S:=fun x0 x1 x2=>nm' (fQ' a6H rfl (⟨x0,x1⟩,⟨x2⟩))
def b0C(p:c6)(x:c9):Bool:=a0H p x.Name==3
def b2g(p:c6)(s:c4):c4:=⟨s.Rels.filter (b0C p)⟩
noncomputable def a0b(p:c6)(s:c4):c4×Int:=(b2g p (a5B p s).1,(a5B p s).2)
def d8H{l:List c9}{x:c9}(h:∀y∈l,sLt y.Name x.Name=true):a2e l x.Name x=l++[x]:=by
 have e:l.takeWhile (fun y=>sLt y.Name x.Name)=l/\l.dropWhile (fun y=>sLt y.Name x.Name)=[]:=by
  induction l with
  | nil=>exact⟨rfl,rfl⟩
  | cons y l ih=>
    have h1:=h y q2M;obtain⟨a,b⟩:=ih fun z hz=>h z (q1W _ hz)
    exact⟨by rw[q2G,if_pos h1,a],by rw[q3D,if_pos h1,b]⟩
 obtain⟨e1,e2⟩:=e;rw[a7D,e1,e2];rfl
def d8h{p:c6}{s:c4}(hs:SS sLt (s.Rels.map c9.Name))(hi:i<s.Rels.length):∀y∈(s.Rels.take i).filter (b0C p),sLt y.Name (s.Rels.getD i default).Name=true:=by
 intro y hy;obtain⟨j,hj,rfl⟩:=q2V.1 (q1A.1 hy).1;have h:=q2N.1 (q3R.1 hs) j i z0C hi z0C;rw[j7 default hi];exact h
def b0d{p:c6}{s:c4}(h:i<s.Rels.length):(s.Rels.take (i+1)).filter (b0C p)=(s.Rels.take i).filter (b0C p)++(bif b0C p (s.Rels.getD i default)then[s.Rels.getD i default]else[]):=by
 rw[j3 default h,q4H,q4E];cases b0C p (s.Rels.getD i default)<;>rfl
def d5Q{p:c6}{s:c4}(h:s.Rels.length<=1000/\∀x∈s.Rels,x.Rel.Rows.length<=100000/\∀y∈x.Rel.Rows,y.V.length<1000)(i:Nat):((s.Rels.take i).filter (b0C p)).length<=1000/\∀x∈(s.Rels.take i).filter (b0C p),x.Rel.Rows.length<=100000/\∀y∈x.Rel.Rows,y.V.length<1000:=
 ⟨q2X (q1X _ _) z07,fun x hx=>h.2 x (q1V (q1A.1 hx).1)⟩
def a6U(p:c6)(s:c4)(hpre:s.Rels.length<=1000/\∀x∈s.Rels,x.Rel.Rows.length<=100000/\∀y∈x.Rel.Rows,y.V.length<1000):spZ 114 [(true,[m9 p.Decls,m7 p.Rules]),(true,[i6 s.Rels])] [] (.one (true,[a4f ((b2g p s).Rels)])):=by
 refine sx' true false none Tryz.func114 (q' 2 [aX 2 0,aX 1 1,aw [.sl i7]] (q' 5 [ax (o' 8 (.bld [.sl i7] [])),aw [.sl i7],aS 1 5 8] (.seq (q' 9 [aG 0 3,aN,aK 0] (fO 0 13 [ar 12 11] 13 1 (q' 14 [ai 3 10 12,aE 3,ax (w' 7 [.s,.i .i64,.sl i5]),aS 3 7 15] (q' 16 [ae 2 2,aG 0 7,ac 143 [16,18],aC .eql 19 3] (ci 20 (g' 21 [aG 0 5,ae 3 7,ao (.bsl 3 1 [.s,.i .i64,.sl i5] [(0,.t 23)]),ao (.app 3 48 [.s,.i .i64,.sl i5] (.t 22) (.t 24)),af 0 5,aS 1 26 25])))) (g' 27 [aA 12]))) (q' 28 [ae 1 5,ac 95 [28],aS 1 4 29] .ret)))) [.c 4 true 1] [(143,[],a0V),(95,[],a6m)] ?_;intro hb hE;obtain⟨hl,hv⟩:=hpre;simp only[go_sem];repeat' first|apply cj'|intro hc|exact om'|fail
 refine b9r false [(true,10,0,200020)] ?_;refine lk' true [(true,10,0,200020)] [2,4,5,10,11] [4,8] [] (fun i:{i:Nat // i<=s.Rels.length}=>[(12,slV (.i .i64 i.1))]) (fun i=>[(10,[.ow 200020])]) (fun i=>[(200020,i7,((s.Rels.take i.1).filter (b0C p)).map (c9.cells false false))]) (fun i=>s.Rels.length-i.1) (⟨0,z0D⟩) ?_;intro S0 hS0 i;obtain⟨i,hi⟩:=i;have hol:((s.Rels.take i).filter (b0C p)).length<=i:=q2X (q1X _ _) z07;simp only[go_sem,hS0];repeat' first|apply cj'|intro hc|exact om'|fail
 ·skip
  (refine lpK_n2 (⟨i+1,z0C⟩) _ z0E ?_;simp only[go_sem,hS0]<;>repeat' first|apply W6|exact on'|fail)
  all_goals(rw[b0d z0C,b0C,hc];rfl)
 ·skip
  (refine lpK_n2 (⟨i+1,z0C⟩) _ z0E ?_;simp only[go_sem,hS0]<;>repeat' first|apply W6|exact on'|fail)
  all_goals(rw[b0d z0C,b0C,hc,V2,q0D])
 ·exact d5Q ⟨hl,hv⟩ i
 ·rw[i4 z0C];rfl
noncomputable def a6o:CT:=k8 (fun(x:c6×c4) h=>a6U x.1 x.2 h)
@[go_sem] def d1x:=fun x0 x1 x2=>nm' (fP' a6o rfl (⟨x0,x1⟩,⟨x2⟩))
def b1Z(p:c6)(s:c4)(hpre:s.Rels.length<=1000/\∀x∈s.Rels,x.Rel.Rows.length<=100000/\∀y∈x.Rel.Rows,y.V.length<1000):spZ 114 [(true,[m9 p.Decls,m7 p.Rules]),(true,[i6 s.Rels])] [] (.one (true,[i6 ((b2g p s).Rels)])):=by
 exact a1h (a6U p s hpre) z0M
noncomputable def a4x:CT:=k8 (fun(x:c6×c4) h=>b1Z x.1 x.2 h)
@[go_sem] def c8F:=fun x0 x1 x2=>nm' (fP' a4x rfl (⟨x0,x1⟩,⟨x2⟩))
def b9p(p:c6)(s:c4)(hpre:j6 s=true):spZ 103 [(true,[m9 p.Decls,m7 p.Rules]),(true,[i6 s.Rels])] [] (.one (true,[i6 ((b2g p s).Rels)])):=by
 refine sx' false true none Tryz.func103 (q' 2 [aX 2 0,aX 1 1,aw [.sl i7]] (q' 5 [ax (o' 8 (.bld [.sl i7] [])),aw [.sl i7],aS 1 5 8] (.seq (q' 9 [aG 0 3,aN,aK 0] (fO 0 13 [ar 12 11] 13 1 (q' 14 [ai 3 10 12,aE 3,ax (w' 7 [.s,.i .i64,.sl i5]),aS 3 7 15] (q' 16 [ae 2 2,aG 0 7,ac 130 [16,18],ao (.fl false 0 1 (.t 19)),aC .eql 20 3] (ci 21 (g' 22 [ae 1 5,aG 0 7,af 1 7,aE 2,ac 108 [22,24,26],aS 1 5 27])))) (g' 28 [aA 12]))) (q' 29 [ae 1 5,aS 1 4 29] .ret)))) [.c 4 true 1] [(130,[],a1c),(108,[],a2f)] ?_;intro hb hE;have hSS:=a2m hpre;have hcp:=b4v hpre;have hsl:=a0I hpre;simp only[go_sem];repeat' first|apply cj'|intro hc|exact om'|fail
 refine b9r false [(true,10,0,200020)] ?_;refine a7h 200020 ?_;refine lq' false [2,4,5,10,11] [4,8] [] (fun i:{i:Nat // i<=s.Rels.length}=>[(12,slV (.i .i64 i.1))]) (fun i=>[(10,[.c (i6 ((s.Rels.take i.1).filter (b0C p)))])]) nl' (fun i=>s.Rels.length-i.1) (⟨0,z0D⟩) ?_;intro S0 hS0 i;obtain⟨i,hi⟩:=i;have hol:((s.Rels.take i).filter (b0C p)).length<=i:=q2X (q1X _ _) z07;simp only[go_sem,hS0];repeat' first|apply cj'|intro hc|exact om'|fail
 ·have h:=hcp.2 _ (A3w (l:=s.Rels) (d:=default) (i:=i) z0C);exact⟨⟨d5Q hcp i,h.1⟩,h.2⟩
 ·skip
  (refine lpK_n2 (⟨i+1,z0C⟩) _ rfl ?_;simp only[go_sem,hS0]<;>repeat' first|apply W6|exact on'|fail)
  all_goals(rw[b0d z0C,b0C,a0H,hc,W8,d8H (d8h hSS z0C)])
 ·skip
  (refine lpK_n2 (⟨i+1,z0C⟩) _ rfl ?_;simp only[go_sem,hS0]<;>repeat' first|apply W6|exact on'|fail)
  all_goals(rw[b0d z0C,b0C,a0H,hc,V2,q0D])
 ·rw[i4 z0C];rfl
noncomputable def a8q:CT:=k8 (fun(x:c6×c4) h=>b9p x.1 x.2 h)
@[go_sem] def d3H:=fun x0 x1 x2=>nm' (fP' a8q rfl (⟨x0,x1⟩,⟨x2⟩))
def d1n{p:c6}{s:c4}(h:a1I p s=false):a0b p s=(default,1):=by rw[a0b,d1o h];rfl
def d8Q{p:c6}{s:c4}(h:¬(a5B p s).2=0):(a0b p s).1=default:=by
 rw[a0b];have e:(a5B p s).1=default:=by
  rw[a5B]at h ⊢;cases h1:a1I p s with
  | false=>rfl
  | true=>
    rw[h1,W8,a0O]at h;rw[W8,a0O];cases h2:(c4o p s).2 with
    | false=>rfl
    | true=>rw[h2]at h;exact absurd rfl h
 rw[e];rfl
def b3K(p:c6)(s:c4):spZ 58 [(true,[m9 p.Decls,m7 p.Rules]),(true,[i6 s.Rels])] [] (.tup [(true,[a4f (((a0b p s).1).Rels)]),(false,[.i .i64 ((a0b p s).2)])]):=by
 refine sx' true false none Tryz.func58 (q' 2 [aX 2 0,aX 1 1,aw [.sl i7],aK 0] (.seq (q' 8 [ae 2 2,ae 1 3,ac 76 [8,9],aO 10] (ci 11 (q' 12 [ao (.bld [.sl i7] []),aS 1 4 12,az 5 1] .ret))) (q' 14 [ae 2 2,ae 1 3,ac 78 [14,15],aV 13,aZ 13 0,aZ 13 1,ax (w' 6 [.sl i7]),aS 1 6 17,aV 7] (q' 19 [ae 2 2,ae 1 6,ac 114 [19,20],am 7,aS 1 4 21,aV 5] .ret)))) [.c 4 true 1,.t 5] [(76,[],a8T),(78,[],a3J),(114,[],a6o)] ?_;intro hb hE;simp only[go_sem];repeat' first|apply cj'|intro hc|exact om'|fail
 ·rw[d1n hc];exact⟨rfl,rfl⟩
 ·exact a4h hc
 ·exact b4v (c1c (a4h hc).1 (a4h hc).2)
 ·rw[a0b,b0u hc];exact⟨rfl,rfl⟩
noncomputable def c6V:CT:=j8 (fun(x:c6×c4)=>b3K x.1 x.2)
@[go_sem] def d9d:=fun x0 x1 x2=>nm' (fQ' c6V rfl (⟨x0,x1⟩,⟨x2⟩))
def c1N(p:c6)(s:c4):spZ 58 [(true,[m9 p.Decls,m7 p.Rules]),(true,[i6 s.Rels])] [] (.tup [(true,[i6 (((a0b p s).1).Rels)]),(false,[.i .i64 ((a0b p s).2)])]):=by
 exact a1h (b3K p s) z0M
noncomputable def a8U:CT:=j8 (fun(x:c6×c4)=>c1N x.1 x.2)
@[go_sem] def d4I:=fun x0 x1 x2=>nm' (fQ' a8U rfl (⟨x0,x1⟩,⟨x2⟩))
def c8g(p:c6)(s:c4):spZ 51 [(true,[m9 p.Decls,m7 p.Rules]),(true,[i6 s.Rels])] [] (.tup [(true,[i6 (((a0b p s).1).Rels)]),(false,[.i .i64 ((a0b p s).2)])]):=by
 refine sx' false true none Tryz.func51 (q' 2 [aX 2 0,aX 1 1,aw [.sl i7],aK 0] (q' 9 [ae 2 2,ae 1 3,ac 102 [9,10],aV 8,aZ 8 0,aZ 8 1,ax (w' 6 [.sl i7]),aS 1 6 12,aV 7] (.seq (q' 14 [am 7,aC .neq 14 0] (ci 15 (q' 16 [ao (.bld [.sl i7] []),am 7,aS 1 4 16,aV 5] .ret))) (q' 18 [ae 2 2,ae 1 6,ac 103 [18,19],aS 1 4 20,az 5 0] .ret)))) [.c 4 true 1,.t 5] [(102,[],a6H),(103,[],a8q)] ?_;intro hb hE;simp only[go_sem];repeat' first|apply cj'|intro hc|exact om'|fail
 ·rw[d8Q z0O];exact⟨rfl,rfl⟩
 ·exact with_ok p s
 ·exact⟨rfl,(show(a5B p s).2=0 by simpa using hc).symm⟩
noncomputable def b3u:CT:=j8 (fun(x:c6×c4)=>c8g x.1 x.2)
@[go_sem] def d9E:=fun x0 x1 x2=>nm' (fQ' b3u rfl (⟨x0,x1⟩,⟨x2⟩))
end Go.Aw
namespace Go.Aw
open Go.Proofs
attribute [local irreducible] aft blk lpK retK AW A0d
set_option linter.all false
set_option maxRecDepth 100000
set_option maxHeartbeats 4000000
def c5l(a:d8)(b:d8):spZ 231 [(true,[.i .i64 a.Arity,n9 a.Rows]),(true,[.i .i64 b.Arity,n9 b.Rows])] [] (.one (false,[.b (n8 a&&n8 b&&(a.Arity==b.Arity))])):=by
 refine sy' Tryz.func231 (q' 2 [aX 2 0,aX 2 1,aU false] (q' 5 [ae 2 2,ac 180 [5],am 6,aH 7 true [be 2 3,bc 180 [8]],aP 7 9,am 10,aH 11 true [bf 0 2,bL,bf 0 3,bL,bD .eql 13 15],aP 11 16,aV 4] .ret)) [.t 4] [(180,[],a7r)] ?_;intro hb hE;simp only[go_sem];repeat' first|apply cj'|intro hc|exact om'|fail
noncomputable def b1e:CT:=j8 (fun(x:d8×d8)=>c5l x.1 x.2)
@[go_sem] def d7Q:=fun x0 x1 x2 x3=>nm' (fQ' b1e rfl (⟨x0,x1⟩,⟨x2,x3⟩))
attribute [local irreducible] RM
def isPt(x:d3):Bool:=(x.V.getD 0 default).S==[]&&(decide (1<=(x.V.getD 0 default).N)&&decide ((x.V.getD 0 default).N<=255))
def ptsL(l:List d3):List Int:=(l.filter isPt).map fun x=>(x.V.getD 0 default).N
noncomputable def fwRows(s:c4)(q:c8->Bool)(L:List c8):List d3:=L.flatMap fun r=>bif q r then(a0i r s).1.Rows else[]
@[go_sem] def fwRows_nil(s:c4)(q:c8->Bool):fwRows s q []=[]:=rfl
@[go_sem] def ptsL_nil:ptsL []=[]:=rfl
end Go.Aw
namespace Go.Aw
set_option maxHeartbeats 4000000
open Go.Proofs
set_option linter.all false
set_option maxRecDepth 100000
attribute [local irreducible] aft blk lpK retK AW A0d
attribute [local irreducible] RM
end Go.Aw
namespace Go.Aw
set_option linter.all false
set_option maxHeartbeats 4000000
def b9B{a b:Prop}:CJ a b=(a/\b):=propext ⟨fun h=>⟨h.l,h.r⟩,fun h=>cj' h.1 h.2⟩
variable{l:List e8}{i k x:Nat}{st:St}
def a2P{l:List AC}{y:AC}:(st.setBx x l).sub k y=(st.sub k y).setBx x (E8 k y l):=by
 simp only[St.setBx,St.sub,St.mk.injEq,q0J,q0L]
 funext z
 by_cases h:z=x<;>simp[h]
def a1E{l:List AC}{z:List C}{r:List (List C)}:(st.setBx x l).setOw k z r=(st.setOw k z r).setBx x l:=rfl
def a3E{y:AC}:(st.susB x).sub k y=(st.sub k y).susB x:=by
 simp only[St.susB,St.sub,St.mk.injEq,q0J,q0L]
 funext z
 by_cases h:z=x<;>simp[h]
def a2b{z:List C}{r:List (List C)}:(st.susB x).setOw k z r=(st.setOw k z r).susB x:=rfl
def a3D:(st.susB x).dip k=(st.dip k).susB x:=rfl
def a2a{l:List AC}:(st.susB x).setBx x l=st.setBx x l:=by
 simp only[St.susB,St.setBx,St.mk.injEq,q0J,q0L]
 funext z
 by_cases h:z=x<;>simp[h]
def a2O{l:List AC}:(st.setBx x l).dip k=(st.dip k).setBx x l:=rfl
open Go.Proofs
attribute [local irreducible] aft blk lpK retK AW A0d
attribute [local irreducible] RM
set_option maxRecDepth 100000
def v8(a b:List d3)(i:Bool):List d3:=a.filter fun x=>a0K b x==i
def c3o{b l:List d3}{j:Bool}(h:i<l.length)(hp:(a0K b (l.getD i default)==j)=true):v8 (l.take (i+1)) b j=v8 (l.take i) b j++[l.getD i default]:=by
 rw[j3 default h];unfold v8;rw[q4H];simp only[q4E,hp,if_true,q5P]
def c8s{b l:List d3}{j:Bool}(h:i<l.length)(hp:(a0K b (l.getD i default)==j)=false):v8 (l.take (i+1)) b j=v8 (l.take i) b j:=by
 rw[j3 default h];unfold v8;rw[q4H];simp only[q4E,hp,q2S,if_false,q5P,q0D]
def a5x(l b:List d3)(j:Bool):(v8 l b j).length<=l.length:=q1X _ _
def b4p{r:d8}(h:n8 r=true)(hi:i<r.Rows.length):a0Z (r.Rows.getD i default)=true/\(r.Rows.getD i default).V.length=r.Arity:=by
 simp only[n8,W3,q0M]at h;have h1:=a1U.1 h.2 i hi;simp only[a0P,q0U,q0Q,beq_iff_eq]at h1;exact⟨h1.1.2,h1.1.1⟩
def d6n{r:d8}(h:n8 r=true)(hi:i<r.Rows.length):(r.Rows.getD i default).V.length<1000000:=by
 have:=(b6E (b4p h hi).1).1;omega
def a9O(a:d8)(b:d8)(j:Bool)(hpre:a.Rows.length<=100000/\∀x∈a.Rows,x.V.length<1000):spZ 106 [(true,[.i .i64 a.Arity,n9 a.Rows]),(true,[.i .i64 b.Arity,n9 b.Rows]),(false,[.b j])] [] (.one (true,[.i .i64 ((⟨a.Arity,v8 a.Rows b.Rows j⟩:d8).Arity),a4Q ((⟨a.Arity,v8 a.Rows b.Rows j⟩:d8).Rows)])):=by
 refine sx' true false none Tryz.func106 (q' 3 [aX 2 0,aX 2 1,ax (w' 6 [.i .i64,.sl i5])] (q' 9 [aG 0 3,ao (.bld [.i .i64,.sl i5] [(0,1, .t 10)]),ax (w' 7 [.i .i64,.sl i5]),aS 2 7 11] (.seq (q' 12 [aG 1 3,aN,aK 0] (fO 0 16 [ar 15 14] 16 1 (q' 17 [am 15,aV 8] (.seq (G' 18 [aG 1 4,aG 1 3,am 8,aI 1,aE 1,ac 176 [19,24],am 2,ao (.binb .eql (.t 25) (.t 26))]) (ci 27 (rm' [(true,2,f' 30 1 3),(true,3,l' 31 30), (true,4,m' 32 8),(true,5,i' 33 1 31 32),(true,6,e' 34 1 33),(false,0,f' 28 1 7),(false,1,l' 29 28),(false,7,c' 35 177 [34]),(false,8,o' 36 (.bsl 1 1 [.sl l9] [(0,.t 35)])),(false,9,o' 37 (.app 1 24 [.sl l9] (.t 29) (.t 36))),(false,10,f' 38 1 7),(false,11, s' 1 38 37)] [[0,1,2,3,4,5,7,6,8,9,10,11],[0,1,2,3,4,5,7,8,6,9,10,11],[0,1,2,3,4,7,5,6,8,9,10,11],[0,1,2,3,4,7,5,8, 6,9,10,11],[0,1,2,3,4,7,8,5,6,9,10,11]] [6,7])))) (g' 39 [aA 15]))) (q' 40 [ae 2 7,aS 2 6 40] .ret)))) [.c 6 true 2] [(176,[],a3q),(177,[],b1d)] ?_;intro hb hE;obtain⟨hl,hv⟩:=hpre;simp only[go_sem];(repeat' first|apply cj'|intro hc|apply a0f);(all_goals(try(refine(show A3F _ _ _ _ _ _ from ?_);simp only[go_sem]at hc ⊢;simp only[go_sem,K0]at hc ⊢;simp only[hc,K5];done)));all_goals try exact om'
 refine lk' true [(true,14,1,200028)] [2,3,4,6,7,14] [6,8,12,7] [] (fun i:{q:Nat // q<=a.Rows.length}=>[(15,slV (.i .i64 i.1))]) (fun i=>[(14,[.c (.i .i64 a.Arity),.ow 200028])]) (fun i=>[(200028,b1r,(v8 (a.Rows.take i.1) b.Rows j).map (d3.cells true true))]) (fun i=>a.Rows.length-i.1) (⟨0,z0D⟩) ?_;intro S0 hS0 i;obtain⟨n,hn⟩:=i;have hle:=a5x (a.Rows.take n) b.Rows j;rw[V1]at hle;have hm:=fun(h:n<a.Rows.length)=>hv _ (u7 default h)
 simp only[go_sem,hS0];(repeat' first|apply cj'|intro hc|apply a0f);(all_goals(try((first|refine a0B 5 rfl ?_);intro S hS B0 hB;simp only[go_sem,hS0,K6]at hS hB;(repeat(first|replace hS:=And.right hS|replace hS:=CJ.r hS));have Rr7:=congrArg (fun s:St=>s.sl 7) hS;have Rr34:=congrArg (fun s:St=>s.sl 34) hS;have Rb14:=congrArg (fun s:St=>s.bx 14) hS;have Rb6:=congrArg (fun s:St=>s.bx 6) hS;have Rb7:=congrArg (fun s:St=>s.bx 7) hS;have Ro200028:=congrArg (fun s:St=>s.ow 200028) hS;clear hS;simp only[go_sem,hS0]at Rr7 Rr34 Rb14 Rb6 Rb7 Ro200028;(try clear hc);intro K hc;simp only[go_sem,hS0,Rr7,Rr34,Rb14,Rb6,Rb7,Ro200028,hB,K3]at hc ⊢;simp only[go_sem,hS0,Rr7,Rr34,Rb14,Rb6,Rb7,Ro200028,hB,K0]at hc ⊢;(first|(simp only[hc,K5];done)|((repeat' first|exact hc|apply W6);done)))));all_goals try exact om'
 ·(refine lpK_n2 (⟨n+1,z0C⟩) _ z0E ?_;simp only[go_sem,hS0]<;>repeat' first|apply W6|exact on'|fail)
  all_goals rw[c3o z0C hc]
 ·(refine lpK_n2 (⟨n+1,z0C⟩) _ z0E ?_;simp only[go_sem,hS0]<;>repeat' first|apply W6|exact on'|fail)
  all_goals rw[c8s z0C hc]
 ·rw[i4 z0C]
noncomputable def a2H:CT:=k8 (fun(x:d8×d8×Bool) h=>a9O x.1 x.2.1 x.2.2 h)
@[go_sem] def d5C:=fun x0 x1 x2 x3 j=>nm' (fP' a2H rfl (⟨x0,x1⟩,⟨x2,x3⟩,j))
def c2a(t:d3)(b:d8)(hpre:n8 b=true/\a0Z t=true):spZ 187 [(true,[o5 t.V]),(false,[.p [.i .i64 b.Arity,n9 b.Rows]])] [] (.one (false,[.b (!a0K b.Rows t)])):=by
 refine sy' Tryz.func187 (q' 2 [aX 1 0,aU false] (q' 4 [ae 2 1,ae 1 2,ac 155 [4,5],aO 6,aV 3] .ret)) [.t 3] [(155,[],a7m)] ?_;intro hb hE;simp only[go_sem];repeat' first|apply cj'|intro hc|exact om'|fail
 exact hpre
noncomputable def a9c:CT:=k8 (fun(x:d3×d8) h=>c2a x.1 x.2 h)
@[go_sem] def d4V:=fun x0 x1 x2=>nm' (fP' a9c rfl (⟨x0⟩,⟨x1,x2⟩))
def c4B(t:d3)(b:d8)(hpre:n8 b=true/\a0Z t=true):spZ 274 [(true,[o5 t.V]),(false,[.p [.i .i64 b.Arity,n9 b.Rows]])] [] (.one (false,[.b (a0K b.Rows t)])):=by
 refine sy' Tryz.func274 (q' 2 [aX 1 0,aU false] (q' 4 [ae 2 1,ae 1 2,ac 155 [4,5],aV 3] .ret)) [.t 3] [(155,[],a7m)] ?_;intro hb hE;simp only[go_sem];repeat' first|apply cj'|intro hc|exact om'|fail
 exact hpre
noncomputable def b0L:CT:=k8 (fun(x:d3×d8) h=>c4B x.1 x.2 h)
@[go_sem] def d7f:=fun x0 x1 x2=>nm' (fP' b0L rfl (⟨x0⟩,⟨x1,x2⟩))
@[go_sem] def a6e:ACode:=q' 2 [aX 2 0,ax (w' 4 [.i .i64,.sl i5])] (q' 8 [aG 0 2,ao (.bld [.i .i64,.sl i5] [(0,1,.t
 9)]),ax (w' 5 [.i .i64,.sl i5]),aS 2 5 10] (.seq (q' 11 [aG 1 2,aN,aK 0] (fO 0 15 [ar 14 13] 15 1 (q' 16 [ai 1 12 14,aE 1,ax
 (w' 7 [.sl l9]),aS 1 7 17] (q' 18 [am 1,ae 1 7,ao (.callv (.t 18) [.t 19])] (ci 20 (rm' [(true,2,e' 23 1 7),(false,0,f' 21 1 5),(false,
 1,l' 22 21),(false,3,c' 24 227 [23]),(false,4,o' 25 (.bsl 1 1 [.sl l9] [(0,.t 24)])),(false,5,o' 26 (.app 1 24 [.sl l9] (.t 22) (.t 25))),(false,6,f' 27 1 5),(false,7,s' 1 27 26)] [[0,1,3,2,4,5,6,7],[0,1,3,4,2,5,6,7],[0,3,1,2,4,5,6,7],[0,3,
 1,4,2,5,6,7],[0,3,4,1,2,5,6,7]] [14,15])))) (g' 28 [aA 14]))) (q' 29 [ae 2 5,aS 2 4 29] .ret)))
def b3P(r:d8)(b:d8)(hpre:n8 r=true/\n8 b=true):spZ 186 [(true,[.i .i64 r.Arity,n9 r.Rows]),(false,[.f 187 [.p [.i .i64 b.Arity,n9 b.Rows]]])] [] (.one (true,[.i .i64 ((⟨r.Arity,v8 r.Rows b.Rows false⟩:d8).Arity),a4Q ((⟨r.Arity,v8 r.Rows b.Rows false⟩:d8).Rows)])):=by
 refine sx' true false none Tryz.func186 a6e [.c 4 true 2] [(187,[],a9c),(227,[],a2C)] ?_;intro hb hE;obtain⟨hr,hb0⟩:=hpre;simp only[go_sem];(repeat' first|apply cj'|intro hc|apply a0f);(all_goals(try(refine(show A3F _ _ _ _ _ _ from ?_);simp only[go_sem]at hc ⊢;simp only[go_sem,K0]at hc ⊢;simp only[hc,K5];done)));all_goals try exact om'
 refine lk' true [(true,10,1,200020)] [1,4,5,12,13] [8,15] [] (fun i:{i:Nat // i<=r.Rows.length}=>[(14,slV (.i .i64 i.1))]) (fun i=>[(10,[.c (.i .i64 r.Arity),.ow 200020])]) (fun i=>[(200020,b1r,(v8 (r.Rows.take i.1) b.Rows false).map (d3.cells true true))]) (fun i=>r.Rows.length-i.1) (⟨0,z0D⟩) ?_;intro S0 hS0 i;obtain⟨i,hi⟩:=i;have hle:=a5x (r.Rows.take i) b.Rows false;rw[V1]at hle;have h3:=a1g hr;simp only[go_sem,hS0];(repeat' first|apply cj'|intro hc|apply a0f);(all_goals(try((first|refine a0B 1 rfl ?_);intro S hS B0 hB;simp only[go_sem,hS0,K6]at hS hB;(repeat(first|replace hS:=And.right hS|replace hS:=CJ.r hS));have Rr5:=congrArg (fun s:St=>s.sl 5) hS;have Rr23:=congrArg (fun s:St=>s.sl 23) hS;have Rb10:=congrArg (fun s:St=>s.bx 10) hS;have Rb14:=congrArg (fun s:St=>s.bx 14) hS;have Rb15:=congrArg (fun s:St=>s.bx 15) hS;have Ro200020:=congrArg (fun s:St=>s.ow 200020) hS;clear hS;simp only[go_sem,hS0]at Rr5 Rr23 Rb10 Rb14 Rb15 Ro200020;(try clear hc);intro K hc;simp only[go_sem,hS0,Rr5,Rr23,Rb10,Rb14,Rb15,Ro200020,hB,K3]at hc ⊢;simp only[go_sem,hS0,Rr5,Rr23,Rb10,Rb14,Rb15,Ro200020,hB,K0]at hc ⊢;(first|(simp only[hc,K5];done)|((repeat' first|exact hc|apply W6);done)))));all_goals try exact om'
 ·exact⟨hb0,(b4p hr z0C).1⟩
 ·exact d6n hr (by omega)
 ·(refine lpK_n2 (⟨i+1,z0C⟩) _ z0E ?_;simp only[go_sem,hS0]<;>repeat' first|apply W6|exact on'|fail)
  all_goals rw[c3o z0C (show(a0K b.Rows (r.Rows.getD i default)==false)=true by rw[hc];rfl)]
 ·(refine lpK_n2 (⟨i+1,z0C⟩) _ z0E ?_;simp only[go_sem,hS0]<;>repeat' first|apply W6|exact on'|fail)
  all_goals rw[c8s z0C (show(a0K b.Rows (r.Rows.getD i default)==false)=false by rw[hc];rfl)]
 ·rw[i4 z0C]
noncomputable def a5j:CT:=k8 (fun(x:d8×d8) h=>b3P x.1 x.2 h)
@[go_sem] def c9z:=fun x0 x1 x2 x3=>nm' (fP' a5j rfl (⟨x0,x1⟩,⟨x2,x3⟩))
def b3O(r:d8)(b:d8)(hpre:n8 r=true/\n8 b=true):spZ 186 [(true,[.i .i64 r.Arity,n9 r.Rows]),(false,[.f 274 [.p [.i .i64 b.Arity,n9 b.Rows]]])] [] (.one (true,[.i .i64 ((⟨r.Arity,v8 r.Rows b.Rows true⟩:d8).Arity),a4Q ((⟨r.Arity,v8 r.Rows b.Rows true⟩:d8).Rows)])):=by
 refine sx' true false none Tryz.func186 a6e [.c 4 true 2] [(274,[],b0L),(227,[],a2C)] ?_;intro hb hE;obtain⟨hr,hb0⟩:=hpre;simp only[go_sem];(repeat' first|apply cj'|intro hc|apply a0f);(all_goals(try(refine(show A3F _ _ _ _ _ _ from ?_);simp only[go_sem]at hc ⊢;simp only[go_sem,K0]at hc ⊢;simp only[hc,K5];done)));all_goals try exact om'
 refine lk' true [(true,10,1,200020)] [1,4,5,12,13] [8,15] [] (fun i:{i:Nat // i<=r.Rows.length}=>[(14,slV (.i .i64 i.1))]) (fun i=>[(10,[.c (.i .i64 r.Arity),.ow 200020])]) (fun i=>[(200020,b1r,(v8 (r.Rows.take i.1) b.Rows true).map (d3.cells true true))]) (fun i=>r.Rows.length-i.1) (⟨0,z0D⟩) ?_;intro S0 hS0 i;obtain⟨i,hi⟩:=i;have hle:=a5x (r.Rows.take i) b.Rows true;rw[V1]at hle;have h3:=a1g hr;simp only[go_sem,hS0];(repeat' first|apply cj'|intro hc|apply a0f);(all_goals(try((first|refine a0B 1 rfl ?_);intro S hS B0 hB;simp only[go_sem,hS0,K6]at hS hB;(repeat(first|replace hS:=And.right hS|replace hS:=CJ.r hS));have Rr5:=congrArg (fun s:St=>s.sl 5) hS;have Rr23:=congrArg (fun s:St=>s.sl 23) hS;have Rb10:=congrArg (fun s:St=>s.bx 10) hS;have Rb14:=congrArg (fun s:St=>s.bx 14) hS;have Rb15:=congrArg (fun s:St=>s.bx 15) hS;have Ro200020:=congrArg (fun s:St=>s.ow 200020) hS;clear hS;simp only[go_sem,hS0]at Rr5 Rr23 Rb10 Rb14 Rb15 Ro200020;(try clear hc);intro K hc;simp only[go_sem,hS0,Rr5,Rr23,Rb10,Rb14,Rb15,Ro200020,hB,K3]at hc ⊢;simp only[go_sem,hS0,Rr5,Rr23,Rb10,Rb14,Rb15,Ro200020,hB,K0]at hc ⊢;(first|(simp only[hc,K5];done)|((repeat' first|exact hc|apply W6);done)))));all_goals try exact om'
 ·exact⟨hb0,(b4p hr z0C).1⟩
 ·exact d6n hr (by omega)
 ·(refine lpK_n2 (⟨i+1,z0C⟩) _ z0E ?_;simp only[go_sem,hS0]<;>repeat' first|apply W6|exact on'|fail)
  all_goals rw[c3o z0C (show(a0K b.Rows (r.Rows.getD i default)==true)=true by rw[hc];rfl)]
 ·(refine lpK_n2 (⟨i+1,z0C⟩) _ z0E ?_;simp only[go_sem,hS0]<;>repeat' first|apply W6|exact on'|fail)
  all_goals rw[c8s z0C (show(a0K b.Rows (r.Rows.getD i default)==true)=false by rw[hc];rfl)]
 ·rw[i4 z0C]
noncomputable def a5i:CT:=k8 (fun(x:d8×d8) h=>b3O x.1 x.2 h)
@[go_sem] def c9y:=fun x0 x1 x2 x3=>nm' (fP' a5i rfl (⟨x0,x1⟩,⟨x2,x3⟩))
def b3S(a:d8)(b:d8)(hpre:n8 a=true/\n8 b=true):spZ 116 [(true,[.i .i64 a.Arity,n9 a.Rows]),(true,[.i .i64 b.Arity,n9 b.Rows])] [] (.one (true,[.i .i64 ((⟨a.Arity,v8 a.Rows b.Rows false⟩:d8).Arity),a4Q ((⟨a.Arity,v8 a.Rows b.Rows false⟩:d8).Rows)])):=by
 refine sx' true false none Tryz.func116 (q' 2 [aX 2 0,aX 2 1,aw [.i .i64,.sl i5]] (q' 5 [ae 2 2,ao (.mf 187 [.t 3]),ac 186 [5,6],aS 2 4 7] .ret)) [.c 4 true 2] [(186,[],a5j)] ?_;intro hb hE;simp only[go_sem];repeat' first|apply cj'|intro hc|exact om'|fail
 exact hpre
noncomputable def a7n:CT:=k8 (fun(x:d8×d8) h=>b3S x.1 x.2 h)
@[go_sem] def d9m:=fun x0 x1 x2 x3=>nm' (fP' a7n rfl (⟨x0,x1⟩,⟨x2,x3⟩))
def d0B(a:d8)(b:d8)(hpre:n8 a=true/\n8 b=true):spZ 221 [(true,[.i .i64 a.Arity,n9 a.Rows]),(true,[.i .i64 b.Arity,n9 b.Rows])] [] (.one (true,[.i .i64 ((⟨a.Arity,v8 a.Rows b.Rows true⟩:d8).Arity),a4Q ((⟨a.Arity,v8 a.Rows b.Rows true⟩:d8).Rows)])):=by
 refine sx' true false none Tryz.func221 (q' 2 [aX 2 0,aX 2 1,aw [.i .i64,.sl i5]] (q' 5 [ae 2 2,ao (.mf 274 [.t 3]),ac 186 [5,6],aS 2 4 7] .ret)) [.c 4 true 2] [(186,[],a5i)] ?_;intro hb hE;simp only[go_sem];repeat' first|apply cj'|intro hc|exact om'|fail
 exact hpre
noncomputable def a8V:CT:=k8 (fun(x:d8×d8) h=>d0B x.1 x.2 h)
@[go_sem] def e0y:=fun x0 x1 x2 x3=>nm' (fP' a8V rfl (⟨x0,x1⟩,⟨x2,x3⟩))
def c7L(a:d8)(b:d8):spZ 273 [(true,[.i .i64 a.Arity,n9 a.Rows]),(true,[.i .i64 b.Arity,n9 b.Rows])] [] (.one (false,[.b (n8 a&&n8 b&&(a.Arity==b.Arity))])):=by
 refine sy' Tryz.func273 (q' 2 [aX 2 0,aX 2 1,aU false] (q' 5 [ae 2 2,ac 185 [5],am 6,aH 7 true [be 2 3,bc 185 [8]],aP 7 9,am 10,aH 11 true [bf 0 2,bL,bf 0 3,bL,bD .eql 13 15],aP 11 16,aV 4] .ret)) [.t 4] [(185,[],a7k)] ?_;intro hb hE;simp only[go_sem];repeat' first|apply cj'|intro hc|exact om'|fail
noncomputable def b3d:CT:=j8 (fun(x:d8×d8)=>c7L x.1 x.2)
@[go_sem] def d9e:=fun x0 x1 x2 x3=>nm' (fQ' b3d rfl (⟨x0,x1⟩,⟨x2,x3⟩))
def a3m(a b:d8):Bool:=decide (0<(v8 a.Rows b.Rows true).length)
def e0f(a b:d8):(((v8 a.Rows b.Rows true).length:Int)==0)=!a3m a b:=by
 unfold a3m;generalize(v8 a.Rows b.Rows true).length=n;cases n with
 | zero=>rfl
 | succ n=>rw[V0 z0C];simp;omega
def b8Y(a:d8)(b:d8)(hpre:n8 a=true):spZ 175 [(true,[.i .i64 a.Arity,n9 a.Rows]),(true,[.i .i64 b.Arity,n9 b.Rows])] [] (.one (false,[.b (!a3m a b)])):=by
 refine sy' Tryz.func175 (q' 2 [aX 2 0,aX 2 1,aU false] (q' 5 [ae 2 2,ae 2 3,ao (.call 106 [.t 5,.t 6,.k (.v false [.c (.b true)])]),ao (.fl false 1 1 (.t 7)),aN,aC .eql 9 0,aV 4] .ret)) [.t 4] [(106,[],a2H)] ?_;intro hb hE;simp only[go_sem];repeat' first|apply cj'|intro hc|exact om'|fail
 ·have h:=a0r hpre;exact⟨z0C,fun x hx=>(h.2 x hx).2⟩
 ·exact e0f a b
noncomputable def a3O:CT:=k8 (fun(x:d8×d8) h=>b8Y x.1 x.2 h)
@[go_sem] def d3r:=fun x0 x1 x2 x3=>nm' (fP' a3O rfl (⟨x0,x1⟩,⟨x2,x3⟩))
def a9T(x:e8):Bool:=decide (x.Plus.Rows.length+x.Minus.Rows.length=0)
def a9H(l:List e8)(i:Nat):Bool:=!a0Y (l.getD i default).Name||(decide (0<i)&&!Op.bytesLess (l.getD (i-1) default).Name (l.getD i default).Name)||!(n8 (l.getD i default).Plus&&n8 (l.getD i default).Minus&&((l.getD i default).Plus.Arity==(l.getD i default).Minus.Arity))||a9T (l.getD i default)||a3m (l.getD i default).Plus (l.getD i default).Minus
def a2i(d:f5):Bool:=decide ((d.Changes.length:Int)<=24)&&!a1t d.Changes.length (a9H d.Changes)
def b1Q{d:f5}{i:Nat}(hi:i<d.Changes.length)(h:a9H d.Changes i=true):a2i d=false:=by
 rw[a2i,a1p hi h];simp
def d1h{x:e8}(h1:n8 x.Plus=true)(h2:n8 x.Minus=true):(IntKind.i64.wrap ((x.Plus.Rows.length:Int)+(x.Minus.Rows.length:Int))==0)=a9T x:=by
 have a:=a1g h1;have b:=a1g h2;rw[IntWalk.i64_in _ ⟨z0C,z0C⟩,a9T];by_cases h:x.Plus.Rows.length+x.Minus.Rows.length=0
 ·rw[V0 h];simp;omega
 ·rw[V3 h];simp;omega
def e0J(h:a0Y (l.getD i default).Name=false):a9H l i=true:=by rw[a9H,h];rfl
def e0K(h0:0<i)(h:Op.bytesLess (l.getD (i-1) default).Name (l.getD i default).Name=false):a9H l i=true:=by rw[a9H,V0 h0,h];simp
def d3O(h:(n8 (l.getD i default).Plus&&n8 (l.getD i default).Minus&&((l.getD i default).Plus.Arity==(l.getD i default).Minus.Arity))=false):a9H l i=true:=by rw[a9H,h];simp
def e0L(h:(IntKind.i64.wrap (((l.getD i default).Plus.Rows.length:Int)+((l.getD i default).Minus.Rows.length:Int))==0)=true):a9H l i=true:=by
 cases h3:(n8 (l.getD i default).Plus&&n8 (l.getD i default).Minus&&((l.getD i default).Plus.Arity==(l.getD i default).Minus.Arity))with
 | false=>exact d3O h3
 | true=>
   simp only[W3]at h3;rw[d1h h3.1.1 h3.1.2]at h;rw[a9H,h];simp
def e0M(h:a3m (l.getD i default).Plus (l.getD i default).Minus=true):a9H l i=true:=by rw[a9H,h];simp
def e0I(h1:a0Y (l.getD i default).Name=true)(h2:(decide (0<(i:Int))&&!Op.bytesLess (l.getD (IntKind.i64.wrap ((i:Int)-1)).toNat default).Name (l.getD i default).Name)=false)(hw:0<i->IntKind.i64.wrap ((i:Int)-1)=((i-1:Nat):Int))(h3:n8 (l.getD i default).Plus=true)(h4:n8 (l.getD i default).Minus=true)(h5:((l.getD i default).Plus.Arity==(l.getD i default).Minus.Arity)=true)(h6:(IntKind.i64.wrap (((l.getD i default).Plus.Rows.length:Int)+((l.getD i default).Minus.Rows.length:Int))==0)=false)(h7:a3m (l.getD i default).Plus (l.getD i default).Minus=false):a9H l i=false:=by
 rw[d1h h3 h4]at h6;rw[a9H,h1,h3,h4,h5,h6,h7];by_cases h0:0<i
 ·rw[hw h0,V0 (show(0:Int)<i by omega)]at h2;rw[V0 h0];have h2':(true&&!Op.bytesLess (l.getD (i-1) default).Name (l.getD i default).Name)=false:=h2;rw[h2'];rfl
 ·rw[V3 h0];rfl
def c2B(d:f5):spZ 174 [(true,[y5 d.Changes])] [] (.one (false,[.b (a2i d)])):=by
 refine sy' Tryz.func174 (q' 1 [aX 1 0,aU false] (.seq (q' 5 [aG 0 1,aN,aC .gtr 7 24] (ci 8 (q' 2 [aU false] .ret))) (.seq (q' 9 [aG 0 1,aN,aK 0] (fO 0 13 [ar 12 11] 13 1 (q' 14 [am 12,ai 5 10 12,aE 5,ax (w' 4 [.s,.i .i64,.sl i5,.i .i64,.sl i5]),av 3 14,aS 5 4 16] (.seq (.seq (G' 17 [aG 0 4,ac 179 [18],aO 19,am 20,aH 21 false [bm 3,bC .gtr 22 0,bm 23],aH 24 true [bf 0 1,bL,bm 3,bC .sub 27 1,bi 5 26 28,bF 0,bL,bf 0 4,bL,bD .geq 31 33],aH 21 false [bP 24 34],aQ 21 35,am 36,aH 37 false [bf 1 4,bE 2,bf 3 4,bE 2,bc 231 [39,41],bO 42],aQ 37 43]) (ci 44 (q' 2 [aU false] .ret))) (q' 45 [af 1 4,aE 2,af 3 4,aE 2,ac 175 [46,48],aO 49,am 50,aH 51 false [bf 1 4,bF 1,bL,bN,bf 3 4,bF 1,bL,bN,bD .add 55 59,bC .eql 60 0],aQ 51 61] (ci 62 (q' 2 [aU false] .ret))))) (g' 63 [aA 12]))) (q' 2 [aU true] .ret)))) [.t 2] [(179,[],a1X),(231,[],b1e),(175,[],a3O)] ?_;intro hb hE;simp only[go_sem];repeat' first|apply cj'|intro hc|exact om'|fail
 ·rw[a2i,V3 z0C];rfl
 have hA:=hc;clear hc;refine lq' false [1,10,11] [2] [] (fun i:{i:Nat // i<=d.Changes.length/\a1t i (a9H d.Changes)=false}=>[(12,slV (.i .i64 i.1))]) nl' nl' (fun i=>d.Changes.length-i.1) (⟨0,z1A⟩) ?_;intro S0 hS0 i;obtain⟨i,hi,ha⟩:=i;have hw:0<i->IntKind.i64.wrap ((i:Int)-1)=((i-1:Nat):Int):=fun h=>by rw[IntWalk.i64_in _ z0C];omega
 simp only[go_sem,hS0];repeat' first|apply cj'|intro hc|exact om'|fail
 ·rw[b1Q z0C (i:=i)];rcases hc with(h|⟨h0,h⟩)|h
  ·exact e0J h
  ·rw[hw z0C]at h;exact e0K z0C h
  ·exact d3O h
 ·exact hc.1.1.2
 ·rw[b1Q z0C (i:=i)];rcases hc with h|h
  ·exact e0M h
  ·exact e0L h
 ·rename_i hq;have hz:=e0I hq.1.1.1.1 hq.1.1.1.2 hw hq.1.1.2 hq.1.2 hq.2 hc.2 hc.1;exact nx0 ⟨i+1,z0C,a0c ha hz⟩
 ·obtain rfl:i=d.Changes.length:=by omega
  rw[a2i,ha,V0 (show(d.Changes.length:Int)<=24 by omega)];rfl
noncomputable def a9z:CT:=j8 (fun(x:f5)=>c2B x)
@[go_sem] def d5x:=fun x0=>nm' (fQ' a9z rfl ⟨x0⟩)
def c1I(d:f5):spZ 220 [(true,[y5 d.Changes])] [] (.one (false,[.b (a2i d)])):=by
 refine sy' Tryz.func220 (q' 1 [aX 1 0,aU false] (.seq (q' 5 [aG 0 1,aN,aK 0] (fO 0 9 [ar 8 7] 9 1 (q' 10 [am 8,ai 5 6 8,aE 5,ax (w' 4 [.s,.i .i64,.sl i5,.i .i64,.sl i5]),av 3 10,aS 5 4 12] (.seq (G' 13 [aG 0 4,ac 184 [14],aO 15,am 16,aH 17 false [bm 3,bC .gtr 18 0,bm 19],aH 20 true [bf 0 1,bL,bm 3,bC .sub 23 1,bi 5 22 24,bF 0,bL,bf 0 4,bL,bD .geq 27 29],aH 17 false [bP 20 30],aQ 17 31,am 32,aH 33 false [bf 1 4,bE 2,bf 3 4,bE 2,bc 273 [35,37],bO 38],aQ 33 39,am 40,aH 41 false [bf 1 4,bF 1,bL,bN,bf 3 4,bF 1,bL,bN,bD .add 45 49,bC .eql 50 0],aQ 41 51,am 52,aH 53 false [bf 1 4,bE 2,bf 3 4,bE 2,bc 221 [55,57],bo (.fl false 1 1 (.t 58)),bN,bC .gtr 60 0],aQ 53 61]) (ci 62 (q' 2 [aU false] .ret)))) (g' 63 [aA 8]))) (q' 64 [aG 0 1,aN,aC .leq 66 24,aV 2] .ret))) [.t 2] [(184,[],a1W),(273,[],b3d),(221,[],a8V)] ?_;intro hb hE;simp only[go_sem];repeat' first|apply cj'|intro hc|exact om'|fail
 refine lq' false [1,6,7] [2] [] (fun i:{i:Nat // i<=d.Changes.length/\a1t i (a9H d.Changes)=false}=>[(8,slV (.i .i64 i.1))]) nl' nl' (fun i=>d.Changes.length-i.1) (⟨0,z1A⟩) ?_;intro S0 hS0 i;obtain⟨i,hi,ha⟩:=i;have hw:0<i->IntKind.i64.wrap ((i:Int)-1)=((i-1:Nat):Int):=fun h=>by rw[IntWalk.i64_in _ z0C];omega
 simp only[go_sem,hS0];repeat' first|apply cj'|intro hc|exact om'|fail
 ·exact⟨hc.1.1.1.2,hc.1.1.2⟩
 ·rw[b1Q z0C (i:=i)];rcases hc with(((h|⟨h0,h⟩)|h)|h)|h
  ·exact e0J h
  ·rw[hw z0C]at h;exact e0K z0C h
  ·exact d3O h
  ·exact e0L h
  ·exact e0M (V0 z0C)
 ·have hz:=e0I hc.1.1.1.1.1.1 hc.1.1.1.1.1.2 hw hc.1.1.1.1.2 hc.1.1.1.2 hc.1.1.2 hc.1.2 (V3 z0C);exact nx0 ⟨i+1,z0C,a0c ha hz⟩
 ·obtain rfl:i=d.Changes.length:=by omega
  rw[a2i,ha,q3M,q1L]
noncomputable def a8Q:CT:=j8 (fun(x:f5)=>c1I x)
@[go_sem] def d4D:=fun x0=>nm' (fQ' a8Q rfl ⟨x0⟩)
def c3n{a b:d8}:a3m a b=true↔∃x∈a.Rows,x∈b.Rows:=by
 rw[a3m,V8];constructor
 ·intro h;obtain⟨x,hx⟩:=List.exists_mem_of_length_pos h;obtain⟨h1,h2⟩:=q1A.1 hx;exact⟨x,h1,a7w.1 z1P⟩
 ·rintro⟨x,h1,h2⟩;exact List.length_pos_of_mem (q1A.2 ⟨h1,by rw[a7w.2 h2];rfl⟩)
def b7i(a b:d8):a3m a b=a3m b a:=by
 rw[q3T,c3n,c3n];exact⟨fun⟨x,h1,h2⟩=>⟨x,h2,h1⟩,fun⟨x,h1,h2⟩=>⟨x,h2,h1⟩⟩
def lacks(a b:d8):Bool:=decide (0<(v8 a.Rows b.Rows false).length)
def b1S(s:c4)(l:List e8)(i:Nat):Bool:=!(k6 s (l.getD i default).Name).2||!((k6 s (l.getD i default).Name).1.Arity==(l.getD i default).Plus.Arity)||lacks (l.getD i default).Minus (k6 s (l.getD i default).Name).1||a3m (l.getD i default).Plus (k6 s (l.getD i default).Name).1
def a0l(s:c4)(d:f5):Bool:=j6 s&&a2i d&&!a1t d.Changes.length (b1S s d.Changes)
def b3y{s:c4}{d:f5}{i:Nat}(hi:i<d.Changes.length)(h:b1S s d.Changes i=true):a0l s d=false:=by
 rw[a0l,a1p hi h];simp
def c1h{d:f5}(h:a2i d=true){i:Nat}(hi:i<d.Changes.length):n8 (d.Changes.getD i default).Plus=true/\n8 (d.Changes.getD i default).Minus=true/\(d.Changes.getD i default).Plus.Arity=(d.Changes.getD i default).Minus.Arity:=by
 simp only[a2i,W3,q0M]at h;have h1:=a1U.1 h.2 i hi;simp only[a9H,q0U,q0Q,W3,beq_iff_eq]at h1;exact⟨h1.1.1.2.1.1,h1.1.1.2.1.2,h1.1.1.2.2⟩
def a9I{d:f5}(h:a2i d=true):d.Changes.length<=24:=by
 simp only[a2i,K7]at h;omega
def e0X{s:c4}(h:(k6 s (l.getD i default).Name).2=false):b1S s l i=true:=by rw[b1S,h];rfl
def e0Y{s:c4}(h:((k6 s (l.getD i default).Name).1.Arity != (l.getD i default).Plus.Arity)=true):b1S s l i=true:=by rw[b1S,<-bne,h];simp
def e0Z{s:c4}(h:0<((v8 (l.getD i default).Minus.Rows (k6 s (l.getD i default).Name).1.Rows false).length:Int)):b1S s l i=true:=by rw[b1S,lacks,V0 z0C];simp
def e1a{s:c4}(h:a3m (l.getD i default).Plus (k6 s (l.getD i default).Name).1=true):b1S s l i=true:=by rw[b1S,h];simp
def e0W{s:c4}(h1:(k6 s (l.getD i default).Name).2=true)(h2:((k6 s (l.getD i default).Name).1.Arity != (l.getD i default).Plus.Arity)=false)(h3:¬0<((v8 (l.getD i default).Minus.Rows (k6 s (l.getD i default).Name).1.Rows false).length:Int))(h4:a3m (l.getD i default).Plus (k6 s (l.getD i default).Name).1=false):b1S s l i=false:=by
 rw[b1S,<-bne,h1,h2,h4,lacks,V3 z0C];rfl
def b5N(s:c4)(d:f5):spZ 165 [(true,[i6 s.Rels]),(true,[y5 d.Changes])] [] (.one (false,[.b (a0l s d)])):=by
 refine sy' Tryz.func165 (q' 2 [aX 1 0,aX 1 1,aU false] (.seq (q' 9 [ae 1 2,ac 115 [9],aO 10,am 11,aH 12 false [be 1 3,bc 220 [13],bO 14],aQ 12 15] (ci 16 (q' 4 [aU false] .ret))) (.seq (q' 17 [aG 0 3,aN,aK 0] (fO 0 21 [ar 20 19] 21 1 (q' 22 [ai 5 18 20,aE 5,ax (w' 6 [.s,.i .i64,.sl i5,.i .i64,.sl i5]),aS 5 6 23] (q' 25 [ae 1 2,aG 0 6,ac 166 [25,27],aV 24,aZ 24 0,aZ 24 1,ax (w' 7 [.i .i64,.sl i5]),aS 2 7 29,aV 8] (q' 31 [am 8,aO 31,am 32,aH 33 false [bf 0 7,bL,bf 1 6,bF 0,bL,bD .neq 35 38],aQ 33 39,am 40,aH 41 false [bf 3 6,bE 2,be 2 7,bc 116 [43,44],bo (.fl false 1 1 (.t 45)),bN,bC .gtr 47 0],aQ 41 48,am 49,aH 50 false [bf 1 6,bE 2,be 2 7,bc 221 [52,53],bo (.fl false 1 1 (.t 54)),bN,bC .gtr 56 0],aQ 50 57] (ci 58 (q' 4 [aU false] .ret))))) (g' 59 [aA 20]))) (q' 4 [aU true] .ret)))) [.t 4] [(115,[],a2y),(220,[],a8Q),(166,[],a1M),(116,[],a7n),(221,[],a8V)] ?_;intro hb hE;simp only[go_sem];repeat' first|apply cj'|intro hc|exact om'|fail
 ·rw[a0l];rcases hc with h|h
  ·rw[h];rfl
  ·rw[h,q2J];rfl
 have hs:=hc.1;have hd:=hc.2;have h24:=a9I hd;clear hc;refine lq' false [2,18,19] [4] [] (fun i:{i:Nat // i<=d.Changes.length/\a1t i (b1S s d.Changes)=false}=>[(20,slV (.i .i64 i.1))]) nl' nl' (fun i=>d.Changes.length-i.1) (⟨0,z1A⟩) ?_;intro S0 hS0 i;obtain⟨i,hi,ha⟩:=i;have hr:=z5 hs (d.Changes.getD i default).Name;have hD:=fun h=>c1h hd (i:=i) h
 simp only[go_sem,hS0];repeat' first|apply cj'|intro hc|exact om'|fail
 ·exact⟨(hD z0C).2.1,hr⟩
 ·exact⟨(hD z0C).1,hr⟩
 ·rw[b3y z0C (i:=i)];rcases hc with((h|h)|h)|h
  ·exact e0X h
  ·exact e0Y h
  ·exact e0Z h
  ·exact e1a (V0 z0C)
 ·have hz:=e0W hc.1.1.1 hc.1.1.2 hc.1.2 (V3 z0C);exact nx0 ⟨i+1,z0C,a0c ha hz⟩
 ·obtain rfl:i=d.Changes.length:=by omega
  rw[a0l,ha,hs,hd];rfl
noncomputable def a6j:CT:=j8 (fun(x:c4×f5)=>b5N x.1 x.2)
@[go_sem] def d1r:=fun x0 x1=>nm' (fQ' a6j rfl (⟨x0⟩,⟨x1⟩))
def b6h(s:c4)(d:f5):spZ 104 [(true,[i6 s.Rels]),(true,[y5 d.Changes])] [] (.one (false,[.b (a0l s d)])):=by
 refine sy' Tryz.func104 (q' 2 [aX 1 0,aX 1 1,aU false] (.seq (q' 9 [ae 1 2,ac 109 [9],aO 10,am 11,aH 12 false [be 1 3,bc 174 [13],bO 14],aQ 12 15] (ci 16 (q' 4 [aU false] .ret))) (.seq (q' 17 [aG 0 3,aN,aK 0] (fO 0 21 [ar 20 19] 21 1 (q' 22 [ai 5 18 20,aE 5,ax (w' 6 [.s,.i .i64,.sl i5,.i .i64,.sl i5]),aS 5 6 23] (q' 25 [ae 1 2,aG 0 6,ac 105 [25,27],aV 24,aZ 24 0,aZ 24 1,ax (w' 7 [.i .i64,.sl i5]),aS 2 7 29,aV 8] (q' 31 [am 8,aO 31,am 32,aH 33 false [bf 0 7,bL,bf 1 6,bF 0,bL,bD .neq 35 38],aQ 33 39,am 40,aH 41 false [be 2 7,bf 1 6,bE 2,bc 175 [42,44],bO 45],aQ 41 46,am 47,aH 48 false [bf 3 6,bE 2,be 2 7,bo (.call 106 [.t 50,.t 51,.k (.v false [.c (.b false)])]),bo (.fl false 1 1 (.t 52)),bN,bC .gtr 54 0],aQ 48 55] (ci 56 (q' 4 [aU false] .ret))))) (g' 57 [aA 20]))) (q' 4 [aU true] .ret)))) [.t 4] [(109,[],a2G),(174,[],a9z),(105,[],a1q),(106,[],a2H),(175,[],a3O)] ?_;intro hb hE;simp only[go_sem];repeat' first|apply cj'|intro hc|exact om'|fail
 ·rw[a0l];rcases hc with h|h
  ·rw[h];rfl
  ·rw[h,q2J];rfl
 have hs:=hc.1;have hd:=hc.2;have h24:=a9I hd;clear hc;refine lq' false [2,18,19] [4] [] (fun i:{i:Nat // i<=d.Changes.length/\a1t i (b1S s d.Changes)=false}=>[(20,slV (.i .i64 i.1))]) nl' nl' (fun i=>d.Changes.length-i.1) (⟨0,z1A⟩) ?_;intro S0 hS0 i;obtain⟨i,hi,ha⟩:=i;have hr:=z5 hs (d.Changes.getD i default).Name;have hD:=fun h=>c1h hd (i:=i) h
 simp only[go_sem,hS0];repeat' first|apply cj'|intro hc|exact om'|fail
 ·have h:=a0r (hD z0C).2.1;exact⟨z0C,fun x hx=>(h.2 x hx).2⟩
 ·rw[b3y z0C (i:=i)];rcases hc with((h|h)|h)|h
  ·exact e0X h
  ·exact e0Y h
  ·rw[b7i]at h;exact e1a h
  ·exact e0Z h
 ·have h7:=hc.1.2;rw[b7i]at h7;have hz:=e0W hc.1.1.1 hc.1.1.2 hc.2 h7;exact nx0 ⟨i+1,z0C,a0c ha hz⟩
 ·obtain rfl:i=d.Changes.length:=by omega
  rw[a0l,ha,hs,hd];rfl
noncomputable def a6E:CT:=j8 (fun(x:c4×f5)=>b6h x.1 x.2)
@[go_sem] def d1N:=fun x0 x1=>nm' (fQ' a6E rfl (⟨x0⟩,⟨x1⟩))
def a0A{a b e:C}{d f:List C}:(st.sub k AC.un).newBx x [.c a,.c b,.nl d,.c e,.nl f]=(st.newBx x [.c a,.c b,.nl d,.c e,.nl f]).sub k AC.un:=A7j rfl rfl
def b8r(x y:c9):e8:=⟨x.Name,⟨y.Rel.Arity,v8 y.Rel.Rows x.Rel.Rows false⟩,⟨x.Rel.Arity,v8 x.Rel.Rows y.Rel.Rows false⟩⟩
def c1a(x y:c9):Bool:=!(x.Name==y.Name)||!(x.Rel.Arity==y.Rel.Arity)
def a2o(a b:List c9):Nat->List e8
 | 0=>[]
 | n+1=>a2o a b n++bif a9T (b8r (a.getD n default) (b.getD n default))then[]else[b8r (a.getD n default) (b.getD n default)]
def c1b(a b:List c9):∀n,(a2o a b n).length<=n
 | 0=>q0C _
 | n+1=>by
   have:=c1b a b n;rw[a2o,V5];cases a9T (b8r (a.getD n default) (b.getD n default))
   ·rw[V2,List.length_singleton];omega
   ·rw[W8,q1Z];omega
def a1k(a b:c4):f5×Bool:=bif j6 a&&j6 b&&decide (a.Rels.length=b.Rels.length)&&!a1t a.Rels.length (fun i=>c1a (a.Rels.getD i default) (b.Rels.getD i default))then(⟨a2o a.Rels b.Rels a.Rels.length⟩,true)else(default,false)
def c1g{a b:c4}{i:Nat}(hi:i<a.Rels.length)(h:c1a (a.Rels.getD i default) (b.Rels.getD i default)=true):a1k a b=(default,false):=by
 rw[a1k,a1p (p:=fun i=>c1a (a.Rels.getD i default) (b.Rels.getD i default)) hi h];simp
def a3n{s:c4}(h:j6 s=true){i:Nat}(hi:i<s.Rels.length):n8 (s.Rels.getD i default).Rel=true:=a1J h _ (u7 default hi)
def c9N{x y:c9}(h:(x.Name==y.Name)=false\/(x.Rel.Arity != y.Rel.Arity)=true):c1a x y=true:=by
 rw[c1a,<-bne,<-bne];rcases h with h|h
 ·rw[bne,h];rfl
 ·rw[h,q5U]
def b9s{x y:c9}(h:(x.Name==y.Name)=true/\(x.Rel.Arity != y.Rel.Arity)=false):c1a x y=false:=by
 rw[c1a,<-bne,<-bne,bne,h.1,h.2];rfl
def c6Y{x y:c9}(hx:n8 x.Rel=true)(hy:n8 y.Rel=true):IntKind.i64.wrap (((v8 y.Rel.Rows x.Rel.Rows false).length:Int)+((v8 x.Rel.Rows y.Rel.Rows false).length:Int))=(((b8r x y).Plus.Rows.length+(b8r x y).Minus.Rows.length:Nat):Int):=by
 have h1:=a5x y.Rel.Rows x.Rel.Rows false;have h2:=a5x x.Rel.Rows y.Rel.Rows false;have h3:=a1g hx;have h4:=a1g hy;rw[IntWalk.i64_in _ ⟨z0C,z0C⟩];simp only[b8r];omega
def e0E{a b:List c9}(h:a9T (b8r (a.getD i default) (b.getD i default))=false):a2o a b (i+1)=a2o a b i++[b8r (a.getD i default) (b.getD i default)]:=by rw[a2o,h];rfl
def ch_no{a b:List c9}(h:a9T (b8r (a.getD i default) (b.getD i default))=true):a2o a b (i+1)=a2o a b i:=by rw[a2o,h,W8,q0D]
def b6Y{a b:c4}(ha:j6 a=true)(hb:j6 b=true)(hl:a.Rels.length=b.Rels.length)(hn:a1t a.Rels.length (fun i=>c1a (a.Rels.getD i default) (b.Rels.getD i default))=false):a1k a b=(⟨a2o a.Rels b.Rels a.Rels.length⟩,true):=by
 rw[a1k,ha,hb,V0 hl,hn];rfl
def c1H(a:c4)(b:c4):spZ 60 [(true,[i6 a.Rels]),(true,[i6 b.Rels])] [] (.tup [(true,[a1Y (((a1k a b).1).Changes)]),(false,[.b ((a1k a b).2)])]):=by
 refine sx' true false none Tryz.func60 (q' 2 [aX 1 0,aX 1 1,aw [.sl t6],aU false] (.seq (q' 11 [ae 1 2,ac 115 [11],aO 12,am 13,aH 14 false [be 1 3,bc 115 [15],bO 16],aQ 14 17,am 18,aH 19 false [bf 0 2,bL,bN,bf 0 3,bL,bN,bD .neq 22 25],aQ 19 26] (ci 27 (q' 28 [ao (.bld [.sl t6] []),aS 1 4 28,ab 5 false] .ret))) (q' 6 [ax (o' 29 (.bld [.sl t6] [])),aw [.sl t6],aS 1 6 29] (.seq (q' 30 [aG 0 2,aN,aK 0] (fO 0 34 [ar 33 32] 34 1 (q' 35 [am 33,ai 3 31 33,aE 3,ax (w' 8 [.s,.i .i64,.sl i5]),av 7 35,aS 3 8 37] (q' 38 [aG 0 3,am 7,aI 3,aE 3,ax (w' 9 [.s,.i .i64,.sl i5]),aS 3 9 42] (.seq (q' 43 [aG 0 8,aG 0 9,aD .neq 44 46,am 47,aH 48 false [bf 1 8,bF 0,bL,bf 1 9,bF 0,bL,bD .neq 51 54],aQ 48 55] (ci 56 (q' 57 [ao (.bld [.sl t6] []),aS 1 4 57,ab 5 false] .ret))) (.seq (rm' [(true,0,f' 58 0 8),(true,1,l' 59 58),(true,2,f' 60 1 9),(true,3,e' 61 2 60),(true,4,f' 62 1 8),(true,5,e' 63 2 62),(true,7,f' 65 1 8),(true,8,e' 66 2 65),(true,9,f' 67 1 9),(true,10,e' 68 2 67),(false,6,c' 64 116 [61,63]),(false,11,c' 69 116 [66,68]),(false,12,o' 70 (.bld [.s,.i .i64,.sl i5,.i .i64,.sl i5] [(0,1,.t 59),(1,2,.t 64),(3,2,.t 69)])), (false,13,w' 10 [.s,.i .i64,.sl i5,.i .i64,.sl i5]),(false,14,s' 5 10 70)] [[0,1,2, 3,4,5,6,7,8,9,10,11,13,12,14],[0,1,2,3,4,5,6,7,8,9,10,13,11,12,14],[0,1,2,3,4,5,6,7,8,9,13,10,11,12,14]] [16,17,18, 19]) (q' 71 [af 1 10,aG 1 71,aN,af 3 10,aG 1 75,aN,aD .add 74 78,aC .gtr 79 0] (ci 80 (g' 81 [aG 0 6,ae 5 10,ao (.bsl 5 1 [.s,.i .i64,.sl i5,.i .i64,.sl i5] [(0,.t 83)]),ao (.app 5 80 [.s,.i .i64,.sl i5,.i .i64, .sl i5] (.t 82) (.t 84)),af 0 6,aS 1 86 85]))))))) (g' 87 [aA 33]))) (q' 88 [ae 1 6,aS 1 4 88,ab 5 true] .ret))))) [.c 4 true 1,.t 5] [(115,[],a2y),(116,[],a7n)] ?_;intro hb hE;simp only[go_sem];(repeat' first|apply cj'|intro hc|apply a0f);(all_goals(try(refine(show A3F _ _ _ _ _ _ from ?_);simp only[go_sem]at hc ⊢;simp only[go_sem,K0]at hc ⊢;simp only[hc,K5];done)));all_goals try exact om'
 ·rw[a1k];rcases hc with(h|h)|h
  ·rw[h];exact⟨rfl,rfl⟩
  ·rw[h,q2J];exact⟨rfl,rfl⟩
  ·rw[V3 (by simp at h;omega),q2J];exact⟨rfl,rfl⟩
 have ha:=hc.1.1;have hb:=hc.1.2;have hl:a.Rels.length=b.Rels.length:=by have:=hc.2;simp at this;omega
 have h24:=a0I ha;clear hc;refine lk' true [(true,12,0,200024)] [3,4,6,31,32] [6,17,19] [] (fun i:{i:Nat // i<=a.Rels.length/\a1t i (fun i=>c1a (a.Rels.getD i default) (b.Rels.getD i default))=false}=>[(33,slV (.i .i64 i.1))]) (fun i=>[(12,[.ow 200024]),(8,[.nl t6])]) (fun i=>[(200024,a4Y,(a2o a.Rels b.Rels i.1).map (e8.cells true true))]) (fun i=>a.Rels.length-i.1) (⟨0,z0D,a0x⟩) ?_;intro S0 hS0 i;obtain⟨i,hi,hn⟩:=i;have hA:=fun h=>a3n ha (i:=i) h
 have hB:=fun h=>a3n hb (i:=i) h
 have hcl:=c1b a.Rels b.Rels i;simp only[go_sem,hS0,a0A];(repeat' first|apply cj'|intro hc|apply a0f);(all_goals(try((first|refine a0B 10 rfl ?_);intro S hS B0 hB;simp only[go_sem,hS0,a0A,K6]at hS hB;(repeat(first|replace hS:=And.right hS|replace hS:=CJ.r hS));have Rr59:=congrArg (fun s:St=>s.sl 59) hS;have Rr61:=congrArg (fun s:St=>s.sl 61) hS;have Rr63:=congrArg (fun s:St=>s.sl 63) hS;have Rr66:=congrArg (fun s:St=>s.sl 66) hS;have Rr68:=congrArg (fun s:St=>s.sl 68) hS;have Rb16:=congrArg (fun s:St=>s.bx 16) hS;have Rb17:=congrArg (fun s:St=>s.bx 17) hS;have Rb18:=congrArg (fun s:St=>s.bx 18) hS;have Rb19:=congrArg (fun s:St=>s.bx 19) hS;clear hS;simp only[go_sem,hS0,a0A]at Rr59 Rr61 Rr63 Rr66 Rr68 Rb16 Rb17 Rb18 Rb19;(try clear hc);intro K hc;simp only[go_sem,hS0,a0A,Rr59,Rr61,Rr63,Rr66,Rr68,Rb16,Rb17,Rb18,Rb19,hB,K3]at hc ⊢;simp only[go_sem,hS0,a0A,Rr59,Rr61,Rr63,Rr66,Rr68,Rb16,Rb17,Rb18,Rb19,hB,K0,a2P,a1E,a2O,a3E,a2b,a3D,a2a]at hc ⊢;simp only[b9B]at hc ⊢;(first|(simp only[hc,K5];done)|((repeat' first|exact hc|apply W6);done)))));all_goals try exact om'
 ·rw[c1g (i:=i) z0C (c9N hc)];exact⟨rfl,rfl⟩
 ·exact⟨hB z0C,hA z0C⟩
 ·exact⟨hA z0C,hB z0C⟩
 ·rename_i hq;rw[c6Y (hA z0C) (hB z0C)]at hc;have hz:=b9s hq;have hs:a2o a.Rels b.Rels (i+1)=_:=e0E (V3 z0C)
  (refine lpK_n2 (⟨i+1,z0C,a0c hn hz⟩) _ z0E ?_;simp only[go_sem,hS0,a0A]<;>repeat' first|apply W6|exact on'|fail)
  all_goals(rw[hs];rfl)
 ·rename_i hq;rw[c6Y (hA z0C) (hB z0C)]at hc;have hz:=b9s hq;have hs:a2o a.Rels b.Rels (i+1)=_:=ch_no (V0 z0C)
  (refine lpK_n2 (⟨i+1,z0C,a0c hn hz⟩) _ z0E ?_;simp only[go_sem,hS0,a0A]<;>repeat' first|apply W6|exact on'|fail)
  all_goals rw[hs]
 ·obtain rfl:i=a.Rels.length:=by omega
  rw[b6Y ha hb hl hn];exact⟨rfl,rfl⟩
noncomputable def a8P:CT:=j8 (fun(x:c4×c4)=>c1H x.1 x.2)
@[go_sem] def d4C:=fun x0 x1=>nm' (fQ' a8P rfl (⟨x0⟩,⟨x1⟩))
def c2A(a:c4)(b:c4):spZ 53 [(true,[i6 a.Rels]),(true,[i6 b.Rels])] [] (.tup [(true,[a1Y (((a1k a b).1).Changes)]),(false,[.b ((a1k a b).2)])]):=by
 refine sx' true false none Tryz.func53 (q' 2 [aX 1 0,aX 1 1,aw [.sl t6],aU false] (.seq (q' 11 [ae 1 2,ac 109 [11],aO 12,am 13,aH 14 false [be 1 3,bc 109 [15],bO 16],aQ 14 17,am 18,aH 19 false [bf 0 2,bL,bN,bf 0 3,bL,bN,bD .neq 22 25],aQ 19 26] (ci 27 (q' 28 [ao (.bld [.sl t6] []),aS 1 4 28,ab 5 false] .ret))) (q' 6 [ax (o' 29 (.bld [.sl t6] [])),aw [.sl t6],aS 1 6 29] (.seq (q' 30 [aG 0 2,aN,aK 0] (fO 0 34 [ar 33 32] 34 1 (q' 35 [am 33,aV 7] (q' 36 [aG 0 2,am 7,aI 3,aE 3,ax (w' 8 [.s, .i .i64,.sl i5]),aS 3 8 40] (q' 41 [aG 0 3,am 7,aI 3,aE 3,ax (w' 9 [.s,.i .i64,.sl i5]),aS 3 9 45] (.seq (q' 46 [aG 0 8,aG 0 9,aD .neq 47 49,am 50,aH 51 false [bf 1 8,bF 0,bL,bf 1 9,bF 0,bL,bD .neq 54 57],aQ 51 58] (ci 59 (q' 60 [ao (.bld [.sl t6] []),aS 1 4 60,ab 5 false] .ret))) (.seq (rm' [(true,0,f' 61 0 8),(true,1,l' 62 61),(true,2,f' 63 1 9),(true,3,e' 64 2 63),(true,4,f' 65 1 8),(true,5,e' 66 2 65),(true,7,f' 68 1 8),(true,8,e' 69 2 68),(true,9,f' 70 1 9),(true,10,e' 71 2 70),(false,6,o' 67 (.call 106 [.t 64,.t 66,.k (.v false [.c (.b false)])])),(false, 11,o' 72 (.call 106 [.t 69,.t 71,.k (.v false [.c (.b false)])])),(false,12,o' 73 (.bld [.s,.i .i64,.sl i5,.i .i64, .sl i5] [(0,1,.t 62),(1,2,.t 67),(3,2,.t 72)])),(false,13,w' 10 [.s,.i .i64,.sl i5, .i .i64,.sl i5]),(false,14,s' 5 10 73)] [[0,1,2,3,4,5,6,7,8,9,10,11,13,12,14],[0,1,2,3,4,5,6,7,8,9, 10,13,11,12,14],[0,1,2,3,4,5,6,7,8,9,13,10,11,12,14]] [16,17,18,19]) (q' 74 [af 1 10,aG 1 74,aN,af 3 10,aG 1 78,aN,aD .add 77 81,aC .gtr 82 0] (ci 83 (g' 84 [aG 0 6,ae 5 10,ao (.bsl 5 1 [.s,.i .i64,.sl i5,.i .i64,.sl i5] [(0,.t 86)]),ao (.app 5 80 [.s,.i .i64,.sl i5,.i .i64,.sl i5] (.t 85) (.t 87)),af 0 6,aS 1 89 88])))))))) (g' 90 [aA 33]))) (q' 91 [ae 1 6,aS 1 4 91,ab 5 true] .ret))))) [.c 4 true 1,.t 5] [(109,[],a2G),(106,[],a2H)] ?_;intro hb hE;simp only[go_sem];(repeat' first|apply cj'|intro hc|apply a0f);(all_goals(try(refine(show A3F _ _ _ _ _ _ from ?_);simp only[go_sem]at hc ⊢;simp only[go_sem,K0]at hc ⊢;simp only[hc,K5];done)));all_goals try exact om'
 ·rw[a1k];rcases hc with(h|h)|h
  ·rw[h];exact⟨rfl,rfl⟩
  ·rw[h,q2J];exact⟨rfl,rfl⟩
  ·rw[V3 (by simp at h;omega),q2J];exact⟨rfl,rfl⟩
 have ha:=hc.1.1;have hb:=hc.1.2;have hl:a.Rels.length=b.Rels.length:=by have:=hc.2;simp at this;omega
 have h24:=a0I ha;clear hc;refine lk' true [(true,12,0,200024)] [2,3,4,6,32] [4,6,17,19] [] (fun i:{i:Nat // i<=a.Rels.length/\a1t i (fun i=>c1a (a.Rels.getD i default) (b.Rels.getD i default))=false}=>[(33,slV (.i .i64 i.1))]) (fun i=>[(12,[.ow 200024]),(8,[.nl t6])]) (fun i=>[(200024,a4Y,(a2o a.Rels b.Rels i.1).map (e8.cells true true))]) (fun i=>a.Rels.length-i.1) (⟨0,z0D,a0x⟩) ?_;intro S0 hS0 i;obtain⟨i,hi,hn⟩:=i;have hA:=fun h=>a3n ha (i:=i) h
 have hB:=fun h=>a3n hb (i:=i) h
 have hcl:=c1b a.Rels b.Rels i;simp only[go_sem,hS0,a0A];(repeat' first|apply cj'|intro hc|apply a0f);(all_goals(try((first|refine a0B 10 rfl ?_);intro S hS B0 hB;simp only[go_sem,hS0,a0A,K6]at hS hB;(repeat(first|replace hS:=And.right hS|replace hS:=CJ.r hS));have Rr62:=congrArg (fun s:St=>s.sl 62) hS;have Rr64:=congrArg (fun s:St=>s.sl 64) hS;have Rr66:=congrArg (fun s:St=>s.sl 66) hS;have Rr69:=congrArg (fun s:St=>s.sl 69) hS;have Rr71:=congrArg (fun s:St=>s.sl 71) hS;have Rb16:=congrArg (fun s:St=>s.bx 16) hS;have Rb17:=congrArg (fun s:St=>s.bx 17) hS;have Rb18:=congrArg (fun s:St=>s.bx 18) hS;have Rb19:=congrArg (fun s:St=>s.bx 19) hS;clear hS;simp only[go_sem,hS0,a0A]at Rr62 Rr64 Rr66 Rr69 Rr71 Rb16 Rb17 Rb18 Rb19;(try clear hc);intro K hc;simp only[go_sem,hS0,a0A,Rr62,Rr64,Rr66,Rr69,Rr71,Rb16,Rb17,Rb18,Rb19,hB,K3]at hc ⊢;simp only[go_sem,hS0,a0A,Rr62,Rr64,Rr66,Rr69,Rr71,Rb16,Rb17,Rb18,Rb19,hB,K0,a2P,a1E,a2O,a3E,a2b,a3D,a2a]at hc ⊢;simp only[b9B]at hc ⊢;(first|(simp only[hc,K5];done)|((repeat' first|exact hc|apply W6);done)))));all_goals try exact om'
 ·rw[c1g (i:=i) z0C (c9N hc)];exact⟨rfl,rfl⟩
 ·have h:=a0r (hB z0C);exact⟨z0C,fun x hx=>(h.2 x hx).2⟩
 ·have h:=a0r (hA z0C);exact⟨z0C,fun x hx=>(h.2 x hx).2⟩
 ·rename_i hq;rw[c6Y (hA z0C) (hB z0C)]at hc;have hz:=b9s hq;have hs:a2o a.Rels b.Rels (i+1)=_:=e0E (V3 z0C)
  (refine lpK_n2 (⟨i+1,z0C,a0c hn hz⟩) _ z0E ?_;simp only[go_sem,hS0,a0A]<;>repeat' first|apply W6|exact on'|fail)
  all_goals(rw[hs];rfl)
 ·rename_i hq;rw[c6Y (hA z0C) (hB z0C)]at hc;have hz:=b9s hq;have hs:a2o a.Rels b.Rels (i+1)=_:=ch_no (V0 z0C)
  (refine lpK_n2 (⟨i+1,z0C,a0c hn hz⟩) _ z0E ?_;simp only[go_sem,hS0,a0A]<;>repeat' first|apply W6|exact on'|fail)
  all_goals rw[hs]
 ·obtain rfl:i=a.Rels.length:=by omega
  rw[b6Y ha hb hl hn];exact⟨rfl,rfl⟩
noncomputable def a9y:CT:=j8 (fun(x:c4×c4)=>c2A x.1 x.2)
@[go_sem] def d5w:=fun x0 x1=>nm' (fQ' a9y rfl (⟨x0⟩,⟨x1⟩))
end Go.Aw
namespace Go.Aw
open Go.Proofs Go.Lib
set_option linter.all false
set_option maxRecDepth 100000
set_option maxHeartbeats 4000000
abbrev c6t:Value:=(.agg #[.slice none 0 0])
def c7p:(Tryz.prog.info? 66).map (fun i=>(i.zero,i.size,i.bytes))=some (some c6t,1,24):=z0K
def c7s(w:World)(a:Option Addr)(c:Nat)(n:Int)(h0:0<=n)(hn:n<=c)(hc:c<=maxLen):
  Calls Tryz.prog 222 #[.slice a 0 c,.int .i64 n] w fun x w'=>x=.returned (.slice a 0 c)/\w'=w:=by
 have hz1:¬n<0:=by omega
 simp only[maxLen]at hc
 go_enter Tryz.func222,Tryz.ntmps222
 go_wp2
 go_ret
 exact⟨rfl,rfl⟩
def c7q(w:World)(a:Option Addr)(c n:Nat)(cs:List Value)(hn:c<n)(h6:n<=1000000)(hold:(Builtin.firstCells 1 c (.slice a c c)).run Tryz.prog w.drew=.ok cs.toArray w.drew):
  Calls Tryz.prog 222 #[.slice a 0 c,.int .i64 n] w fun x w'=>x=.returned (.slice (some ⟨w.heap.size,0,none⟩) 0 (grownCap w n c 66))/\w'=(w.alloc (.cells (cs.toArray++(Builtin.zeroCells c6t.cells (n-c)++Builtin.zeroCells c6t.cells (grownCap w n c 66-n))) 66)).drew:=by
 have hz1:¬(n:Int)<0:=by omega
 have hz2:0<(n:Int)-(c:Int):=by omega
 obtain⟨i0,hi0,hz0⟩:=W7.1 c7p;simp only[W4]at hz0;obtain⟨hz0,hzs,hzb⟩:=hz0;have hkk:(n:Int)-(c:Int)=((n-c:Nat):Int):=by omega
 have hik:c+(n-c)=n:=by omega
 have hrz:∀ty,(Builtin.append_ #[158,3] ty #[.slice a c c,.int .i64 ((n:Int)-(c:Int))]).run Tryz.prog w =
   .ok (.slice (some ⟨w.heap.size,0,none⟩) n (grownCap w n c 66)) (w.drew.alloc (.cells (cs.toArray++Builtin.zeroCells c6t.cells (n-c)++Builtin.zeroCells c6t.cells (grownCap w n c 66-n)) 66)):=fun ty=>by
  have h:=Lib.run_append_grow_zeros w 158 3 ty 66 i0 _ .i64 .i64 Tryz.underlying158 Tryz.underlying3 hi0 hz0 a c c cs (by rw[hzs];exact hold) (n-c) z0C z0C z0C z0C (by rw[hzb];omega) (by rw[hzb,hik];exact growslice_fits hn z0C);rw[hik]at h;rw[hkk];exact h
 have hG:=grownCap_ge w n c 66;have hG63:=grownCap_le_maxLen w n c 66 z11;simp only[maxLen]at hG63;have u0:=run_underlying Tryz.underlying158;clear hkk hik hold
 go_enter Tryz.func222,Tryz.ntmps222
 go_wp2_with (at_builtin;refine a4P _ rfl _ _ 158 3 rfl _ _ rfl rfl (hrz _) ?_)
 go_ret
 exact⟨rfl,rfl⟩
def c7r:i3 Tryz.prog 222 66 1 c6t:=⟨c7s,c7q⟩
def d8n(n:Int)(hpre:0<=n/\n<=1000000):spZ 222 [(false,[.sl true [.sl false [.i .i64 0,.s []] []] []]),(false,[.i .i64 n])] [] (.one (false,[.sl true [.sl false [.i .i64 0,.s []] []] (([]:List d3).map (d3.cells false false))])):=by
 obtain⟨h0,h1⟩:=hpre;obtain⟨k,rfl⟩:=q5T h0;exact e1e (d:=[.sl false [.i .i64 0,.s []] []]) c7r z0K rfl k z0C
noncomputable def c5I:CT:=k8 (fun(x:Int) h=>d8n x h)
@[go_sem] def e2l:=fun n=>nm' (fP' c5I rfl n)
def szC(a b:List d3):Nat->Int
 | 0=>0
 | 1=>a.length
 | _=>(a.length:Int)+b.length
def catP(a b:List d3):Nat->List d3
 | 0=>[]
 | 1=>a
 | _=>a++b
end Go.Aw
namespace Go.Aw
set_option linter.all false
open Go.Proofs
attribute [local irreducible] aft blk lpK retK AW A0d
attribute [local irreducible] RM
def e1m(a:List d3)(b:List d3)(hpre:a.length<=1000/\b.length<=1000):spZ 167 [(false,[.sl false [.sl false i5 []] [[n9 a],[n9 b]]])] [] (.one (false,[kTRow (a++b)])):=by
 refine sy' Tryz.func167 (q' 2 [ao (.mov (.k (.v false [.nl i5])))] (q' 3 [aK 0] (.seq (q' 9 [am 0,aN,aK 0] (fO 0 12 [ar 11 10] 12 1 (q' 13 [ai 1 9 11,aL,aV 5] (q' 15 [aM [3,5],aN,aD .add 15 17,aV 3] (q' 19 [am 3,aC .lss 19 0] (.gard (.t 20) .skip)))) (g' 22 [aA 11]))) (q' 23 [am 3,ao (.call 222 [.k (.v false [.nl i5]),.t 23]),aV 6] (.seq (q' 25 [am 0,aN,aK 0] (fO 2 28 [ar 27 26] 28 3 (q' 29 [ai 1 25 27,aL,aV 8] (g' 31 [aM [6,8],ao (.app 1 24 [.sl l9] (.t 31) (.t 32)),aV 6])) (g' 34 [aA 27]))) (q' 35 [am 6,aV 2] .ret)))))) [.t 2] [(222,[0],c5I)] ?_;intro hb hE;obtain⟨hA,hB⟩:=hpre;simp only[go_sem];repeat' first|apply cj'|intro hc|exact om'|fail
 refine lq' false [0,9,10] [] [] (fun i:{i:Nat // i<=2}=>[(3,slV (.i .i64 (szC a b i.1))),(11,slV (.i .i64 i.1))]) nl' nl' (fun i=>2-i.1) (⟨0,z0C⟩) ?_;intro S0 hS0 i;obtain⟨i,hi⟩:=i;have h3:i=0\/i=1\/i=2:=by omega
 have w1:IntKind.i64.wrap (szC a b 0+(a.length:Int))=szC a b 1:=by
  show IntKind.i64.wrap (0+(a.length:Int))=(a.length:Int)
  rw[IntWalk.i64_in _ ⟨z0C,z0C⟩];omega
 have w2:IntKind.i64.wrap (szC a b 1+(b.length:Int))=szC a b 2:=by
  show IntKind.i64.wrap ((a.length:Int)+(b.length:Int))=(a.length:Int)+(b.length:Int)
  rw[IntWalk.i64_in _ ⟨z0C,z0C⟩]
 have z1:szC a b 1=a.length:=rfl;have z2:szC a b 2=(a.length:Int)+b.length:=rfl;rcases h3 with rfl|rfl|rfl
 ·simp only[go_sem,hS0];repeat' first|apply cj'|intro hc|exact om'|fail
  exact nx0 ⟨1,z0C⟩
 ·simp only[go_sem,hS0];repeat' first|apply cj'|intro hc|exact om'|fail
  exact nx0 ⟨2,z0C⟩
 ·simp only[go_sem,hS0];repeat' first|apply cj'|intro hc|exact om'|fail
  ·skip
   refine lk' false [(false,6,0,100012)] [25,26] [] [] (fun i:{i:Nat // i<=2}=>[(6,.v false [.ow 100012]),(27,slV (.i .i64 i.1))]) nl' (fun i=>[(100012,i5,(catP a b i.1).map (d3.cells false false))]) (fun i=>2-i.1) (⟨0,z0C⟩) ?_;intro S1 hS1 i;obtain⟨i,hi⟩:=i;have h3:i=0\/i=1\/i=2:=by omega
   have l0:(catP a b 0).length=0:=rfl;have l1:(catP a b 1).length=a.length:=rfl;rcases h3 with rfl|rfl|rfl
   ·simp only[go_sem,hS0,hS1];repeat' first|apply cj'|intro hc|exact om'|fail
    (refine lpK_n2 (⟨1,z0C⟩) _ (by simp only[go_sem,hS0];try rfl) ?_;simp only[go_sem,hS0,hS1]<;>repeat' first|apply W6|exact on'|fail)
    all_goals rfl
   ·simp only[go_sem,hS0,hS1];repeat' first|apply cj'|intro hc|exact om'|fail
    (refine lpK_n2 (⟨2,z0C⟩) _ (by simp only[go_sem,hS0];try rfl) ?_;simp only[go_sem,hS0,hS1]<;>repeat' first|apply W6|exact on'|fail)
    all_goals exact(q1F ..).symm
   ·simp only[go_sem,hS0,hS1];repeat' first|apply cj'|intro hc|exact om'|fail
    rfl
noncomputable def c9p:CT:=k8 (fun(x:(List d3)×(List d3)) h=>e1m x.1 x.2 h)
@[go_sem] def c_catRow_eq:=fun a b=>nm' (fP' c9p rfl (a,b))
end Go.Aw
namespace Go.Aw
open Go.Proofs
set_option linter.all false
set_option maxRecDepth 100000
set_option maxHeartbeats 4000000
variable{l:List c9}
def setS_at{n:List UInt8}(hs:SS sLt (l.map c9.Name))(hm:n∈l.map c9.Name):∃A b B,l=A++b::B/\b.Name=n/\∀v,a2e l n v=A++v::B:=by
 obtain⟨A,B,rfl,_,hset,hA,hB⟩:=b6C l n;rw[q1F,W9]at hm;have hnA:¬n∈A.map c9.Name:=fun h=>by
  obtain⟨x,hx,rfl⟩:=q0X.1 h;have:=hA x hx;exact absurd rfl (o0.ne this)
 obtain⟨x,hx,hxn⟩:=q0X.1 (hm.resolve_left hnA);cases B with
 | nil=>cases hx
 | cons b B=>
   have hmid:=d4p hs;have hb:=hB b B rfl;have hbn:b.Name=n:=by
    rcases V9.1 hx with rfl|hx
    ·exact hxn
    ·have h1:=hmid x hx;rw[hxn,hb]at h1;cases h1
   refine⟨A,b,B,rfl,hbn,fun v=>?_⟩;rw[hset,List.filter_cons_of_neg (by simp[hbn]),List.filter_eq_self.2];intro y hy;have h1:=hmid y hy;have h2:=o0.ne h1;simp only[q0M,beq_eq_false_iff_ne];rw[<-hbn];exact fun e=>h2 e.symm
structure FineA(s:c4)(l:List c9):Prop where
 ok:j6 ⟨l⟩=true
 nm:l.map c9.Name=s.Rels.map c9.Name
 ar:l.map (fun x=>x.Rel.Arity)=s.Rels.map fun x=>x.Rel.Arity
def c5V(l:List c9)(n:List UInt8):a1a (fun x:c9=>x.Name==n) l=a1a (fun x=>x==n) (l.map c9.Name):=by
 simp only[a1a,List.findIdx_map,q0F,Function.comp_def]
def c7o(l:List c9)(i:Nat):(l.getD i default).Rel.Arity=(l.map fun x=>x.Rel.Arity).getD i 0:=by
 rw[W5,W5,q3K];cases l[i]?<;>rfl
def FineA.rel{s:c4}(h:FineA s l)(n:List UInt8):(k6 ⟨l⟩ n).2=(k6 s n).2/\(k6 ⟨l⟩ n).1.Arity=(k6 s n).1.Arity:=by
 have e:a1a (fun x:c9=>x.Name==n) l=a1a (fun x:c9=>x.Name==n) s.Rels:=by rw[c5V,c5V,h.nm]
 unfold k6;simp only[e];split
 ·exact⟨rfl,by show(l.getD _ default).Rel.Arity=(s.Rels.getD _ default).Rel.Arity;rw[c7o,c7o,h.ar]⟩
 ·exact⟨rfl,rfl⟩
def c6m{r:d8}(h:n8 r=true){y:d3}(hy:y∈r.Rows):a0Z y=true/\(y.V.length:Int)=r.Arity:=by
 obtain⟨i,hi,rfl⟩:=q1H hy;have h1:=b4p h hi;rw[j7 default hi]at h1;exact h1
def a3X(l:List c9)(x:e8):List d3:=m8 s6 (v8 (k6 ⟨l⟩ x.Name).1.Rows x.Minus.Rows false) x.Plus.Rows
def c8r(l:List c9)(x:e8):List c9:=a2e l x.Name ⟨x.Name,⟨(k6 ⟨l⟩ x.Name).1.Arity,a3X l x⟩⟩
def FineA.newRel{s:c4}(h:FineA s l){x:e8}(ha:(k6 s x.Name).1.Arity=x.Plus.Arity)(hp:n8 x.Plus=true)(hr:(a3X l x).length<=300):n8 ⟨(k6 ⟨l⟩ x.Name).1.Arity,a3X l x⟩=true:=by
 have h1:=z5 h.ok x.Name;have h2:=(h.rel x.Name).2;have h3:=h1;simp only[n8,K7]at h3;refine d0X h3.1.1.1 h3.1.1.2 hr (fun y hy=>?_) ((SS.filter (b6D h1) _).puts a3k);rcases o8.1 hy with hy|hy
 ·exact c6m h1 (q1A.1 hy).1
 ·have h4:=c6m hp hy;exact⟨h4.1,by rw[h4.2,h2,ha]⟩
def FineA.step{s:c4}(h:FineA s l){x:e8}(hf:(k6 s x.Name).2=true)(ha:(k6 s x.Name).1.Arity=x.Plus.Arity)(hp:n8 x.Plus=true)(hr:(a3X l x).length<=300):FineA s (c8r l x):=by
 have hs:SS sLt (l.map c9.Name):=a2m h.ok;have hw:=c3r h.ok;have hn:=h.newRel ha hp hr;obtain⟨z,hz,hzn,hze⟩:=c3a (s:=⟨l⟩) (v:=x.Name) (by rw[(h.rel x.Name).1];exact hf);obtain⟨A,b,B,e,hbn,hset⟩:=setS_at hs (q0X.2 ⟨z,hz,hzn⟩);have hzb:z=b:=by
  have hq:(l.map c9.Name).Nodup:=hs.nodup o0;obtain⟨i,hi,rfl⟩:=q1H hz;have hj:A.length<l.length:=by rw[e];simp
  have hbj:l[A.length]=b:=by simp[e]
  have h1:(l.map c9.Name)[i]'(by simpa using hi)=(l.map c9.Name)[A.length]' z1I:=by rw[q3W,q3W,hbj,hbn];exact hzn
  have h2:=(List.getElem_inj hq).1 h1;subst h2;exact hbj
 have hb:(k6 ⟨l⟩ x.Name).1.Arity=b.Rel.Arity:=by rw[hze,hzb]
 have he:c8r l x=A++⟨x.Name,⟨(k6 ⟨l⟩ x.Name).1.Arity,a3X l x⟩⟩::B:=hset _;have hnm:(c8r l x).map c9.Name=l.map c9.Name:=by rw[he,e];simp[hbn]
 refine⟨c3q ?_ (by rw[hnm];exact hs) fun y hy=>?_,by rw[hnm];exact h.nm, ?_⟩
 ·have:=congrArg List.length hnm;rw[q0F,q0F]at this;rw[this];exact a0I h.ok
 ·rcases a9Q hy with rfl|hy
  ·exact⟨by rw[<-hzn];exact(hw z hz).1,hn⟩
  ·exact hw y hy
 ·rw[<-h.ar,he,hb,e];simp
attribute [local irreducible] aft blk lpK retK AW A0d
attribute [local irreducible] RM
def a1T:List e8->List c9->Option (List c9)
 | [],l=>some l
 | x::t,l=>bif decide (300<(a3X l x).length)then none else a1T t (c8r l x)
def u2(s:c4)(d:f5):c4×Bool:=bif a0l s d then(match a1T d.Changes s.Rels with|some l=>(⟨l⟩,true)|none=>(default,false))else(default,false)
def b1O{s:c4}{d:f5}{l:List c9}(h:a0l s d=true)(e:a1T d.Changes s.Rels=some l):u2 s d=(⟨l⟩,true):=by rw[u2,h,W8,e]
def b1N{s:c4}{d:f5}(h:a0l s d=true)(e:a1T d.Changes s.Rels=none):u2 s d=(default,false):=by rw[u2,h,W8,e]
def c5E{L:List e8}{i:Nat}(hi:i<L.length)(l:List c9):a1T (L.drop i) l=bif decide (300<(a3X l (L.getD i default)).length)then none else a1T (L.drop (i+1)) (c8r l (L.getD i default)):=by
 rw[q3E hi,a1T,j7 default hi]
def c7n{s:c4}{d:f5}(h:a0l s d=true){i:Nat}(hi:i<d.Changes.length):(k6 s (d.Changes.getD i default).Name).2=true/\(k6 s (d.Changes.getD i default).Name).1.Arity=(d.Changes.getD i default).Plus.Arity/\n8 (d.Changes.getD i default).Plus=true/\n8 (d.Changes.getD i default).Minus=true:=by
 simp only[a0l,W3,q0M]at h;have h1:=a1U.1 h.2 i hi;simp only[b1S,q0U,q0Q,beq_iff_eq]at h1;have h2:=c1h h.1.2 hi;exact⟨h1.1.1.1,h1.1.1.2,h2.1,h2.2.1⟩
def b3B{s:c4}{d:f5}(h:a0l s d=true):j6 s=true/\d.Changes.length<=24:=by
 simp only[a0l,W3]at h;exact⟨h.1.1,a9I h.1.2⟩
def b0p(h:j6 ⟨l⟩=true):l.length<=1000/\∀x∈l,x.Rel.Rows.length<=100000/\∀y∈x.Rel.Rows,y.V.length<1000:=by
 have h1:=a0I h;refine⟨by show l.length<=1000;have:l.length<=24:=h1;omega,fun x hx=>?_⟩;have h2:=a0r (a1J h x hx);exact⟨z0C,fun y hy=>(h2.2 y hy).2⟩
def b6n(a:d8)(b:d8)(j:Bool)(hpre:a.Rows.length<=100000/\∀x∈a.Rows,x.V.length<1000):spZ 106 [(true,[.i .i64 a.Arity,n9 a.Rows]),(true,[.i .i64 b.Arity,n9 b.Rows]),(false,[.b j])] [] (.one (true,[.i .i64 ((⟨a.Arity,v8 a.Rows b.Rows j⟩:d8).Arity),n9 ((⟨a.Arity,v8 a.Rows b.Rows j⟩:d8).Rows)])):=by
 exact a1h (a9O a b j hpre) z0M
noncomputable def a6J:CT:=k8 (fun(x:d8×d8×Bool) h=>b6n x.1 x.2.1 x.2.2 h)
@[go_sem] def d1U:=fun x0 x1 x2 x3 j=>nm' (fP' a6J rfl (⟨x0,x1⟩,⟨x2,x3⟩,j))
def b4c(s:c4)(d:f5):spZ 52 [(true,[i6 s.Rels]),(true,[y5 d.Changes])] [] (.tup [(true,[i6 (((u2 s d).1).Rels)]),(false,[.b ((u2 s d).2)])]):=by
 refine sx' false true none Tryz.func52 (q' 2 [aX 1 0,aX 1 1,aw [.sl i7],aU false] (.seq (q' 12 [ae 1 2,ae 1 3,ac 104 [12,13],aO 14] (ci 15 (q' 16 [ao (.bld [.sl i7] []),aS 1 4 16,ab 5 false] .ret))) (q' 17 [ae 1 2,ac 94 [17],ax (w' 6 [.sl i7]),aS 1 6 18] (.seq (q' 19 [aG 0 3,aN,aK 0] (fO 0 23 [ar 22 21] 23 1 (q' 24 [ai 5 20 22,aE 5,ax (w' 8 [.s,.i .i64,.sl i5,.i .i64,.sl i5]),aS 5 8 25] (q' 27 [ae 1 6,aG 0 8,ac 105 [27,29],aV 26,aZ 26 0,aZ 26 1,ax (w' 9 [.i .i64,.sl i5]),aS 2 9 31,aV 10] (q' 33 [ae 2 9,af 3 8,aE 2,ao (.call 106 [.t 33, .t 35,.k (.v false [.c (.b false)])]),aS 2 9 36] (.seq (q' 37 [af 1 8,aG 1 37,aN,aK 0] (fO 2 42 [ar 41 40] 42 3 (q' 43 [am 41,aV 11] (.rego [(true,2,f' 46 1 8),(true,3,f' 47 1 46),(true,4,l' 48 47),(true,5,m' 49 11),(true,6,i' 50 1 48 49),(true,7,e' 51 1 50),(false,0,f' 44 1 9),(false,1,l' 45 44),(false,8,c' 52 107 [45,51]),(false,9,f' 53 1 9),(false,10,s' 1 53 52)] [16,17])) (g' 54 [aA 41]))) (.seq (q' 55 [aG 1 9,aN,aC .gtr 57 300] (ci 58 (q' 59 [ao (.bld [.sl i7] []),aS 1 4 59,ab 5 false] .ret))) (g' 60 [ae 1 6,aG 0 8,ae 2 9,ac 108 [60,62,63],aS 1 6 64])))))) (g' 65 [aA 22]))) (q' 66 [ae 1 6,aS 1 4 66,ab 5 true] .ret))))) [.c 4 true 1,.t 5] [(104,[],a6E),(94,[],a2I),(105,[],a1q),(106,[],a6J),(107,[],a3r),(108,[],a2f)] ?_;intro hb hE;simp only[go_sem];repeat' first|apply cj'|intro hc|exact om'|fail
 ·rw[u2,hc];exact⟨rfl,rfl⟩
 ·exact b0p (b3B hc).1
 have hF:=b3B hc;have hA:=fun{i} h=>c7n hc (i:=i) h
 have hsome:=fun{l} e=>b1O (l:=l) hc e
 have hnone:=fun e=>b1N hc e
 clear hc;refine lq' false [4,6,20,21] [17] [] (fun i:{q:Nat×List c9 // (q.1<=d.Changes.length/\FineA s q.2)/\a1T (d.Changes.drop q.1) q.2=a1T d.Changes s.Rels}=>[(22,slV (.i .i64 i.1.1))]) (fun i=>[(12,[.c (i6 i.1.2)]),(8,[.nl i7])]) nl' (fun i=>d.Changes.length-i.1.1) (⟨(0,s.Rels),⟨q2H _,⟨hF.1,rfl,rfl⟩⟩,rfl⟩) ?_;intro S0 hS0 i;obtain⟨⟨n,l⟩,⟨hn,hl⟩,he⟩:=i;simp only at hn hl he;have hr:=z5 hl.ok (d.Changes.getD n default).Name;have hr2:=a0r hr;have hat:=fun h=>c5E (L:=d.Changes) (i:=n) h l
 have hsp:=b0p hl.ok;simp only[go_sem,hS0];repeat' first|apply cj'|intro hc|exact om'|fail
 ·exact⟨z0C,fun y hy=>(hr2.2 y hy).2⟩
 ·have hx:=hA (i:=n) z0C;have hp2:=a0r hx.2.2.1;have hsl:=a5x (k6 ⟨l⟩ (d.Changes.getD n default).Name).1.Rows (d.Changes.getD n default).Minus.Rows false;have hbase:∀y∈v8 (k6 ⟨l⟩ (d.Changes.getD n default).Name).1.Rows (d.Changes.getD n default).Minus.Rows false,okL y.V/\y.V.length<1000:=fun y hy=>hr2.2 y (q1A.1 hy).1
  refine lq' false [4,6,8,9,20,21,22,40] [8,12,16,17] [] (fun i:{k:Nat // k<=(d.Changes.getD n default).Plus.Rows.length}=>[(41,slV (.i .i64 i.1))]) (fun i=>[(18,[.c (.i .i64 (k6 ⟨l⟩ (d.Changes.getD n default).Name).1.Arity),.c (n9 (m8 s6 (v8 (k6 ⟨l⟩ (d.Changes.getD n default).Name).1.Rows (d.Changes.getD n default).Minus.Rows false) ((d.Changes.getD n default).Plus.Rows.take i.1)))])]) nl' (fun i=>(d.Changes.getD n default).Plus.Rows.length-i.1) (⟨0,z0C⟩) ?_;intro S1 hS1 i;obtain⟨k,hk⟩:=i;have hpl:=a0M s6 ((d.Changes.getD n default).Plus.Rows.take k) (v8 (k6 ⟨l⟩ (d.Changes.getD n default).Name).1.Rows (d.Changes.getD n default).Minus.Rows false);rw[V1]at hpl;have hput:∀y∈m8 s6 (v8 (k6 ⟨l⟩ (d.Changes.getD n default).Name).1.Rows (d.Changes.getD n default).Minus.Rows false) ((d.Changes.getD n default).Plus.Rows.take k),okL y.V/\y.V.length<1000:=fun y hy=>by
   rcases o8.1 hy with hy|hy
   ·exact hbase y hy
   ·exact hp2.2 y (q1V hy)
  have hpm:=fun h=>hp2.2 _ (u7 (l:=(d.Changes.getD n default).Plus.Rows) default (i:=k) h)
  have hra:a3X l (d.Changes.getD n default)=m8 s6 (v8 (k6 ⟨l⟩ (d.Changes.getD n default).Name).1.Rows (d.Changes.getD n default).Minus.Rows false) (d.Changes.getD n default).Plus.Rows:=rfl;simp only[go_sem,hS0,hS1];repeat' first|apply cj'|intro hc|exact om'|fail
  ·exact⟨⟨⟨z0C,(hpm z0C).1⟩,(hpm z0C).2⟩,fun y hy=>(hput y hy).1⟩
  ·(refine lpK_n2 (⟨k+1,z0C⟩) _ rfl ?_;simp only[go_sem,hS0,hS1]<;>repeat' first|apply W6|exact on'|fail)
   all_goals rw[c2Y _ z0C]
  ·rw[i4 z0C,<-hra]at hc;rw[hat z0C,V0 z0C,W8]at he;rw[hnone he.symm];exact⟨rfl,rfl⟩
  ·exact⟨⟨hsp,z0C⟩,fun y hy=>(hput y hy).2⟩
  ·rw[i4 z0C,<-hra]at hc;have h3:¬300<(a3X l (d.Changes.getD n default)).length:=by omega
   have he2:=hat (by omega)
   rw[V3 h3,V2]at he2;rw[i4 (show¬k<(d.Changes.getD n default).Plus.Rows.length by omega)]
   (refine lpK_n2 (⟨(n+1,c8r l (d.Changes.getD n default)),⟨by show n+1<=d.Changes.length;omega,hl.step hx.1 hx.2.1 hx.2.2.1 z0C⟩,he2.symm.trans he⟩) _ rfl ?_;simp only[go_sem,hS0,hS1]<;>repeat' first|apply W6|exact on'|fail)
 ·obtain rfl:n=d.Changes.length:=by omega
  rw[q5Z]at he;rw[hsome he.symm];exact⟨rfl,rfl⟩
noncomputable def a5q:CT:=j8 (fun(x:c4×f5)=>b4c x.1 x.2)
@[go_sem] def c9J:=fun x0 x1=>nm' (fQ' a5q rfl (⟨x0⟩,⟨x1⟩))
end Go.Aw
