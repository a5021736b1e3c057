/- What a round keeps: the rows of a good program's views are right. No condition. -/
import Derived.Test.YtkophkhamikaoaaGreatkbT47
import Derived.Test.YtkophkhamikaoaaGreatlBx17kb
import Derived.Test.YtkophkhamikaoaaGreatlBx18kb
namespace Go.Aw
set_option maxHeartbeats 4000000
open Go.Proofs
set_option linter.all false
set_option maxRecDepth 100000
variable{n:Int}{v:List UInt8}{c:List d7}{L:List f5}{j:Nat}
def EqStep.le{l:e8}{b:List d7}(h:EqStep l b c):b.length<=c.length:=by
 rcases h.len with rfl|h<;>omega
def d0b(r:c8)(b:List d7):∀{n m:Nat},n<=m->(eqP r b n).length<=(eqP r b m).length
 | n,0,h=>by cases Nat.le_zero.1 h;exact q0F _
 | n,m+1,h=>by
   by_cases hn:n=m+1
   ·subst hn;exact q0F _
   ·have h1:=d0b r b (n:=n) (m:=m) z0D;have h2:=(a5a (r.Body.getD m default) (eqP r b m)).le;rw[eqP];omega
def d5Y{r:c8}(h:a6l r c=c){n:Nat}(hn:n<=r.Body.length):eqP r c n=c:=by
 rcases c7o r c n with h1|h1
 ·exact h1
 ·have h2:=d0b r c hn;rw[show eqP r c r.Body.length=c from h]at h2;omega
def e1x{r:c8}(h:a6l r c=c){l:e8}(hl:l∈r.Body):eqS l c=c:=by
 obtain⟨n,hn,rfl⟩:=q1I hl;have h1:=d5Y h (n:=n+1) z0D;rw[eqP,d5Y h (n:=n) z0D,k8 default hn]at h1;exact h1
def d3Y(r:c8)(b:List d7):∀l∈r.Body,a0N ((eqR r b).map d7.Var) l:=by
 obtain⟨k,_,hp⟩:=c1b r b;intro l hl he hk x hx;have h1:=congrArg (List.map d7.Var) (e1x hp hl);rw[c7q,domE,he,W8]at h1;have key:∀v,a1j Op.bytesLess ((eqR r b).map d7.Var) v=(eqR r b).map d7.Var->v∈(eqR r b).map d7.Var:=fun v hv=>d1e (congrArg List.length hv)
 have both:y6 ((eqR r b).map d7.Var) l.A=true/\y6 ((eqR r b).map d7.Var) l.B=true:=by
  cases h2:y6 ((eqR r b).map d7.Var) l.A with
  | true=>
    cases h3:y6 ((eqR r b).map d7.Var) l.B with
    | true=>exact⟨rfl,rfl⟩
    | false=>
      rw[h2,h3]at h1;have h4:=key _ h1;rw[y6,q0Y]at h3;rw[q2I.2 h4]at h3;exact absurd h3.2 (by decide)
  | false=>
    rw[h2,q3S]at hk;rw[h2,hk]at h1;have h4:=key _ h1;rw[y6,q0Y]at h2;rw[q2I.2 h4]at h2;exact absurd h2.2 (by decide)
 obtain⟨t,ht,hv,rfl⟩:=a0C.1 hx;have h5:y6 ((eqR r b).map d7.Var) t=true:=by
  simp only[q0B,q4S,or_false]at ht;rcases ht with rfl|rfl
  ·exact both.1
  ·exact both.2
 rw[y6,show(t.Var==[])=false by simpa[a0K]using hv,q3S]at h5;exact q2I.1 h5
def d1g{r:c8}{s:c6}(h:∀l∈r.Body,Rooted s ⟨c⟩ l):a3S r (c.map d7.Var):=by
 intro l hl hk x hx;obtain⟨t,ht,hv,rfl⟩:=a0C.1 hx;obtain⟨row,_,_,hb⟩:=h l hl hk;obtain⟨i,hi,rfl⟩:=q1I ht;have h1:=hb i hi;rw[k8 default hi]at h1;have h2:=a5I c (l.Atom.Args[i]);rw[show n8 ⟨c⟩ (l.Atom.Args[i])=_ from h1]at h2;rw[y6,show((l.Atom.Args[i]).Var==[])=false by simpa[a0K]using hv,q3S]at h2;exact q2I.1 h2.symm
def body_bd{r:c8}{s:c6}(hr:l8 r=true)(hs:j9 s=true){e:e7}(he:e∈(u1 r s).1)(hv:Bd r v):v∈e.Binds.map d7.Var:=by
 obtain⟨_,hf,_⟩:=a3i hr hs;rw[u1]at he;cases hj:(a1n r s).2 with
 | false=>rw[hj]at he;cases he
 | true=>
   rw[hj,W8]at he;have h1:=(o7.1 he).resolve_left (by intro h;cases h);rw[a6k,q0N,q0R]at h1;obtain⟨⟨e',he',rfl⟩,_⟩:=h1;exact hv.mem (d1g fun l hl=>((hf e' he').2.2 l hl).ext (c:=eqE r e') (b9b r e'.Binds)) (d3Y r e'.Binds)
def d4b{p:c4}(hg:y3 p=true)(hj:j<p.Rules.length):a5E (p.Rules.getD j default)=[]:=by
 have hB:=a0c (u9 hg);rw[y3,W3,a1Y,hB,W8]at hg;have h1:a0A a4b p.Rules=-1:=by simpa using hg.2
 have h2:=a0Z a4b p.Rules;rw[h1]at h2;have h3:=q2J.1 h2.symm _ (u4 (l:=p.Rules) default hj);rw[a4b,V8]at h3;exact List.eq_nil_of_length_eq_zero z0D
def d4c{r:c8}{s:c6}(hr:l8 r=true)(hs:j9 s=true)(hl:a5E r=[]){e:e7}(he:e∈(u1 r s).1):a0i e r.Head.Args=(⟨r.Head.Args.map fun t=>(n8 e t).1⟩,true):=by
 rw[a0i,show r.Head.Args.all (fun t=>(n8 e t).2)=true from q0I.2 fun t ht=>?_]
 ·rfl
 ·rw[show(n8 e t).2=y6 (e.Binds.map d7.Var) t from a5I e.Binds t,y6];cases h0:t.Var==[]with
  | true=>rfl
  | false=>
    rw[q3S];refine q2I.2 (body_bd hr hs he ?_);have h1:t.Var∈a4j r:=by
     rw[a4j,o7];exact .inr (V0.2 (.inl (a0C.2 ⟨t,ht,by rw[a0K,h0];rfl,rfl⟩)))
    rw[a5E,hr,W8,e2a,List.filter_eq_nil_iff]at hl;have h2:=hl _ h1;exact a5g.1 (q2I.1 z2A)
def head_ar{p:c4}(hg:y3 p=true)(hj:j<p.Rules.length):z9 p (p.Rules.getD j default).Head.Name=(p.Rules.getD j default).Head.Args.length:=by
 have h:=(a2R z1M).2.2 j hj;rw[a0w,a0d]at h;cases h1:(y7 (p.Rules.getD j default)).any (a4D p)with
 | true=>rw[h1]at h;simp at h
 | false=>
   cases h2:(y7 (p.Rules.getD j default)).any (a4e p)with
   | true=>rw[h1,h2]at h;simp at h
   | false=>
     have h3:=q2J.1 h2 _ (show(p.Rules.getD j default).Head∈y7 (p.Rules.getD j default)from q2L);rw[a4e]at h3;simpa using h3
def b1V{p:c4}{s:c6}(hg:y3 p=true)(hs:j9 s=true)(hj:j<p.Rules.length):∀x∈a3M (p.Rules.getD j default) s,a0t x=true/\(x.V.length:Int)=z9 p (p.Rules.getD j default).Head.Name:=by
 have hr:=(a0B (a0c (u9 hg))).1 _ (u4 (l:=p.Rules) default hj);intro x hx;obtain⟨e,he,rfl⟩:=q0R.1 hx;obtain⟨_,_,vs,hv⟩:=a3i hr hs;have h1:EnvS e.Binds:=by
  have he:=he;rw[u1]at he;cases hj:(a1n (p.Rules.getD j default) s).2 with
  | false=>rw[hj]at he;cases he
  | true=>
    rw[hj,W8]at he;exact(hv e ((o7.1 he).resolve_left (by intro h;cases h))).1
 refine⟨c1d h1 (a3h hr).1 (a3h hr).2, ?_⟩;rw[d4c hr hs (d4b hg hj) he,head_ar hg hj];simp
def d0Q{p:c4}{s:c6}(hg:y3 p=true)(hs:j9 s=true)(hA:arOk p s)(hv:v∈vwS p):∀x∈a4c p s v,a0t x=true/\(x.V.length:Int)=z9 p v:=by
 intro x hx;rcases V0.1 hx with hx|hx
 ·cases h0:(w4 s v).2 with
  | false=>rw[d1f h0]at hx;cases hx
  | true=>
    obtain⟨y,hy1,hy2,hy3⟩:=c2R h0;have hk:=a0I hs v;have ha:(w4 s v).1.Arity=z9 p v:=by rw[hy3,hA y hy1 (by rw[hy2];exact(b0g hg hv).1),hy2]
    obtain⟨i,hi,rfl⟩:=q1I hx;simp only[y8,W3,q0W]at hk;have h1:=a3C.1 hk.2 i hi;rw[a0W,k8 default hi]at h1;simp only[q0Y,q0T,beq_iff_eq]at h1;exact⟨h1.1.2,by rw[h1.1.1,ha]⟩
 ·rw[a1d,q2K]at hx;obtain⟨r,hr,hx⟩:=hx;obtain⟨j,hj,rfl⟩:=q1I hr;cases h0:isV p v (p.Rules[j])with
  | false=>rw[h0]at hx;cases hx
  | true=>
    rw[h0,W8]at hx;have hn:(p.Rules[j]).Head.Name=v:=by
     rw[isV,W3]at h0;simpa using h0.2
    have h1:=b1V hg hs hj;rw[k8 default hj]at h1;rw[<-hn];refine h1 x ?_;rw[t6]at hx;cases hb:(u1 (p.Rules[j]) s).2 with
    | false=>rw[hb]at hx;cases hx
    | true=>rw[hb,W8]at hx;exact(a3l _ _).2 x hx
def c2V{a:Int}{l:List c7}(h0:0<=a)(h6:a<=6)(hl:l.length<=300)(hr:∀x∈l,a0t x=true/\(x.V.length:Int)=a)(hs:SS o5 l):y8 ⟨a,l⟩=true:=by
 simp only[y8,W3,q0W,V8];refine⟨⟨⟨h0,h6⟩,z0D⟩,a3C.2 fun i hi=>?_⟩;have h1:=hr _ (u4 (l:=l) default hi);simp only[a0W,q0Y,q0T];refine⟨⟨by simpa using h1.2,h1.1⟩, ?_⟩;cases hd:decide (0<i)with
 | false=>rfl
 | true=>
   have hp:0<i:=of_decide_eq_true hd;have h2:=hr _ (u4 (l:=l) default (show i-1<l.length by omega));have h3:=q2X.1 hs (i-1) i z0D hi z0D;rw[q0P,q0T,b9m (a0v h2.1) (a0v h1.1),k8 default hi,k8 default (show i-1<l.length by omega)];exact h3
def c6u{p:c4}(hg:y3 p=true)(hv:v∈vwS p):a2X (a0O p v)=true:=by
 have hB:=a0c (u9 hg);obtain⟨x,hx,hp,e⟩:=b3p (b0g hg hv).1;rw[a0O,e];simp only[a0g,W3,q0I]at hB;exact hB.1.1.1 x hx
def e2b{p:c4}{s:c6}(hg:y3 p=true)(hs:j9 s=true)(hA:arOk p s)(hv:v∈vwS p)(h:b6b p s v=true):y8 (c2H p s v)=true/\(c2H p s v).Arity=z9 p v:=by
 have hS:=b6h (a0I hs v);have hR:=d0Q hg hs hA hv;have hd:=c6u hg hv;simp only[a2X,K7]at hd;rw[b6b,W3,a4c,a3k hS]at h;rw[c2H,a4c,a3k hS];cases hc:decide (300<((l5 o5 (w4 s v).1.Rows (a1d p s v p.Rules)).length:Int))with
 | true=>rw[hc]at h;simp at h
 | false=>
   have h1:=of_decide_eq_false hc;refine⟨c2V (by rw[(b0g hg hv).2];omega) (by rw[(b0g hg hv).2];omega) z0D (fun x hx=>hR x ?_) (hS.puts a0R),rfl⟩;rw[a4c,V0];exact o7.1 hx
def b1W{l:List c9}(hl:l.length<=24)(hs:SS sLt (l.map c9.Name))(h:∀x∈l,a1m x.Name=true/\y8 x.Rel=true):j9 ⟨l⟩=true:=by
 simp only[j9,W3,q0W,V8];refine⟨z0D,a3C.2 fun i hi=>?_⟩;have h1:=h _ (u4 (l:=l) default hi);simp only[a1g,q0Y,q0T];refine⟨⟨h1.1,h1.2⟩, ?_⟩;cases hd:decide (0<i)with
 | false=>rfl
 | true=>
   have hp:0<i:=of_decide_eq_true hd;have h3:=q2X.1 hs (i-1) i z01 (by rw[q0C];exact hi) z0D;rw[q3R,q3R]at h3;rw[q0P,q0T,k8 default hi,k8 default (show i-1<l.length by omega)];exact h3
def b1X{s:c6}(h:j9 s=true):∀x∈s.Rels,a1m x.Name=true/\y8 x.Rel=true:=by
 intro x hx;obtain⟨i,hi,rfl⟩:=q1I hx;simp only[j9,W3,q0W]at h;have h2:=a3C.1 h.2 i hi;rw[a1g,k8 default hi]at h2;simp only[q0Y,q0T]at h2;exact h2.1
def d9u{p:c4}(hg:y3 p=true)(hv:v∈vwS p):a1m v=true:=by
 have hd:=c6u hg hv;obtain⟨x,hx,hp,e⟩:=b3p (b0g hg hv).1;simp only[a2X,W3]at hd;have h1:=hd.1.2;rw[a0O,e]at h1;have h2:x.Name=v:=by simpa using hp
 rw[show(some x).getD default=x from rfl,h2]at h1;rw[d0T,W3]at h1;exact h1.1
def d9e{p:c4}{s:c6}(hg:y3 p=true)(hs:j9 s=true)(hA:arOk p s)(n:Int):∀L:List f5,(∀l∈L,l.Name∈vwS p)->a8m p s n L=true->∀x∈a6V p s n L,(a1m x.Name=true/\y8 x.Rel=true)/\(a0H p x.Name=true->x.Rel.Arity=z9 p x.Name):=by
 intro L;rw[a6V]
 suffices h:∀(L:List f5) (o:List c9),(∀l∈L,l.Name∈vwS p)->a8m p s n L=true->(∀x∈o,(a1m x.Name=true/\y8 x.Rel=true)/\(a0H p x.Name=true->x.Rel.Arity=z9 p x.Name))->∀x∈L.foldl (a3O p s n) o,(a1m x.Name=true/\y8 x.Rel=true)/\(a0H p x.Name=true->x.Rel.Arity=z9 p x.Name)from fun h1 h2=>h L _ h1 h2 fun x hx=>⟨b1X hs x hx,hA x hx⟩
 intro L
 induction L with
 | nil=>intro o _ _ ho;exact ho
 | cons l L ih=>
   intro o hV ha ho;rw[a8m,q2T,W3]at ha;rw[q2E];refine ih _ (fun y hy=>hV y (q1W _ hy)) ha.2 fun x hx=>?_
   rw[a3O]at hx;cases hc:l.N==n with
   | false=>rw[hc]at hx;exact ho x hx
   | true=>
     rw[hc,W8]at hx;have hv:=hV l q2L;have hk:=e2b hg hs hA hv (by rw[hc]at ha;simpa using ha.1);rcases a5h hx with rfl|hx
     ·exact⟨⟨d9u hg hv,hk.1⟩,fun _=>hk.2⟩
     ·exact ho x hx
def a4w{p:c4}{s:c6}(hg:y3 p=true)(hs:j9 s=true)(hA:arOk p s)(hV:∀l∈L,l.Name∈vwS p)(h:(v6 p L s n).2=true):j9 (v6 p L s n).1=true/\arOk p (v6 p L s n).1:=by
 rw[v6]at h ⊢;cases h1:a8m p s n L&&decide (((a6V p s n L).length:Int)<=24)with
 | false=>rw[h1]at h;cases h
 | true=>
   rw[W3,V8]at h1;have h2:=d9e hg hs hA n L hV h1.1;exact⟨b1W z0D (b1U p n (a2q hs) L).1 fun x hx=>(h2 x hx).1,fun x hx=>(h2 x hx).2⟩
attribute [local irreducible] aft blk lpK retK AW A0e
attribute [local irreducible] RM
def a2A(p:c4)(s:c6):Prop:=j9 s=true/\arOk p s
noncomputable def b5Z(p:c4)(L:List f5)(n:Int):Nat->c6->c6×Bool
 | 0,s=>(s,true)
 | k+1,s=>bif (v6 p L s n).2 then(bif decide (a0e s<a0e (v6 p L s n).1)then b5Z p L n k (v6 p L s n).1 else((v6 p L s n).1,true))else(default,false)
noncomputable def a6g(p:c4)(L:List f5)(n:Int)(s:c6):c6×Bool:=b5Z p L n (7201-a0e s) s
def a2g{s:c6}(h:j9 s=true):a0e s<=7200:=by
 rw[<-b6i (s:=s) (i:=s.Rels.length) z0D];exact c2X h (q0F _)
def c5V{p:c4}{L:List f5}{n:Int}(hg:y3 p=true)(hV:∀l∈L,l.Name∈vwS p):∀(k k':Nat) {s:c6},a2A p s->7200-a0e s<k->7200-a0e s<k'->b5Z p L n k s=b5Z p L n k' s
 | 0,_,s,_,h,_=>by omega
 | _+1,0,s,_,_,h=>by omega
 | k+1,k'+1,s,hs,h1,h2=>by
   rw[b5Z,b5Z];cases hr:(v6 p L s n).2 with
   | false=>rfl
   | true=>
     rw[W8,W8];cases hc:decide (a0e s<a0e (v6 p L s n).1)with
     | false=>rfl
     | true=>
       have h3:=a4w hg hs.1 hs.2 hV hr;have h4:=a2g h3.1;have h5:=of_decide_eq_true hc;exact c5V hg hV k k' h3 z0D z0D
def c5W{p:c4}{n:Int}(hg:y3 p=true)(hV:∀l∈L,l.Name∈vwS p){s:c6}(hs:a2A p s):a6g p L n s=bif (v6 p L s n).2 then(bif decide (a0e s<a0e (v6 p L s n).1)then a6g p L n (v6 p L s n).1 else((v6 p L s n).1,true))else(default,false):=by
 have h0:=a2g hs.1;rw[a6g,show 7201-a0e s=(7200-a0e s)+1 by omega,b5Z];cases hr:(v6 p L s n).2 with
 | false=>rfl
 | true=>
   rw[W8,W8];cases hc:decide (a0e s<a0e (v6 p L s n).1)with
   | false=>rfl
   | true=>
     have h3:=a4w hg hs.1 hs.2 hV hr;have h4:=a2g h3.1;have h5:=of_decide_eq_true hc;rw[W8,W8,a6g];exact c5V hg hV _ _ h3 z0D z0D
def d6n{p:c4}{L:List f5}{n:Int}(hg:y3 p=true)(hV:∀l∈L,l.Name∈vwS p):∀(k:Nat) {s:c6},a2A p s->(b5Z p L n k s).2=true->a2A p (b5Z p L n k s).1
 | 0,s,hs,_=>hs
 | k+1,s,hs,h=>by
   rw[b5Z]at h ⊢;cases hr:(v6 p L s n).2 with
   | false=>rw[hr]at h;cases h
   | true=>
     rw[hr]at h;rw[W8]at h ⊢;have h3:=a4w hg hs.1 hs.2 hV hr;cases hc:decide (a0e s<a0e (v6 p L s n).1)with
     | false=>exact h3
     | true=>rw[hc]at h;exact d6n hg hV k h3 h
noncomputable def upR(p:c4)(L:List f5)(s:c6):Nat->c6×Bool
 | 0=>(s,true)
 | n+1=>bif (upR p L s n).2 then a6g p L n (upR p L s n).1 else(default,false)
def c3i{p:c4}{L:List f5}(hg:y3 p=true)(hV:∀l∈L,l.Name∈vwS p){s:c6}(hs:a2A p s):∀{n:Nat},(upR p L s n).2=true->a2A p (upR p L s n).1
 | 0,_=>hs
 | n+1,h=>by
   rw[upR]at h ⊢;cases hu:(upR p L s n).2 with
   | false=>rw[hu]at h;cases h
   | true=>
     rw[hu]at h;rw[W8]at h ⊢;exact d6n hg hV _ (c3i hg hV hs hu) h
def c8z{p:c4}{L:List f5}{s:c6}{n:Nat}(h:(upR p L s n).2=false):∀{m:Nat},n<=m->(upR p L s m).2=false/\(n<m->upR p L s m=(default,false))
 | 0,hm=>by cases Nat.le_zero.1 hm;exact⟨h,fun h=>z0D⟩
 | m+1,hm=>by
   by_cases hn:n=m+1
   ·subst hn;exact⟨h,fun h=>z0D⟩
   ·have h1:=(c8z h (m:=m) z0D).1;have h2:upR p L s (m+1)=(default,false):=by rw[upR,h1];rfl
    exact⟨by rw[h2],fun _=>h2⟩
def d4u{p:c4}{s:c6}(hs:j9 s=true)(h:∀l∈L,¬l.N=n):v6 p L s n=(s,true):=by
 have h1:a6V p s n L=s.Rels:=by
  rw[a6V];generalize s.Rels=o
  induction L generalizing o with
  | nil=>rfl
  | cons l L ih=>
    rw[q2E,c3f (by simpa[bne]using h l q2L)];exact ih (fun y hy=>h y (q1W _ hy)) o
 have h2:a8m p s n L=true:=q0I.2 fun l hl=>by
  rw[show(l.N==n)=false by simpa using h l hl];rfl
 rw[v6,h1,h2,V3 (by have:=a1T hs;omega)];rfl
def e1Y{p:c4}{s:c6}(hs:j9 s=true)(h:∀l∈L,¬l.N=n):a6g p L n s=(s,true):=by
 have h0:=a2g hs;rw[a6g,show 7201-a0e s=(7200-a0e s)+1 by omega,b5Z,d4u hs h,W8,V5 (Nat.lt_irrefl _)];rfl
def d1v{p:c4}{L:List f5}(hg:y3 p=true)(hV:∀l∈L,l.Name∈vwS p){s:c6}(hs:a2A p s){n:Nat}(hn:∀l∈L,l.N<n):∀{m:Nat},n<=m->(upR p L s n).2=true->upR p L s m=upR p L s n
 | 0,hm,_=>by cases Nat.le_zero.1 hm;rfl
 | m+1,hm,h=>by
   by_cases he:n=m+1
   ·subst he;rfl
   ·have h1:=d1v hg hV hs hn (m:=m) z0D h;rw[upR,h1,h,W8,e1Y (c3i hg hV hs h).1 (fun l hl=>by have:=hn l hl;omega)];rw[<-h]
def b3C(b:c6)(a:c6):spZ 66 [(true,[j7 b.Rels]),(true,[j7 a.Rels])] [] (.tup []):=by
 refine sy' Tryz.func66 (g' 2 [aX 1 0,aX 1 1]) [] [] ?_;intro hb hE;simp only[go_sem];repeat' first|apply cj'|intro hc|exact om'|fail
noncomputable def a5s:CT:=l4 (fun(x:c6×c6)=>b3C x.1 x.2)
@[go_sem] def c9z:=fun x0 x1=>nm' (fQ' a5s rfl (⟨x0⟩,⟨x1⟩))
def c1l{p:c4}(hg:y3 p=true):∃g,(j8 p).1=lvl p g/\Least p g:=by
 have h1:(j8 p).2=true:=by
  rw[y3,W3]at hg;exact hg.1
 by_cases h:∃g,Least p g
 ·refine⟨h.choose, ?_,h.choose_spec⟩;rw[j8,a4r h1,W8,dif_pos h]
 ·rw[j8,a4r h1,W8,dif_neg h]at h1;cases h1
def a9P{p:c4}(hg:y3 p=true):(∀l∈(j8 p).1,l.Name∈vwS p)/\(∀l∈(j8 p).1,0<=l.N/\l.N<=((j8 p).1.length:Int)):=by
 obtain⟨g,h1,h2⟩:=c1l hg;rw[h1];refine⟨fun l hl=>?_,fun l hl=>?_⟩
 ·obtain⟨v,hv,rfl⟩:=q0R.1 hl;exact hv
 ·obtain⟨v,hv,rfl⟩:=q0R.1 hl;have:=h2.le v hv;have:=h2.low.ge v;rw[a7r];exact⟨this,by assumption⟩
def d0N{p:c4}(hg:y3 p=true):(j8 p).1.length<=64:=by
 obtain⟨g,h1,_⟩:=c1l hg;have h2:=c8B (a0c (u9 hg));rw[h1,a7r];omega
noncomputable def a6r(p:c4)(s:c6):c6×Bool:=upR p (j8 p).1 s ((j8 p).1.length+1)
def b4f{s:c6}(hs:j9 s=true):s.Rels.length<=1000/\∀x∈s.Rels,x.Rel.Rows.length<=100000/\∀y∈x.Rel.Rows,y.V.length<1000:=by
 have hsl:=a1T hs;exact⟨z0D,fun x hx=>by
   have h:=a3L (a1o hs x hx);exact⟨z0D,fun y hy=>(h.2 y hy).2⟩⟩
def c5m(p:c4)(s:c6)(hpre:y3 p=true/\a2A p s):spZ 25 [(true,[p6 p.Decls,o9 p.Rules]),(true,[j7 s.Rels])] [] (.tup [(true,[j7 (((a6r p s).1).Rels)]),(false,[.b ((a6r p s).2)])]):=by
 refine sx' false true none Tryz.func25 (q' 2 [aX 2 0,aX 1 1,aw [.sl o0],aU false] (q' 14 [ae 2 2,ac 51 [14],aV 13,aZ 13 0,aZ 13 1,av 6 16,aV 7] (q' 18 [ae 1 3,ac 52 [18],ax (w' 8 [.sl o0]),aS 1 8 19] (.seq (q' 9 [aK 0] (fo 0 20 [aM [9,6],aN,aD .leq 20 22] 23 1 (q' 10 [ao (.mov (.k (.v false [.c (.i .i64 (-1))])))] (lO 2 (.seq (q' 26 [am 10,ae 1 8,ac 53 [27],ar 26 28] (cd 29 .skip (.exit 2))) (.block 3 (q' 30 [ae 1 8,ac 53 [30],aV 10] (q' 33 [ae 2 2,am 6,ae 1 8,am 9,ac 54 [33,34,35,36],aV 32,aZ 32 0,aZ 32 1,ax (w' 11 [.sl o0]),aS 1 11 38,aV 12] (.seq (q' 40 [am 12,aO 40] (ci 41 (q' 42 [ao (.bld [.sl o0] []),aS 1 4 42,ab 5 false] .ret))) (g' 43 [ae 1 11,aS 1 8 43])))))))) (g' 24 [aB 9]))) (q' 44 [ae 1 8,aS 1 4 44,ab 5 true] .ret))))) [.c 4 true 1,.t 5] [(51,[],a6a),(52,[],a4T),(53,[],a9t),(54,[],a8h)] ?_;intro hb hE;obtain⟨hg,hs⟩:=hpre;have hL:=d0N hg;have hV:=a9P hg;have hcp:=b4f hs.1;simp only[go_sem];repeat' first|apply cj'|intro hc|exact om'|fail
 ·exact hcp
 refine lq' false [2,4,6,8] [4] [] (fun i:{i:Nat // i<=(j8 p).1.length+1/\(upR p (j8 p).1 s i).2=true}=>[(9,slV (.i .i64 i.1))]) (fun i=>[(16,[.c (j7 (upR p (j8 p).1 s i.1).1.Rels)]),(8,[.nl o0])]) nl' (fun i=>(j8 p).1.length+1-i.1) (⟨0,z0D,rfl⟩) ?_;intro S0 hS0 i;obtain⟨m,hm,hu⟩:=i;have hst:=c3i hg hV.1 hs hu;have hr0:=a2g hst.1;have hup:upR p (j8 p).1 s (m+1)=a6g p (j8 p).1 m (upR p (j8 p).1 s m).1:=by rw[upR,hu];rfl
 have hms:(m:Int)=m:=rfl;simp only[go_sem,hS0];repeat' first|apply cj'|intro hc|exact om'|fail
 rotate_left
 ·rw[a6r,show(j8 p).1.length+1=m by omega,hu];exact⟨rfl,rfl⟩
 generalize hst0:(upR p (j8 p).1 s m).1=st at*;refine lq' false [2,4,6,8,9] [4] [] (fun i:{q:Int×c6 // a2A p q.2/\-1<=q.1/\q.1<=7200/\(q.1<a0e q.2->a6g p (j8 p).1 m q.2=a6g p (j8 p).1 m st)/\(¬q.1<a0e q.2->a6g p (j8 p).1 m st=(q.2,true))}=>[(10,slV (.i .i64 i.1.1))]) (fun i=>[(16,[.c (j7 i.1.2.Rels)]),(8,[.nl o0])]) nl' (fun i=>(7201-i.1.1).toNat) (⟨(-1,st),hst,z0D,z0D,fun _=>rfl,fun h=>absurd h (by show¬¬(-1:Int)<_;omega)⟩) ?_;intro S1 hS1 i;obtain⟨⟨r,o⟩,ho,hr1,hr2,hrl,hrx⟩:=i;simp only at ho hr1 hr2 hrl hrx;have ho0:=a2g ho.1;have hstep:=c5W hg hV.1 (n:=m) ho;simp only[go_sem,hS0,hS1];repeat' first|apply cj'|intro hc|exact om'|fail
 ·exact ho.1
 ·exact ho.1
 ·exact⟨⟨⟨⟨hg,ho.1⟩,ho.2⟩,hV.1⟩,z0D⟩
 ·have hlt:=‹r<(a0e o:Int)›;have e:=(hrl hlt).symm.trans hstep;rw[hc,V2]at e;have h1:(upR p (j8 p).1 s (m+1)).2=false:=by rw[hup,e]
  have h3:upR p (j8 p).1 s ((j8 p).1.length+1)=(default,false):=by
   by_cases he:m+1=(j8 p).1.length+1
   ·rw[<-he,hup,e]
   ·exact(c8z h1 z0D).2 (by omega)
  rw[a6r,h3];exact⟨rfl,rfl⟩
 ·have hlt:=‹r<(a0e o:Int)›;have e:=(hrl hlt).symm.trans hstep;rw[hc,W8]at e;have h3:=a4w hg ho.1 ho.2 hV.1 hc;have h4:=a2g h3.1;have e1:(a0e o:Int)<a0e (v6 p (j8 p).1 o m).1->a6g p (j8 p).1 m (v6 p (j8 p).1 o m).1=a6g p (j8 p).1 m st:=fun h=>by rw[e,V3 z0D,W8]
  have e2:¬(a0e o:Int)<a0e (v6 p (j8 p).1 o m).1->a6g p (j8 p).1 m st=((v6 p (j8 p).1 o m).1,true):=fun h=>by rw[e,V5 z0D,V2]
  exact nx1 ⟨((a0e o:Int),(v6 p (j8 p).1 o m).1),h3,z0D,z0D,e1,e2⟩
 ·have e3:upR p (j8 p).1 s (m+1)=(o,true):=by rw[hup,hrx hc]
  (refine lpK_n2 (⟨m+1,z0D,by rw[e3]⟩) _ rfl ?_;simp only[go_sem,hS0,hS1]<;>repeat' first|apply W6|exact on'|fail)
  all_goals rw[e3]
noncomputable def a6e:CT:=n9 (fun(x:c4×c6) h=>c5m x.1 x.2 h)
@[go_sem] def d8x:=fun x0 x1 x2=>nm' (fP' a6e rfl (⟨x0,x1⟩,⟨x2⟩))
def mxN(L:List f5):Int:=L.foldl (fun a l=>max a l.N) 0
def e2d{i:Nat}(h:i<L.length):mxN (L.take (i+1))=max (mxN (L.take i)) (L.getD i default).N:=by
 rw[mxN,j6 default h,q2V];rfl
def mxF(L:List f5):∀a:Int,a<=L.foldl (fun a l=>max a l.N) a/\(∀l∈L,l.N<=L.foldl (fun a l=>max a l.N) a)/\∀b,a<=b->(∀l∈L,l.N<=b)->L.foldl (fun a l=>max a l.N) a<=b:=by
 induction L with
 | nil=>intro a;exact⟨Int.le_refl _,z0E,fun b h _=>h⟩
 | cons x L ih=>
   intro a;rw[q2E];have h:=ih (max a x.N);refine⟨z0D,fun l hl=>?_,fun b hb hl=>h.2.2 b ?_ fun l h=>hl l (q1W _ h)⟩
   ·rcases q0B.1 hl with rfl|hl
    ·omega
    ·exact h.2.1 l hl
   ·have:=hl x q2L;omega
noncomputable def w6(p:c4)(s:c6):c6×Int:=bif (a6r p s).2 then((a6r p s).1,0)else(default,2)
def c1K(p:c4)(s:c6)(hpre:y3 p=true/\a2A p s):spZ 65 [(true,[p6 p.Decls,o9 p.Rules]),(true,[j7 s.Rels]),(false,[.f 66 []])] [] (.tup [(true,[j7 (((w6 p s).1).Rels)]),(false,[.i .i64 ((w6 p s).2)])]):=by
 refine sx' false true none Tryz.func65 (q' 3 [aX 2 0,aX 1 1,ax (w' 6 [.sl o0]),az 7 0] (q' 18 [ae 2 3,ac 97 [18],aV 17,aZ 17 0,aZ 17 1,av 8 20,aV 9] (q' 10 [aK 0] (.seq (q' 22 [am 8,aN,aK 0] (fO 0 25 [ar 24 23] 25 1 (q' 26 [ai 2 22 24,aE 2,ax (w' 12 [.s,.i .i64]),aS 2 12 27] (g' 28 [am 10,aG 1 12,ao (.max2 (.t 28) (.t 30)),aV 10])) (g' 32 [aA 24]))) (.seq (q' 13 [aK 0] (fo 2 33 [aM [13,10],aD .leq 33 34] 35 3 (q' 14 [aU true] (lO 4 (.seq (q' 38 [am 14] (cd 38 .skip (.exit 4))) (.block 5 (q' 40 [ae 2 3,am 8,ae 1 4,am 13,ac 103 [40,41,42,43],aV 39,aZ 39 0,aZ 39 1,ax (w' 15 [.sl o0]),aS 1 15 45,aV 16] (.seq (q' 47 [am 16,aO 47] (ci 48 (q' 49 [ao (.bld [.sl o0] []),aS 1 6 49,az 7 2] .ret))) (q' 50 [am 2,ae 1 4,ae 1 15,ao (.callv (.t 50) [.t 51,.t 52])] (.seq (G' 54 [ae 1 15,ac 104 [54],ae 1 4,ac 104 [56],aD .gtr 55 57,aV 14]) (g' 59 [ae 1 15,aS 1 4 59]))))))))) (g' 36 [aB 13]))) (q' 60 [ae 1 4,aS 1 6 60,az 7 0] .ret)))))) [.c 6 true 1,.t 7] [(97,[],a5L),(104,[],a6u),(103,[],b2U),(66,[],a5s)] ?_;intro hb hE;obtain⟨hg,hs⟩:=hpre;have hL:=d0N hg;have hV:=a9P hg;simp only[go_sem];repeat' first|apply cj'|intro hc|exact om'|fail
 refine a2B 2432 ?_;refine lq' false [2,3,4,6,8,22,23] [6] [] (fun i:{i:Nat // i<=(j8 p).1.length}=>[(10,slV (.i .i64 (mxN ((j8 p).1.take i.1)))),(24,slV (.i .i64 i.1))]) (fun i=>[(8,[.c (j7 s.Rels)]),(12,[.nl o0])]) nl' (fun i=>(j8 p).1.length-i.1) (⟨0,z0D⟩) ?_;intro S0 hS0 i;obtain⟨i,hi⟩:=i;simp only[go_sem,hS0];repeat' first|apply cj'|intro hc|exact om'|fail
 ·(refine lpK_n2 (⟨i+1,z0D⟩) _ rfl ?_;simp only[go_sem,hS0]<;>repeat' first|apply W6|exact on'|fail)
  all_goals rw[e2d z0D]
  all_goals(split<;>omega)
 rw[j5 z0D];have hM:=mxF (j8 p).1 0;have hM2:=hM.2.2 ((j8 p).1.length:Int) z0D fun l hl=>(hV.2 l hl).2
 change 0<=mxN (j8 p).1/\(∀l∈(j8 p).1,l.N<=mxN (j8 p).1)/\_ at hM;change mxN (j8 p).1<=_ at hM2;generalize mxN (j8 p).1=M at*;refine lq' false [2,3,4,6,8,10] [6] [] (fun i:{q:Nat×c6 // (q.1:Int)<=M+1/\upR p (j8 p).1 s q.1=(q.2,true)}=>[(13,slV (.i .i64 i.1.1))]) (fun i=>[(8,[.c (j7 i.1.2.Rels)]),(12,[.nl o0])]) nl' (fun i=>(M+1-i.1.1).toNat) (⟨(0,s),by show((0:Nat):Int)<=M+1;omega,rfl⟩) ?_;intro S1 hS1 i;obtain⟨⟨m,st⟩,hm,hu0⟩:=i;simp only at hm hu0;have hu:(upR p (j8 p).1 s m).2=true:=by rw[hu0]
 have hst:=c3i hg hV.1 hs hu;rw[hu0]at hst;simp only at hst;have hr0:=a2g hst.1;have hup:upR p (j8 p).1 s (m+1)=a6g p (j8 p).1 m st:=by rw[upR,hu0];rfl
 simp only[go_sem,hS0,hS1];repeat' first|apply cj'|intro hc|exact om'|fail
 rotate_left
 ·have h1:=d1v hg hV.1 hs (n:=m) (m:=(j8 p).1.length+1) (fun l hl=>by have:=hM.2.1 l hl;omega) z0D hu;rw[w6,a6r,h1,hu0];exact⟨rfl,rfl⟩
 refine lq' false [2,3,4,6,8,10,13] [6] [] (fun i:{q:Bool×c6 // a2A p q.2/\(q.1=true->a6g p (j8 p).1 m q.2=a6g p (j8 p).1 m st)/\(q.1=false->a6g p (j8 p).1 m st=(q.2,true))}=>[(14,slV (.b i.1.1))]) (fun i=>[(8,[.c (j7 i.1.2.Rels)]),(12,[.nl o0])]) nl' (fun i=>(bif i.1.1 then 7202-a0e i.1.2 else 0)) (⟨(true,st),hst,fun _=>rfl,fun h=>by cases h⟩) ?_;intro S2 hS2 i;obtain⟨⟨r,o⟩,ho,hrl,hrx⟩:=i;simp only at ho hrl hrx;have ho0:=a2g ho.1;have hstep:=c5W hg hV.1 (n:=m) ho;simp only[go_sem,hS0,hS1,hS2];repeat' first|apply cj'|intro hc|exact om'|fail
 ·exact⟨⟨hg,ho.1⟩,z0D⟩
 ·have e:=(hrl ‹r=true›).symm.trans hstep;rw[hc,V2]at e;have h1:(upR p (j8 p).1 s (m+1)).2=false:=by rw[hup,e]
  have h3:upR p (j8 p).1 s ((j8 p).1.length+1)=(default,false):=by
   by_cases he:m+1=(j8 p).1.length+1
   ·rw[<-he,hup,e]
   ·exact(c8z h1 z0D).2 (by omega)
  rw[w6,a6r,h3];exact⟨rfl,rfl⟩
 ·exact(a4w hg ho.1 ho.2 hV.1 hc).1
 ·exact ho.1
 ·have e:=(hrl ‹r=true›).symm.trans hstep;rw[hc,W8]at e;have h3:=a4w hg ho.1 ho.2 hV.1 hc;have h4:=a2g h3.1;have e1:decide ((a0e o:Int)<a0e (v6 p (j8 p).1 o m).1)=true->a6g p (j8 p).1 m (v6 p (j8 p).1 o m).1=a6g p (j8 p).1 m st:=fun h=>by
   have:=of_decide_eq_true h;rw[e,V3 z0D,W8]
  have e2:decide ((a0e o:Int)<a0e (v6 p (j8 p).1 o m).1)=false->a6g p (j8 p).1 m st=((v6 p (j8 p).1 o m).1,true):=fun h=>by
   have:=of_decide_eq_false h;rw[e,V5 z0D,V2]
  have e4:(bif decide ((a0e o:Int)<a0e (v6 p (j8 p).1 o m).1)then 7202-a0e (v6 p (j8 p).1 o m).1 else 0)<(bif r then 7202-a0e o else 0):=by
   rw[‹r=true›,W8];cases h:decide ((a0e o:Int)<a0e (v6 p (j8 p).1 o m).1)with
   | false=>rw[V2];omega
   | true=>have:=of_decide_eq_true h;rw[W8];omega
  (refine lpK_n2 (⟨(decide ((a0e o:Int)<a0e (v6 p (j8 p).1 o m).1),(v6 p (j8 p).1 o m).1),h3,e1,e2⟩) _ rfl ?_;simp only[go_sem,hS0,hS1,hS2]<;>repeat' first|apply W6|exact on'|fail)
 ·have e3:upR p (j8 p).1 s (m+1)=(o,true):=by rw[hup,hrx hc]
  (refine lpK_n2 (⟨(m+1,o),by show((m+1:Nat):Int)<=M+1;omega,e3⟩) _ rfl ?_;simp only[go_sem,hS0,hS1,hS2]<;>repeat' first|apply W6|exact on'|fail)
noncomputable def a8N:CT:=n9 (fun(x:c4×c6) h=>c1K x.1 x.2 h)
@[go_sem] def d4T:=fun x0 x1 x2=>nm' (fP' a8N rfl (⟨x0,x1⟩,⟨x2⟩))
def d8E{p:c4}(hg:y3 p=true){d:f7}(hm:d∈p.Decls):a0O p d.Name=d/\z9 p d.Name=d.Arity:=by
 have hd:=(a2R z1M).2.1;obtain⟨i,hi,rfl⟩:=q1I hm;rw[<-k8 default hi];have ha:((p.Decls.take i).any fun d=>d.Name==(p.Decls.getD i default).Name)=false:=by
  rw[q2J];intro x hx;obtain⟨j,hj,rfl⟩:=q2R.1 hx;have:=a7t hd hi (j:=j) z0D;rw[k8 default z0D]at this;simpa using this
 have h1:=a9N hi ha z0E;have h2:=hd i hi;rw[z5]at h2;simp only[q0Y]at h2;refine⟨h1.1, ?_⟩;rw[z9,h2.1.1,h2.1.2,h1.2,h1.1];rfl
def c5M:∀l:List f7,∀x∈a0r l,∃d∈l,d.Name=x.Name/\d.Arity=x.Rel.Arity:=by
 intro l;have gen:∀(l:List f7) (s:List c9) (L:List f7),(∀d∈l,d∈L)->(∀x∈s,∃d∈L,d.Name=x.Name/\d.Arity=x.Rel.Arity)->∀x∈l.foldl (fun s d=>a1D s d.Name ⟨d.Name,⟨d.Arity,[]⟩⟩) s,∃d∈L,d.Name=x.Name/\d.Arity=x.Rel.Arity:=by
  intro l
  induction l with
  | nil=>intro s L _ h;exact h
  | cons d l ih=>
    intro s L hl h;rw[q2E];refine ih _ L (fun y hy=>hl y (q1W _ hy)) fun x hx=>?_
    rcases a5h hx with rfl|hx
    ·exact⟨d,hl d q2L,rfl,rfl⟩
    ·exact h x hx
 exact gen l [] l (fun d h=>h) z0E
def a2l{p:c4}{s:c6}(h:a0x p s=true):y3 p=true/\a2A p s:=by
 simp only[a0x,W3]at h;refine⟨h.1.1,h.1.2,fun x hx _=>?_⟩;obtain⟨i,hi,rfl⟩:=q1I hx;have h2:=h.2;simp only[a1S,K7,q0W]at h2;have h3:=a3C.1 h2.2 i hi;simp only[b3Y,q0Y,q0T,beq_iff_eq]at h3;obtain⟨d,hd,hn,ha⟩:=c5M (a1P p 1) _ (u4 (l:=a0r (a1P p 1)) (i:=i) default z0D);rw[k8 default hi]at h3;rw[h3.1,h3.2,<-hn,<-ha];exact((d8E h.1.1 (q0N.1 hd).1).2).symm
def b3n{p:c4}{s:c6}(hg:y3 p=true)(hs:a2A p s):j9 (w6 p s).1=true:=by
 rw[w6];cases h:(a6r p s).2 with
 | false=>rfl
 | true=>exact(c3i hg (a9P hg).1 hs h).1
def b8k(p:c4)(s:c6)(hpre:y3 p=true/\a2A p s):spZ 35 [(true,[p6 p.Decls,o9 p.Rules]),(true,[j7 s.Rels])] [] (.tup [(true,[j7 (((w6 p s).1).Rels)]),(false,[.i .i64 ((w6 p s).2)])]):=by
 refine sx' false true none Tryz.func35 (q' 2 [aX 2 0,aX 1 1,aw [.sl o0],aK 0] (q' 6 [ae 2 2,ae 1 3,ao (.call 65 [.t 6,.t 7,.k (.v false [.c (.f 66 [])])]),aZ 8 0,aZ 8 1,aS 1 4 9,aV 5] .ret)) [.c 4 true 1,.t 5] [(65,[],a8N)] ?_;intro hb hE;simp only[go_sem];repeat' first|apply cj'|intro hc|exact om'|fail
 ·exact hpre
noncomputable def a7D:CT:=n9 (fun(x:c4×c6) h=>b8k x.1 x.2 h)
@[go_sem] def d2Z:=fun x0 x1 x2=>nm' (fP' a7D rfl (⟨x0,x1⟩,⟨x2⟩))
end Go.Aw
namespace Go.Aw
open Go.Proofs
attribute [local irreducible] aft blk lpK retK AW A0e
set_option linter.all false
set_option maxRecDepth 100000
set_option maxHeartbeats 4000000
attribute [local irreducible] RM
def d6x(a b c d:Int):c7:=⟨[⟨a,[]⟩,⟨b,[]⟩,⟨c,[]⟩,⟨d,[]⟩]⟩
def a8r(a b c d:Int):i5:=⟨pkB,d6x a b c d⟩
def z7(s:c6)(e:i5):c6:=⟨a1D s.Rels e.Name ⟨e.Name,⟨(e.Row.V.length:Int),[e.Row]⟩⟩⟩
def b5t(x:c7):Bool:=(x.V.getD 0 default).S==[]&&(decide (1<=(x.V.getD 0 default).N)&&decide ((x.V.getD 0 default).N<=255))
def a2W(l:List c7):List Int:=(l.filter b5t).map fun x=>(x.V.getD 0 default).N
def a0T(r:c8):Bool:=r.Head.Name==fwB
def w5(k:Int)(n:List UInt8)(r:c8):Bool:=r.Kind==k&&r.Head.Name==n
noncomputable def p9(s:c6)(q:c8->Bool)(L:List c8):List c7:=L.flatMap fun r=>bif q r then(t6 r s).1.Rows else[]
noncomputable def a1L(s:c6)(q:c8->Bool)(L:List c8):Bool:=L.all fun r=>!q r||(t6 r s).2
noncomputable def c3Z(s:c6)(q:c8->Bool)(L:List c8):Nat:=L.findIdx fun r=>q r&&!(t6 r s).2
noncomputable def a1k(p:c4)(s:c6)(k:Int)(n:List UInt8)(a:Int):f8×Bool:=(⟨a,l5 o5 [] (p9 s (w5 k n) (p.Rules.take (c3Z s (w5 k n) p.Rules)))⟩,a1L s (w5 k n) p.Rules)
noncomputable def a1s(p:c4)(s:c6):List Int×Bool:=bif a1L s a0T p.Rules then(Lib.compact (a1a iLt (a2W (p9 s a0T p.Rules))),true)else([],false)
noncomputable def d0i(p:c4)(s:c6):List Int×Int:=bif a1L s (w5 1 fwB) p.Rules then(a2W (l5 o5 [] (p9 s (w5 1 fwB) p.Rules)),0)else([],3)
def c2O(a b:List c7):a2W (a++b)=a2W a++a2W b:=by simp[a2W]
def d1d(x:c7):a2W [x]=bif b5t x then[(x.V.getD 0 default).N]else[]:=by
 rw[a2W,q3M];cases b5t x<;>rfl
def b3X(l:List c7):(a2W l).length<=l.length:=by rw[a2W,q0C];exact q1F _ _
@[go_sem] def fwRows_nil(s:c6)(q:c8->Bool):p9 s q []=[]:=rfl
@[go_sem] def ptsL_nil:a2W []=[]:=rfl
variable{L:List c8}
def a5C(s:c6)(q:c8->Bool){j:Nat}(h:j<L.length):p9 s q (L.take (j+1))=p9 s q (L.take j)++(bif q (L.getD j default)then(t6 (L.getD j default) s).1.Rows else[]):=by
 rw[j6 default h,p9,p9,q3X];simp
def a1M{s:c6}(hs:j9 s=true)(q:c8->Bool):∀{L:List c8},(∀r∈L,l8 r=true)->(p9 s q L).length<=300*L.length
 | [],_=>q0F _
 | r::L,h=>by
   have h1:=a1M hs q (L:=L) fun r hr=>h r (q1W _ hr)
   have h2:=a1N (h r q2L) hs;have e:p9 s q (r::L)=(bif q r then(t6 r s).1.Rows else[])++p9 s q L:=by simp[p9]
   rw[e,V6,V9];cases q r with
   | true=>rw[W8];omega
   | false=>simp only[V2,q1R];omega
def c7c{s:c6}{q:c8->Bool}{i:Nat}(hi:i<L.length)(ha:a1L s q (L.take i)=true)(h1:q (L.getD i default)=true)(h2:(t6 (L.getD i default) s).2=false):c3Z s q L=i/\a1L s q L=false:=by
 refine⟨?_, ?_⟩
 ·rw[c3Z,List.findIdx_eq hi];rw[k8 default hi]at h1 h2;refine⟨z2S,fun j hj=>?_⟩;rw[a1L,q0I]at ha;have h:=ha L[j] (q2R.2 ⟨j,z0D,rfl⟩);cases hq:q L[j]with
  | false=>rfl
  | true=>rw[hq]at h;rw[show(t6 L[j] s).2=true by simpa using h];rfl
 ·rw[a1L];exact all_false (d:=default) hi z2S
def c7d{s:c6}{q:c8->Bool}(ha:a1L s q L=true):L.take (c3Z s q L)=L:=by
 refine q1A ?_;rw[c3Z];refine Nat.le_of_eq (List.findIdx_eq_length.2 fun x hx=>?_).symm;rw[a1L,q0I]at ha;have h:=ha x hx;cases hq:q x with
 | false=>rfl
 | true=>rw[hq]at h;rw[show(t6 x s).2=true by simpa using h];rfl
def fw_kind{p:c4}(hg:y3 p=true):a0P p fwB=0:=by
 have hd:=(a2R z1M).2.1;rw[a0P,(a6M (p:=p) (name:=fwB) ?_).1]
 ·rfl
 ·rw[q2J];intro x hx e;obtain⟨i,hi,rfl⟩:=q1I hx;have h:=hd i hi;rw[z5,k8 default hi]at h;simp only[q0Y]at h;rw[e]at h;exact absurd h.1.2 z0E
def e1B{p:c4}(hg:y3 p=true){i:Nat}(hi:i<p.Rules.length):w5 1 fwB (p.Rules.getD i default)=a0T (p.Rules.getD i default):=by
 have h:a0d p (p.Rules.getD i default)=0:=by
  have h:=(a2R z1M).2.2 i hi;rw[a0w,q0T,beq_iff_eq]at h;exact h
 have hk0:=fw_kind hg;generalize p.Rules.getD i default=r at h ⊢;rw[w5,a0T];cases hn:r.Head.Name==fwB with
 | false=>rw[q2B]
 | true=>
   rw[q1G];refine Classical.byContradiction fun hne=>?_
   have hk:a0P p r.Head.Name=0:=by rw[show r.Head.Name=fwB by simpa using hn,hk0]
   have hb:a3y p r=true:=by rw[a3y,show(r.Kind==1)=false by simpa using hne,V2,hk];rfl
   unfold a0d at h;rw[hb]at h;cases h1:(y7 r).any (a4D p)<;>rw[h1]at h<;>cases h2:(y7 r).any (a4e p)<;>rw[h2]at h<;>simp at h
def c4t(n:Int):spZ 33 [(false,[.i .i64 n])] [] (.one (false,[.b (decide (1<=n)&&decide (n<=255))])):=by
 refine sy' Tryz.func33 (q' 2 [aU false] (q' 3 [am 0,aC .geq 3 1,am 4,aH 5 true [bm 0,bC .leq 6 255],aP 5 7,aV 2] .ret)) [.t 2] [] ?_;intro hb hE;simp only[go_sem];repeat' first|apply cj'|intro hc|exact om'|fail
 all_goals(first|rfl)
noncomputable def a3q:CT:=l4 (fun(x:Int)=>c4t x)
@[go_sem] def d7F:=fun n=>nm' (fQ' a3q rfl n)
def b1P(a:Int)(b:Int)(c:Int)(d:Int):spZ 37 [(false,[.i .i64 a]),(false,[.i .i64 b]),(false,[.i .i64 c]),(false,[.i .i64 d])] [] (.one (true,[.s ((a8r a b c d).Name),l9 (((a8r a b c d).Row).V)])):=by
 refine sx' false true none Tryz.func37 (q' 8 [aw [.s,.sl l7]] (q' 9 [am 0,ao (.bld [.i .i64,.s] [(0,1,.t 9)]),am 1,ao (.bld [.i .i64,.s] [(0,1,.t 11)]),am 2,ao (.bld [.i .i64, .s] [(0,1,.t 13)]),am 3,ao (.bld [.i .i64,.s] [(0,1,.t 15)]),ao (.bsl 2 4 [.i .i64,.s] [(0,.t 10),(1,.t 12),(2,.t 14),(3,.t 16)]),ao (.bld [.sl l7] [(0,1,.t 17)]),ao (.bld [.s,.sl l7] [(0,1,.k (.v false [.c (.s [112,97,99,107,101,116])])),(1,1,.t 18)]),aS 2 8 19] .ret)) [.c 8 true 2] [] ?_;intro hb hE;simp only[go_sem];repeat' first|apply cj'|intro hc|exact om'|fail
 ·exact⟨rfl,rfl⟩
noncomputable def a4L:CT:=l4 (fun(x:Int×Int×Int×Int)=>b1P x.1 x.2.1 x.2.2.1 x.2.2.2)
@[go_sem] def c8G:=fun a b c d=>nm' (fQ' a4L rfl (a,b,c,d))
@[go_sem] def with_one(x0:List c9)(n:List UInt8)(a:Int)(v:List d8):a3r [(true,[j7 x0]),(false,[.s n]),(true,[.i .i64 a,.sl false k7 [[l9 v]]])]=some ((SS sLt (x0.map c9.Name)/\x0.length<=1000),[],.one (true,[j7 (a1D x0 n ⟨n,⟨a,[⟨v⟩]⟩⟩)])):=b5f x0 n a [⟨v⟩]
def d0G(s:c6)(e:i5)(hpre:SS sLt (s.Rels.map c9.Name)/\s.Rels.length<=1000):spZ 105 [(true,[j7 s.Rels]),(true,[.s e.Name,l9 e.Row.V])] [] (.one (true,[j7 ((z7 s e).Rels)])):=by
 refine sx' false true none Tryz.func105 (q' 2 [aX 1 0,aX 2 1,aw [.sl o0]] (q' 5 [ae 1 2,aG 0 3,af 1 3,aG 0 8,aN,af 1 3,aE 1,ao (.bsl 1 1 [.sl l7] [(0,.t 13)]),ao (.bld [.i .i64,.sl k7] [(0,1,.t 11),(1,1,.t 14)]),ac 102 [5,7,15],aS 1 4 16] .ret)) [.c 4 true 1] [(102,[],a3r)] ?_;intro hb hE;simp only[go_sem];repeat' first|apply cj'|intro hc|exact om'|fail
 ·exact hpre
 ·rfl
noncomputable def a5t:CT:=n9 (fun(x:c6×i5) h=>d0G x.1 x.2 h)
@[go_sem] def e1g:=fun x0 x1 x2=>nm' (fP' a5t rfl (⟨x0⟩,⟨x1,⟨x2⟩⟩))
def c0S:OkC Tryz.prog 105 a5t:=a4p _
def c2t(l:List Int)(hpre:l.length<=1000):spZ 57 [(false,[a4h l])] [] (.one (true,[l9 ((⟨l.map fun n=>⟨n,[]⟩⟩:c7).V)])):=by
 refine sx' false true none Tryz.func57 (q' 2 [aw [.sl l7]] (q' 3 [ax (o' 6 (.bld [.sl l7] [])),aw [.sl l7],aS 1 3 6] (.seq (q' 7 [am 0,aN,aK 0] (fO 0 10 [ar 9 8] 10 1 (q' 11 [ai 1 7 9,aL,aV 5] (g' 13 [aG 0 3,am 5,ao (.bld [.i .i64,.s] [(0,1,.t 15)]),ao (.bsl 2 1 [.i .i64,.s] [(0,.t 16)]),ao (.app 2 24 [.i .i64,.s] (.t 14) (.t 17)),af 0 3,aS 1 19 18])) (g' 20 [aA 9]))) (q' 21 [ae 1 3,aS 1 2 21] .ret)))) [.c 2 true 1] [] ?_;intro hb hE;simp only[go_sem];repeat' first|apply cj'|intro hc|exact om'|fail
 refine lk' false [(true,6,0,200012)] [2,3,7,8] [4] [] (fun i:{i:Nat // i<=l.length}=>[(9,slV (.i .i64 i.1))]) (fun i=>[(6,[.ow 200012])]) (fun i=>[(200012,l7,((l.take i.1).map fun n=>(⟨n,[]⟩:d8)).map d8.cells)]) (fun i=>l.length-i.1) (⟨0,z0E⟩) ?_;intro S0 hS0 i;obtain⟨i,hi⟩:=i;have hol:(l.take i).length=i:=by rw[V1];omega
 simp only[go_sem,hS0];repeat' first|apply cj'|intro hc|exact om'|fail
 ·(refine lpK_n2 (⟨i+1,z0D⟩) _ z0H ?_;simp only[go_sem,hS0]<;>repeat' first|apply W6|exact on'|fail)
  all_goals(rw[j6 0 z0D];simp only[q1B,q0D,q1D])
 ·rw[j5 z0D]
noncomputable def a4S:CT:=n9 (fun(x:(List Int)) h=>c2t x h)
@[go_sem] def b3j:=fun l=>nm' (fP' a4S rfl l)
@[go_sem] def e3i(a b c d:Int):a4S [(false,[.sl false [.i .i64 0] [[.i .i64 a],[.i .i64 b],[.i .i64 c],[.i .i64 d]]])]=some ([a,b,c,d].length<=1000,[],.one (true,[l9 (d6x a b c d).V])):=b3j [a,b,c,d]
def b5X(a:Int)(b:Int)(c:Int)(d:Int):spZ 27 [(false,[.i .i64 a]),(false,[.i .i64 b]),(false,[.i .i64 c]),(false,[.i .i64 d])] [] (.one (true,[.s ((a8r a b c d).Name),l9 (((a8r a b c d).Row).V)])):=by
 refine sx' false true none Tryz.func27 (q' 8 [aw [.s,.sl l7]] (q' 9 [aM [0,1,2,3],ao (.bsl 1 4 [.i .i64] [(0,.t 9),(1,.t 10),(2,.t 11),(3,.t 12)]),ac 57 [13],ao (.bld [.s,.sl l7] [(0,1,.k (.v false [.c (.s [112,97,99,107,101,116])])),(1,1,.t 14)]),aS 2 8 15] .ret)) [.c 8 true 2] [(57,[],a4S)] ?_;intro hb hE;simp only[go_sem];repeat' first|apply cj'|intro hc|exact om'|fail
 ·exact⟨rfl,rfl⟩
noncomputable def a3e:CT:=l4 (fun(x:Int×Int×Int×Int)=>b5X x.1 x.2.1 x.2.2.1 x.2.2.2)
@[go_sem] def d1Z:=fun a b c d=>nm' (fQ' a3e rfl (a,b,c,d))
def c2N{p:c4}{s:c6}(hg:y3 p=true)(hs:j9 s=true){j:Nat}(hj:j<p.Rules.length)(hf:a0T (p.Rules.getD j default)=true):∀x∈(t6 (p.Rules.getD j default) s).1.Rows,okL x.V/\x.V.length=1:=by
 have hr:=(a0B (a0c (u9 hg))).1 _ (u4 (l:=p.Rules) default hj);intro x hx;refine⟨((a1N hr hs).2 x hx).1, ?_⟩;have hm:x∈a3M (p.Rules.getD j default) s:=by
  rw[t6]at hx;cases hb:(u1 (p.Rules.getD j default) s).2 with
  | false=>rw[hb]at hx;cases hx
  | true=>rw[hb,W8]at hx;exact(a3l _ _).2 x hx
 have h:=(b1V hg hs hj x hm).2;rw[show(p.Rules.getD j default).Head.Name=fwB by simpa[a0T]using hf]at h;have e:z9 p fwB=1:=rfl;omega
def c7y{s:c6}(hs:j9 s=true){q:c8->Bool}{x:c7}:∀{L:List c8},(∀r∈L,l8 r=true)->x∈p9 s q L->okL x.V/\x.V.length<1000:=by
 intro L h hx;obtain⟨r,hr,hx⟩:=q2K.1 hx;cases hq:q r with
 | false=>rw[hq]at hx;cases hx
 | true=>rw[hq]at hx;exact(a1N (h r hr) hs).2 x hx
def selT_no{k:Int}{n:List UInt8}{r:c8}(h:(r.Kind != k)=true\/(r.Head.Name==n)=false):w5 k n r=false:=by
 rw[w5];rcases h with h|h
 ·rw[show(r.Kind==k)=false by simpa[bne]using h];rfl
 ·rw[h,q2B]
def d1m{k:Int}{n:List UInt8}{r:c8}(h:(r.Kind != k)=false/\(r.Head.Name==n)=true):w5 k n r=true:=by
 rw[w5,h.2,show(r.Kind==k)=true by simpa[bne]using h.1];rfl
def e2p(l a b:List c7):l5 o5 l (a++b)=l5 o5 (l5 o5 l a) b:=by rw[l5,l5,l5,q2V]
def c2C(p:c4)(s:c6)(k:Int)(n:List UInt8)(a:Int)(hpre:y3 p=true/\j9 s=true):spZ 85 [(true,[p6 p.Decls,o9 p.Rules]),(true,[j7 s.Rels]),(false,[.i .i64 k]),(false,[.s n]),(false,[.i .i64 a])] [] (.tup [(true,[.i .i64 (((a1k p s k n a).1).Arity),u7 (((a1k p s k n a).1).Rows)]),(false,[.b ((a1k p s k n a).2)])]):=by
 refine sx' false true none Tryz.func85 (q' 5 [aX 2 0,aX 1 1,ax (w' 10 [.i .i64,.sl k7]),ab 11 false] (q' 17 [am 4,ao (.bld [.i .i64,.sl k7] [(0,1,.t 17)]),ax (w' 12 [.i .i64,.sl k7]),aS 2 12 18] (.seq (q' 19 [aG 1 5,aN,aK 0] (fO 0 23 [ar 22 21] 23 1 (q' 24 [am 22,aV 13] (.seq (q' 25 [aG 1 5,am 13,aI 4,aG 0 28,am 2,aD .neq 30 31,am 32,aH 33 false [bf 1 5,bL,bm 13,bI 4,bF 1,bF 0,bL,bm 3,bD .neq 40 41],aQ 33 42] (ci 43 (.exit 1))) (.seq (rm' [(true,0,f' 45 1 5),(true,1,l' 46 45),(true,2,m' 47 13),(true,3,i' 48 4 46 47),(true,4,e' 49 4 48),(true,5,e' 50 1 6),(false,6,c' 51 91 [49,50]),(false,7,m' 44 51),(false,8,o' 52 (.ext (.t 44) 0)),(false,9,o' 53 (.ext (.t 44) 1)),(false,10,w' 14 [.i .i64,.sl k7]),(false,11,s' 2 14 52),(false,12,m' 15 53)] [[0,1,2,3,4,5,6,7,8,10,9,11,12],[0,1,2,3,4,5, 6,7,8,10,11,9,12],[0,1,2,3,4,5,6,7,9,8,10,11,12],[0,1,2,3,4,5,6,7,9,10,8,11,12],[0,1,2,3,4,5,6,7,10,8,9,11,12], [0,1,2,3,4,5,6,7,10,8,11,9,12],[0,1,2,3,4,5,6,7,10,9,8,11,12],[0,1,2,3,4,5,6,10,7,8,9,11,12],[0,1,2,3,4,5,6,10, 7,8,11,9,12],[0,1,2,3,4,5,6,10,7,9,8,11,12],[0,1,2,3,4,5,10,6,7,8,9,11,12],[0,1,2,3,4,5,10,6,7,8,11,9,12],[0,1, 2,3,4,5,10,6,7,9,8,11,12]] [10,11,12,13]) (.seq (q' 54 [am 15,aO 54,am 55,aH 56 false [bf 1 14,bL,bN,bC .gtr 59 300],aQ 56 60] (ci 61 (q' 62 [ae 2 12,aS 2 10 62,ab 11 false] .ret))) (q' 63 [aG 1 14,aN,aK 0] (fO 2 67 [ar 66 65] 67 3 (q' 68 [am 66,aV 16] (.rego [(true,2,f' 71 1 14),(true,3,l' 72 71),(true,4,m' 73 16),(true,5,i' 74 1 72 73),(true,6,e' 75 1 74),(false,0,f' 69 1 12),(false,1,l' 70 69),(false,7,c' 76 92 [70,75]), (false,8,f' 77 1 12),(false,9,s' 1 77 76)] [28,29])) (g' 78 [aA 66]))))))) (g' 79 [aA 22]))) (q' 80 [ae 2 12,aS 2 10 80,ab 11 true] .ret)))) [.c 10 true 2,.t 11] [(91,[],a3Y),(92,[],a3u)] ?_;intro hb hE;obtain⟨hg,hs⟩:=hpre;have hP:=a0B (a0c (u9 hg));simp only[go_sem];(repeat' first|apply cj'|intro hc|apply a0o);(all_goals(try(refine(show A3H _ _ _ _ _ _ from ?_);simp only[go_sem]at hc ⊢;simp only[go_sem,K0]at hc ⊢;simp only[hc,K5];done)));all_goals try exact om'
 refine c6Z false [(true,24,1,200048)] ?_;refine a2B 200048 ?_;refine lq' false [2,3,5,6,10,12,21] [10,12,11,13,29] [] (fun i:{i:Nat // i<=p.Rules.length/\a1L s (w5 k n) (p.Rules.take i)=true}=>[(22,slV (.i .i64 i.1))]) (fun i=>[(24,[.c (.i .i64 a),.c (u7 (l5 o5 [] (p9 s (w5 k n) (p.Rules.take i.1))))]),(20,[.c (.i .i64 0),.nl k7])]) nl' (fun i=>p.Rules.length-i.1) (⟨0,by simp[a1L]⟩) ?_;intro S0 hS0 i;obtain⟨j,hj,hb2⟩:=i;have hR:=fun(h:j<p.Rules.length)=>hP.1 _ (u4 (l:=p.Rules) default h)
 have hsn:=fun(h:j<p.Rules.length)=>a5C s (w5 k n) h
 have hFL:=a1M hs (w5 k n) (L:=p.Rules.take j) fun r hr=>hP.1 r (q1L hr)
 rw[V1]at hFL;have hpl:=a0u o5 (p9 s (w5 k n) (p.Rules.take j)) [];rw[q1R]at hpl;have hpo:=fun(x:c7)=>c7y hs (q:=w5 k n) (x:=x) (L:=p.Rules.take j) fun r hr=>hP.1 r (q1L hr)
 have hpm:∀x∈l5 o5 [] (p9 s (w5 k n) (p.Rules.take j)),okL x.V/\x.V.length<1000:=fun x hx=>(o7.1 hx).elim (fun h=>by cases h) (hpo x)
 simp only[go_sem,hS0];(repeat' first|apply cj'|intro hc|apply a0o);(all_goals(try((first|refine c5p (l6 0 9 (W9 rfl) rfl ?_ (l6 0 10 (W9 rfl) rfl ?_ (l6 2 8 (W9 rfl) rfl ?_ (l6 0 9 (W9 rfl) rfl ?_ (l6 3 8 (W9 rfl) rfl ?_ (l6 0 10 (W9 rfl) rfl ?_ (l6 1 9 (W9 rfl) rfl ?_ (l6 2 7 (W9 rfl) rfl ?_ (l6 0 10 (W9 rfl) rfl ?_ (l6 1 9 (W9 rfl) rfl ?_ (l6 2 6 (W9 rfl) rfl ?_ (l6 0 10 (W9 rfl) rfl ?_ (l6 1 9 (W9 rfl) rfl ?_ b4p))))))))))))))<;>(intro S hS B0 hB;simp only[go_sem,hS0,K4]at hS hB;(repeat(first|replace hS:=And.right hS|replace hS:=CJ.r hS));have Rr49:=congrArg (fun s:St=>s.sl 49) hS;have Rr50:=congrArg (fun s:St=>s.sl 50) hS;have Rr51:=congrArg (fun s:St=>s.sl 51) hS;have Rr44:=congrArg (fun s:St=>s.sl 44) hS;have Rr52:=congrArg (fun s:St=>s.sl 52) hS;have Rr53:=congrArg (fun s:St=>s.sl 53) hS;have Rr14:=congrArg (fun s:St=>s.sl 14) hS;have Rr15:=congrArg (fun s:St=>s.sl 15) hS;have Rb10:=congrArg (fun s:St=>s.bx 10) hS;have Rb11:=congrArg (fun s:St=>s.bx 11) hS;have Rb12:=congrArg (fun s:St=>s.bx 12) hS;have Rb13:=congrArg (fun s:St=>s.bx 13) hS;have Rb28:=congrArg (fun s:St=>s.bx 28) hS;clear hS;simp only[go_sem,hS0]at Rr49 Rr50 Rr51 Rr44 Rr52 Rr53 Rr14 Rr15 Rb10 Rb11 Rb12 Rb13 Rb28;(try clear hc);intro K hc;simp only[go_sem,hS0,Rr49,Rr50,Rr51,Rr44,Rr52,Rr53,Rr14,Rr15,Rb10,Rb11,Rb12,Rb13,Rb28,hB,K4]at hc ⊢;simp only[go_sem,hS0,Rr49,Rr50,Rr51,Rr44,Rr52,Rr53,Rr14,Rr15,Rb10,Rb11,Rb12,Rb13,Rb28,hB,K0]at hc ⊢;simp only[hc,K5];done))));all_goals try exact om'
 ·have hq:w5 k n (p.Rules.getD j default)=false:=selT_no hc
  (refine lpK_n2 (⟨j+1,z0D,y9 (p:=fun r:c8=>!w5 k n r||(t6 r s).2) default z0D hb2 (by rw[hq];rfl)⟩) _ rfl ?_;simp only[go_sem,hS0]<;>repeat' first|apply W6|exact on'|fail)
  all_goals(rw[hsn z0D,hq,V2,q0A])
 ·exact⟨hR z0D,hs⟩
 ·rename_i h3;have hq:=d1m h3;have hf:(t6 (p.Rules.getD j default) s).2=false:=by
   rw[(a4v _ s).1];rcases hc with h|h
   ·rw[h];rfl
   ·rw[V3 h];simp
  obtain⟨e1,e2⟩:=c7c z0D hb2 hq hf;rw[a1k,e1,e2];exact⟨⟨rfl,rfl⟩,rfl⟩
 ·rename_i h3;have hq:=d1m h3;obtain⟨hb,hl3⟩:=hc;have hjl:j<p.Rules.length:=by omega
  have hf:(t6 (p.Rules.getD j default) s).2=true:=by rw[(a4v _ s).1,hb,V5 hl3];rfl
  have hrow:=(a4v (p.Rules.getD j default) s).2 hf;have hHL:=b6J (hR hjl) hs;have hsn2:=hsn hjl;rw[hq,W8,hrow]at hsn2;generalize hrr:p.Rules.getD j default=r at hf hrow hHL hsn2 hq hl3 ⊢;refine lq' false [2,3,5,6,10,12,14,21,22,65] [10,12,20,28,11,13,29] [] (fun i:{k:Nat // k<=(a1e r s).Rows.length}=>[(66,slV (.i .i64 i.1))]) (fun i=>[(24,[.c (.i .i64 a),.c (u7 (l5 o5 (l5 o5 [] (p9 s (w5 k n) (p.Rules.take j))) ((a1e r s).Rows.take i.1)))])]) nl' (fun i=>(a1e r s).Rows.length-i.1) (⟨0,z0E⟩) ?_;intro S1 hS1 i;obtain⟨m,hm⟩:=i;have hp2:=a0u o5 ((a1e r s).Rows.take m) (l5 o5 [] (p9 s (w5 k n) (p.Rules.take j)));rw[V1]at hp2;have hgk:=fun(h:m<(a1e r s).Rows.length)=>hHL _ (u4 (l:=(a1e r s).Rows) default h)
  simp only[go_sem,hS0,hS1];(repeat' first|apply cj'|intro hc|apply a0o);(all_goals(try((first|refine c5p (l6 0 9 (W9 rfl) rfl ?_ (l6 0 10 (W9 rfl) rfl ?_ (l6 2 8 (W9 rfl) rfl ?_ (l6 0 9 (W9 rfl) rfl ?_ (l6 3 8 (W9 rfl) rfl ?_ (l6 0 10 (W9 rfl) rfl ?_ (l6 1 9 (W9 rfl) rfl ?_ (l6 2 7 (W9 rfl) rfl ?_ (l6 0 10 (W9 rfl) rfl ?_ (l6 1 9 (W9 rfl) rfl ?_ (l6 2 6 (W9 rfl) rfl ?_ (l6 0 10 (W9 rfl) rfl ?_ (l6 1 9 (W9 rfl) rfl ?_ b4p))))))))))))))<;>(intro S hS B0 hB;simp only[go_sem,hS0,hS1,K4]at hS hB;(repeat(first|replace hS:=And.right hS|replace hS:=CJ.r hS));have Rr49:=congrArg (fun s:St=>s.sl 49) hS;have Rr50:=congrArg (fun s:St=>s.sl 50) hS;have Rr51:=congrArg (fun s:St=>s.sl 51) hS;have Rr44:=congrArg (fun s:St=>s.sl 44) hS;have Rr52:=congrArg (fun s:St=>s.sl 52) hS;have Rr53:=congrArg (fun s:St=>s.sl 53) hS;have Rr14:=congrArg (fun s:St=>s.sl 14) hS;have Rr15:=congrArg (fun s:St=>s.sl 15) hS;have Rb10:=congrArg (fun s:St=>s.bx 10) hS;have Rb11:=congrArg (fun s:St=>s.bx 11) hS;have Rb12:=congrArg (fun s:St=>s.bx 12) hS;have Rb13:=congrArg (fun s:St=>s.bx 13) hS;have Rb28:=congrArg (fun s:St=>s.bx 28) hS;clear hS;simp only[go_sem,hS0,hS1]at Rr49 Rr50 Rr51 Rr44 Rr52 Rr53 Rr14 Rr15 Rb10 Rb11 Rb12 Rb13 Rb28;(try clear hc);intro K hc;simp only[go_sem,hS0,hS1,Rr49,Rr50,Rr51,Rr44,Rr52,Rr53,Rr14,Rr15,Rb10,Rb11,Rb12,Rb13,Rb28,hB,K4]at hc ⊢;simp only[go_sem,hS0,hS1,Rr49,Rr50,Rr51,Rr44,Rr52,Rr53,Rr14,Rr15,Rb10,Rb11,Rb12,Rb13,Rb28,hB,K0]at hc ⊢;simp only[hc,K5];done))));all_goals try exact om'
  ·exact⟨⟨⟨z0D,(hgk z0D).1⟩,(hgk z0D).2⟩,fun x hx=>((o7.1 hx).elim (hpm x) (fun h=>hHL x (q1L h))).1⟩
  ·(refine lpK_n2 (⟨m+1,z0D⟩) _ rfl ?_;simp only[go_sem,hS0,hS1]<;>repeat' first|apply W6|exact on'|fail)
   all_goals rw[c2P _ z0D]
  ·(refine lpK_n2 (⟨j+1,z0D,y9 (p:=fun r:c8=>!w5 k n r||(t6 r s).2) default z0D hb2 (by rw[hrr,hq,hf];rfl)⟩) _ rfl ?_;simp only[go_sem,hS0,hS1]<;>repeat' first|apply W6|exact on'|fail)
   all_goals(rw[hsn2,j5 (l:=(a1e r s).Rows) (i:=m) z0D,e2p])
 ·rw[j5 z0D]at hb2 ⊢;rw[a1k,c7d hb2,hb2];exact⟨⟨rfl,rfl⟩,rfl⟩
noncomputable def a4X:CT:=n9 (fun(x:c4×c6×Int×(List UInt8)×Int) h=>c2C x.1 x.2.1 x.2.2.1 x.2.2.2.1 x.2.2.2.2 h)
@[go_sem] def d5O:=fun x0 x1 x2 k n a=>nm' (fP' a4X rfl (⟨x0,x1⟩,⟨x2⟩,k,n,a))
def row_one{x:c7}(h:x.V.length=1):x.V=[x.V.getD 0 default]:=by
 obtain⟨v⟩:=x
 match v,h with
 | [a],_=>rfl
def e2u{a b:c7}(h:a.V=b.V):a=b:=by cases a;cases b;simp_all
def d0m{x:c7}(h:x.V.length=1)(hp:b5t x=true):x=⟨[⟨(x.V.getD 0 default).N,[]⟩]⟩:=by
 have h1:=row_one h;rw[b5t,W3]at hp;have h2:(x.V.getD 0 default).S=[]:=by simpa using hp.1
 refine e2u ?_;rw[h1];generalize x.V.getD 0 default=v at h2 ⊢;obtain⟨a,b⟩:=v;simp only at h2;subst h2;rfl
def d9k(a b:Int):o5 ⟨[⟨a,[]⟩]⟩ ⟨[⟨b,[]⟩]⟩=iLt a b:=by
 simp only[o5,a4s,vLt,Op.bytesLess,q3K,q0P,q3S,q2B,q5D]
def d6z:∀{l:List c7},(∀x∈l,x.V.length=1)->SS o5 l->SS iLt (a2W l)
 | [],_,_=>SS.nil
 | x::l,h1,hs=>by
   have ih:=d6z (fun y hy=>h1 y (q1W _ hy)) (q3J.1 hs).2;have e:a2W (x::l)=(bif b5t x then[(x.V.getD 0 default).N]else[])++a2W l:=by rw[<-d1d,<-c2O];rfl
   rw[e];cases hx:b5t x with
   | false=>exact ih
   | true=>
     refine q3J.2 ⟨fun n hn=>?_,ih⟩;obtain⟨y,hy,rfl⟩:=q0R.1 hn;obtain⟨hy,hyp⟩:=q0N.1 hy;have h2:=(q3J.1 hs).1 y hy;rw[d0m (h1 x q2L) hx,d0m (h1 y (q1W _ hy)) hyp,d9k]at h2;exact h2
def e1D{l:List c7}(h:∀x∈l,x.V.length=1):Lib.compact (a1a iLt (a2W l))=a2W (l5 o5 [] l):=by
 have hm:∀x,x∈l5 o5 [] l↔x∈l:=fun x=>by rw[o7];simp
 refine a2N c7z (d6z (fun x hx=>h x ((hm x).1 hx)) (SS.nil.puts a0R)) fun n=>?_
 rw[a2W,a2W,q0R,q0R];exact⟨fun⟨y,hy,e⟩=>⟨y,q0N.2 ⟨(hm y).1 (q0N.1 hy).1,(q0N.1 hy).2⟩,e⟩,fun⟨y,hy,e⟩=>⟨y,q0N.2 ⟨(hm y).2 (q0N.1 hy).1,(q0N.1 hy).2⟩,e⟩⟩
def b9a{p:c4}(hg:y3 p=true):∀r∈p.Rules,w5 1 fwB r=a0T r:=fun r hr=>by
 obtain⟨i,hi,rfl⟩:=q1I hr;have h:=e1B hg hi
 rwa [k8 default hi]at h
def e1A{p:c4}(hg:y3 p=true)(s:c6):a1L s (w5 1 fwB) p.Rules=a1L s a0T p.Rules:=by
 rw[a1L,a1L,q3L,q0I,q0I];exact⟨fun h r hr=>by rw[<-b9a hg r hr];exact h r hr,fun h r hr=>by rw[b9a hg r hr];exact h r hr⟩
def c1i{p:c4}(s:c6){q q':c8->Bool}:∀{L:List c8},(∀r∈L,q r=q' r)->p9 s q L=p9 s q' L
 | [],_=>rfl
 | r::L,h=>by
   have e:∀q:c8->Bool,p9 s q (r::L)=(bif q r then(t6 r s).1.Rows else[])++p9 s q L:=fun q=>by simp[p9]
   rw[e,e,h r q2L,c1i (p:=p) s fun x hx=>h x (q1W _ hx)]
def fw_ones{p:c4}{s:c6}(hg:y3 p=true)(hs:j9 s=true){n:Nat}:∀x∈p9 s a0T (p.Rules.take n),okL x.V/\x.V.length=1:=by
 intro x hx;obtain⟨r,hr,hx⟩:=q2K.1 hx;obtain⟨i,hi,rfl⟩:=q2R.1 hr;cases hq:a0T p.Rules[i]with
 | false=>rw[hq]at hx;cases hx
 | true=>
   rw[hq,W8]at hx;have h:=c2N hg hs (j:=i) z0D (by rw[k8 default z0D];exact hq);rw[k8 default z0D]at h;exact h x hx
def d0g{p:c4}{s:c6}(hg:y3 p=true)(hs:j9 s=true):∀x∈p9 s a0T p.Rules,okL x.V/\x.V.length=1:=by
 have h:=fw_ones hg hs (n:=p.Rules.length)
 rwa [q6D]at h
def d6b{p:c4}{s:c6}(hg:y3 p=true)(hs:j9 s=true):d0i p s=((a1s p s).1,bif (a1s p s).2 then 0 else 3):=by
 rw[d0i,a1s,e1A hg];cases a1L s a0T p.Rules with
 | false=>rfl
 | true=>
   simp only[W8];rw[c1i (p:=p) s (b9a hg),e1D fun x hx=>(d0g hg hs x hx).2]
def fwOk_at{s:c6}{q:c8->Bool}{j:Nat}(hj:j<L.length)(h1:q (L.getD j default)=true)(h2:(t6 (L.getD j default) s).2=false):a1L s q L=false:=by
 rw[a1L];exact all_false (d:=default) hj z2S
def c6f{l:List c7}{m:Nat}(h:m<l.length):a2W (l.take (m+1))=a2W (l.take m)++bif b5t (l.getD m default)then[((l.getD m default).V.getD 0 default).N]else[]:=by
 rw[j6 default h,c2O,d1d]
def d0n{x:c7}(h:(((x.V.getD 0 default).S==[])=true/\1<=(x.V.getD 0 default).N)/\(x.V.getD 0 default).N<=255):b5t x=true:=by
 rw[b5t,h.1.1,V3 h.1.2,V3 h.2];rfl
def fwdI_no{p:c4}{s:c6}(h:a1L s a0T p.Rules=false):a1s p s=([],false):=by rw[a1s,h];rfl
def e1C{p:c4}{s:c6}(h:a1L s a0T p.Rules=true):a1s p s=(Lib.compact (a1a iLt (a2W (p9 s a0T p.Rules))),true):=by rw[a1s,h];rfl
def b8n(p:c4)(s:c6)(e:i5)(hpre:y3 p=true/\j9 (z7 s e)=true/\SS sLt (s.Rels.map c9.Name)/\s.Rels.length<=1000):spZ 67 [(true,[p6 p.Decls,o9 p.Rules]),(true,[j7 s.Rels]),(true,[.s e.Name,l9 e.Row.V])] [] (.tup [(false,[d6j ((a1s p (z7 s e)).1)]),(false,[.b ((a1s p (z7 s e)).2)])]):=by
 refine sy' Tryz.func67 (q' 3 [aX 2 0,aX 1 1,aX 2 2,ao (.mov (.k (.v false [.nl [.i .i64 0]]))),aU false] (q' 16 [ae 1 4,ae 2 5,ac 105 [16,17],aS 1 4 18] (q' 19 [ao (.bsl 1 0 [.i .i64] []),aV 8] (.seq (q' 20 [aG 1 3,aN,aK 0] (fO 0 24 [ar 23 22] 24 1 (q' 25 [ai 4 21 23,aE 4,ax (w' 10 [.i .i64,.s,.sl k9,.sl a9K]),aS 4 10 26] (.seq (q' 27 [af 1 10,aG 0 27,aY .neq 29 [102,111,114,119,97,114,100]] (ci 30 (.exit 1))) (q' 32 [ae 4 10,ae 1 4,ac 106 [32,33],aV 31,aZ 31 0,aZ 31 1,ax (w' 11 [.i .i64,.sl k7]),aS 2 11 35,aV 12] (.seq (q' 37 [am 12,aO 37] (ci 38 (q' 6 [ao (.mov (.k (.v false [.nl [.i .i64 0]]))),aU false] .ret))) (q' 39 [aG 1 11,aN,aK 0] (fO 2 43 [ar 42 41] 43 3 (q' 44 [ai 1 40 42,aE 1,ax (w' 14 [.sl l7]),aS 1 14 45] (q' 46 [aG 0 14,ao (.ia 2 (.t 47) (k' 0)),aE 2,ax (w' 15 [.i .i64,.s]),aS 2 15 49] (q' 50 [aG 1 15,aY .eql 51 [],am 52,aH 53 true [bf 0 15,bL,bc 33 [55]],aP 53 56] (ci 57 (g' 58 [am 8,aG 0 15,ao (.bsl 1 1 [.i .i64] [(0,.t 60)]),ao (.app 1 8 [.i .i64] (.t 58) (.t 61)),aV 8]))))) (g' 63 [aA 42]))))))) (g' 64 [aA 23]))) (q' 65 [am 8,ac 107 [65]] (q' 67 [am 8,ac 108 [67],aV 6,ab 7 true] .ret)))))) [.t 6,.t 7] [(105,[],a5t),(106,[],a1E),(33,[],a3q),(107,[0],c5G),(108,[0],c9q)] ?_;intro hb hE;obtain⟨hg,hs,hSS,hl⟩:=hpre;have hP:=a0B (a0c (u9 hg));simp only[go_sem];repeat' first|apply cj'|intro hc|exact om'|fail
 generalize z7 s e=w at*;refine lk' false [(false,8,0,100016)] [4,21,22] [8] [] (fun i:{i:Nat // i<=p.Rules.length/\a1L w a0T (p.Rules.take i)=true}=>[(8,.v false [.ow 100016]),(23,slV (.i .i64 i.1))]) nl' (fun i=>[(100016,[.i .i64 0],(a2W (p9 w a0T (p.Rules.take i.1))).map a0F)]) (fun i=>p.Rules.length-i.1) (⟨0,by simp[a1L]⟩) ?_;intro S0 hS0 i;obtain⟨j,hj,hb2⟩:=i;have hR:=fun(h:j<p.Rules.length)=>hP.1 _ (u4 (l:=p.Rules) default h)
 have hsn:=fun(h:j<p.Rules.length)=>a5C w a0T h
 have hFL:=a1M hs a0T (L:=p.Rules.take j) fun r hr=>hP.1 r (q1L hr)
 rw[V1]at hFL;have hPL:=b3X (p9 w a0T (p.Rules.take j));simp only[go_sem,hS0];repeat' first|apply cj'|intro hc|exact om'|fail
 ·have hq:a0T (p.Rules.getD j default)=false:=hc
  (refine lpK_n2 (⟨j+1,z0D,y9 (p:=fun r:c8=>!a0T r||(t6 r w).2) default z0D hb2 (by rw[hq];rfl)⟩) _ z0H ?_;simp only[go_sem,hS0]<;>repeat' first|apply W6|exact on'|fail)
  all_goals(rw[hsn z0D,hq,V2,q0A])
 ·exact⟨hR z0D,hs⟩
 ·rename_i h3;have hq:a0T (p.Rules.getD j default)=true:=h3;rw[fwdI_no (fwOk_at z0D hq hc)];exact⟨rfl,rfl⟩
 ·rename_i h3;have hjl:j<p.Rules.length:=by omega
  have hq:a0T (p.Rules.getD j default)=true:=h3;have hone:=c2N hg hs hjl hq;have hlen:=(a1N (hR hjl) hs).1;have hsn2:=hsn hjl;rw[hq,W8]at hsn2;generalize hrr:p.Rules.getD j default=r at hone hlen hsn2 hq hc ⊢;refine lk' false [(false,8,0,100016)] [4,21,22,23,40,41] [8] [] (fun i:{k:Nat // k<=(t6 r w).1.Rows.length}=>[(8,.v false [.ow 100016]),(42,slV (.i .i64 i.1))]) nl' (fun i=>[(100016,[.i .i64 0],(a2W (p9 w a0T (p.Rules.take j))++a2W ((t6 r w).1.Rows.take i.1)).map a0F)]) (fun i=>(t6 r w).1.Rows.length-i.1) (⟨0,z0E⟩) ?_;intro S1 hS1 i;obtain⟨m,hm⟩:=i;have hon:=fun(h:m<(t6 r w).1.Rows.length)=>(hone _ (u4 (l:=(t6 r w).1.Rows) default h)).2
  have hpl:=b3X ((t6 r w).1.Rows.take m);rw[V1]at hpl;have hps:=fun(h:m<(t6 r w).1.Rows.length)=>c6f h
  simp only[go_sem,hS0,hS1];repeat' first|apply cj'|intro hc|exact om'|fail
  ·(refine lpK_n2 (⟨m+1,z0D⟩) _ z14 ?_;simp only[go_sem,hS0,hS1]<;>repeat' first|apply W6|exact on'|fail)
   all_goals(rw[hps z0D,d0n hc,W8,q0X])
  ·have hn:b5t ((t6 r w).1.Rows.getD m default)=false:=hc
   (refine lpK_n2 (⟨m+1,z0D⟩) _ z14 ?_;simp only[go_sem,hS0,hS1]<;>repeat' first|apply W6|exact on'|fail)
   all_goals(rw[hps z0D,hn,V2,q0A])
  ·rename_i hok
   (refine lpK_n2 (⟨j+1,z0D,y9 (p:=fun r:c8=>!a0T r||(t6 r w).2) default z0D hb2 (by rw[hrr,hq,hok];rfl)⟩) _ z14 ?_;simp only[go_sem,hS0,hS1]<;>repeat' first|apply W6|exact on'|fail)
   all_goals(rw[hsn2,j5 (l:=(t6 r w).1.Rows) (i:=m) z0D,c2O])
 ·rw[j5 z0D]at hb2 ⊢;rw[e1C hb2];exact⟨rfl,rfl⟩
noncomputable def a7G:CT:=n9 (fun(x:c4×c6×i5) h=>b8n x.1 x.2.1 x.2.2 h)
@[go_sem] def d3c:=fun x0 x1 x2 x3 x4=>nm' (fP' a7G rfl (⟨x0,x1⟩,⟨x2⟩,⟨x3,⟨x4⟩⟩))
def cpS(l:List c9):Prop:=l.length<=1000/\∀x∈l,x.Rel.Rows.length<=100000/\∀y∈x.Rel.Rows,y.V.length<1000
@[go_sem] def set_one(x0:List c9)(n:List UInt8)(a:Int)(v:List d8):a1r [(true,[j7 x0]),(false,[.s n]),(true,[.i .i64 a,.sl false k7 [[l9 v]]])]=some ((cpS x0/\([⟨v⟩]:List c7).length<=100000/\∀y∈([⟨v⟩]:List c7),y.V.length<1000),[],.one (true,[j7 (a1D x0 n ⟨n,⟨a,[⟨v⟩]⟩⟩)])):=b1G x0 n a [⟨v⟩]
def b3P(p:c4)(s:c6)(e:i5)(hpre:y3 p=true/\j9 (z7 s e)=true/\cpS s.Rels/\e.Row.V.length=4):spZ 50 [(true,[p6 p.Decls,o9 p.Rules]),(true,[j7 s.Rels]),(true,[.s e.Name,l9 e.Row.V])] [] (.tup [(false,[a4h ((d0i p (z7 s e)).1)]),(false,[.i .i64 ((d0i p (z7 s e)).2)])]):=by
 refine sx' false true none Tryz.func50 (q' 3 [aX 2 0,aX 1 1,aX 2 2,ao (.mov (.k (.v false [.nl [.i .i64 0]]))),aK 0] (q' 13 [ae 1 4,aG 0 5,af 1 5,aE 1,ao (.bsl 1 1 [.sl l7] [(0,.t 17)]),ao (.bld [.i .i64,.sl k7] [(0,1,.k (.v false [.c (.i .i64 4)])),(1,1,.t 18)]),ac 84 [13,15,19],aS 1 4 20] (q' 22 [ae 2 3,ae 1 4,ao (.call 85 [.t 22,.t 23,.k (.v false [.c (.i .i64 1)]),.k (.v false [.c (.s [102,111,114,119,97,114,100])]),.k (.v false [.c (.i .i64 1)])]),aV 21,aZ 21 0,aZ 21 1,ax (w' 8 [.i .i64,.sl k7]),aS 2 8 25,aV 9] (.seq (q' 27 [am 9,aO 27] (ci 28 (q' 6 [ao (.mov (.k (.v false [.nl [.i .i64 0]]))),aK 3] .ret))) (q' 29 [ao (.bsl 1 0 [.i .i64] []),aV 10] (.seq (q' 30 [aG 1 8,aN,aK 0] (fO 0 34 [ar 33 32] 34 1 (q' 35 [am 33,aV 11] (q' 36 [aG 1 8,am 11,aI 1,aG 0 39,ao (.ia 2 (.t 41) (k' 0)),aE 2,ax (w' 12 [.i .i64,.s]),aS 2 12 43] (q' 44 [aG 1 12,aY .eql 45 [],am 46,aH 47 true [bf 0 12,bL,bC .geq 49 1],aP 47 50,am 51,aH 52 true [bf 0 12,bL,bC .leq 54 255],aP 52 55] (ci 56 (g' 57 [am 10,aG 0 12,ao (.bsl 1 1 [.i .i64] [(0,.t 59)]),ao (.app 1 8 [.i .i64] (.t 57) (.t 60)),aV 10]))))) (g' 62 [aA 33]))) (q' 63 [am 10,aV 6,az 7 0] .ret))))))) [.t 6,.t 7] [(84,[],a1r),(85,[],a4X)] ?_;intro hb hE;obtain⟨hg,hs,hcp,h4⟩:=hpre;have hw:(⟨a1D s.Rels e.Name ⟨e.Name,⟨4,[⟨e.Row.V⟩]⟩⟩⟩:c6)=z7 s e:=by rw[z7,h4];rfl
 have hP:=a0B (a0c (u9 hg));simp only[go_sem,hw];repeat' first|apply cj'|intro hc|exact om'|fail
 ·exact⟨hcp,fun y hy=>by rw[hy,h4];omega⟩
 ·have hk:a1L (z7 s e) (w5 1 fwB) p.Rules=false:=hc;rw[d0i,hk];exact⟨rfl,rfl⟩
 have hk:a1L (z7 s e) (w5 1 fwB) p.Rules=true:=hc;have hv:d0i p (z7 s e)=(a2W (l5 o5 [] (p9 (z7 s e) (w5 1 fwB) p.Rules)),0):=by rw[d0i,hk];rfl
 have hrw:(a1k p (z7 s e) 1 [102,111,114,119,97,114,100] 1).1.Rows=l5 o5 [] (p9 (z7 s e) (w5 1 fwB) p.Rules):=by
  show l5 o5 [] (p9 (z7 s e) (w5 1 fwB) (p.Rules.take (c3Z (z7 s e) (w5 1 fwB) p.Rules)))=_;rw[c7d hk]
 have hone:∀x∈l5 o5 [] (p9 (z7 s e) (w5 1 fwB) p.Rules),x.V.length=1:=fun x hx=>by
  rw[c1i (p:=p) (z7 s e) (b9a hg)]at hx;exact(d0g hg hs x ((o7.1 hx).resolve_left (by intro h;cases h))).2
 have hlen:=a0u o5 (p9 (z7 s e) (w5 1 fwB) p.Rules) [];have hFL:=a1M hs (w5 1 fwB) hP.1;rw[q1R]at hlen;rw[hv];rw[<-hrw]at hone hlen ⊢;generalize(a1k p (z7 s e) 1 [102,111,114,119,97,114,100] 1).1.Rows=R at*;refine lk' false [(false,10,0,100020)] [8,32] [16] [] (fun i:{i:Nat // i<=R.length}=>[(10,.v false [.ow 100020]),(33,slV (.i .i64 i.1))]) nl' (fun i=>[(100020,[.i .i64 0],(a2W (R.take i.1)).map a0F)]) (fun i=>R.length-i.1) (⟨0,z0E⟩) ?_;intro S0 hS0 i;obtain⟨m,hm⟩:=i;have hon:=fun(h:m<R.length)=>hone _ (u4 (l:=R) default h)
 have hpl:=b3X (R.take m);rw[V1]at hpl;have hps:=fun(h:m<R.length)=>c6f h
 simp only[go_sem,hw,hS0];repeat' first|apply cj'|intro hc|exact om'|fail
 ·(refine lpK_n2 (⟨m+1,z0D⟩) _ (by simp only[go_sem,hw];try rfl) ?_;simp only[go_sem,hw,hS0]<;>repeat' first|apply W6|exact on'|fail)
  all_goals(rw[hps z0D,d0n hc,W8])
 ·have hn:b5t (R.getD m default)=false:=by rw[b5t,<-Bool.and_assoc];exact hc
  (refine lpK_n2 (⟨m+1,z0D⟩) _ (by simp only[go_sem,hw];try rfl) ?_;simp only[go_sem,hw,hS0]<;>repeat' first|apply W6|exact on'|fail)
  all_goals(rw[hps z0D,hn,V2,q0A])
 ·rw[j5 z0D]
noncomputable def a2M:CT:=n9 (fun(x:c4×c6×i5) h=>b3P x.1 x.2.1 x.2.2 h)
@[go_sem] def c9J:=fun x0 x1 x2 x3 x4=>nm' (fP' a2M rfl (⟨x0,x1⟩,⟨x2⟩,⟨x3,⟨x4⟩⟩))
end Go.Aw
namespace Go.Aw
set_option maxHeartbeats 4000000
open Go.Proofs
set_option linter.all false
set_option maxRecDepth 100000
def a1A(p:c4)(s:c6):Prop:=∀x∈s.Rels,∃d∈p.Decls,d.Name=x.Name
def d0W{p:c4}{s:c6}(h:a0x p s=true):a1A p s:=by
 intro x hx;simp only[a0x,W3]at h;obtain⟨i,hi,rfl⟩:=q1I hx;have h2:=h.2;simp only[a1S,K7,q0W]at h2;have h3:=a3C.1 h2.2 i hi;simp only[b3Y,q0Y,q0T,beq_iff_eq]at h3;obtain⟨d,hd,hn,ha⟩:=c5M (a1P p 1) _ (u4 (l:=a0r (a1P p 1)) (i:=i) default z0D);rw[k8 default hi]at h3;exact⟨d,(q0N.1 hd).1,by rw[hn,h3.1]⟩
def d9c{p:c4}{s:c6}(n:Int)(hs:a1A p s):∀L:List f5,(∀l∈L,l.Name∈vwS p)->a1A p ⟨a6V p s n L⟩:=by
 intro L;rw[a6V]
 suffices h:∀(L:List f5) (o:List c9),a1A p ⟨o⟩->(∀l∈L,l.Name∈vwS p)->a1A p ⟨L.foldl (a3O p s n) o⟩from h L _ hs
 intro L
 induction L with
 | nil=>intro o ho _;exact ho
 | cons l L ih=>
   intro o ho hV;rw[q2E];refine ih _ (fun x hx=>?_) fun y hy=>hV y (q1W _ hy)
   simp only[a3O]at hx;cases hc:l.N==n with
   | false=>rw[hc]at hx;exact ho x hx
   | true=>
     rw[hc,W8]at hx;rcases a5h hx with rfl|hx
     ·obtain⟨d,hd,_,e⟩:=c8o.1 (hV l q2L);exact⟨d,hd,e⟩
     ·exact ho x hx
def a9W(p:c4):a1A p default:=fun x hx=>by cases hx
def d0V{p:c4}{L:List f5}{s:c6}{n:Int}(hV:∀l∈L,l.Name∈vwS p)(hs:a1A p s):a1A p (v6 p L s n).1:=by
 rw[v6];cases a8m p s n L&&decide (((a6V p s n L).length:Int)<=24)with
 | false=>exact a9W p
 | true=>exact d9c n hs L hV
def c6c{p:c4}{L:List f5}{n:Int}(hV:∀l∈L,l.Name∈vwS p):∀(k:Nat) {s:c6},a1A p s->a1A p (b5Z p L n k s).1
 | 0,s,hs=>hs
 | k+1,s,hs=>by
   rw[b5Z];have h:=d0V (n:=n) hV hs;cases(v6 p L s n).2 with
   | false=>exact a9W p
   | true=>
     rw[W8];cases decide (a0e s<a0e (v6 p L s n).1)with
     | false=>exact h
     | true=>exact c6c hV k h
def d0X{p:c4}{L:List f5}(hV:∀l∈L,l.Name∈vwS p){s:c6}(hs:a1A p s):∀n:Nat,a1A p (upR p L s n).1
 | 0=>hs
 | n+1=>by
   rw[upR];have h:=d0X hV hs n;cases(upR p L s n).2 with
   | false=>exact a9W p
   | true=>exact c6c hV _ h
def d0U{p:c4}{s:c6}(h:a0x p s=true):a1A p (w6 p s).1:=by
 rw[w6];cases(a6r p s).2 with
 | false=>exact a9W p
 | true=>exact d0X (a9P (a2l h).1).1 (d0W h) _
def d9b{p:c4}{s:c6}(hg:y3 p=true)(hS:SS sLt (s.Rels.map c9.Name))(h:a1A p s):s.Rels.length<=16:=by
 have h1:SS sLt (l5 sLt [] (p.Decls.map f7.Name)):=SS.nil.puts t5;have e:s.Rels.map c9.Name=(l5 sLt [] (p.Decls.map f7.Name)).filter (fun v=>decide (v∈s.Rels.map c9.Name)):=by
  refine SS.uniq t5 hS (List.Pairwise.filter _ h1) fun v=>?_
  rw[q0N,o7,V8];constructor
  ·intro hv;refine⟨.inr ?_,hv⟩;obtain⟨x,hx,rfl⟩:=q0R.1 hv;obtain⟨d,hd,e⟩:=h x hx;exact q0R.2 ⟨d,hd,e⟩
  ·exact fun hv=>hv.2
 have h2:=congrArg List.length e;have h3:=q1F (fun v=>decide (v∈s.Rels.map c9.Name)) (l5 sLt [] (p.Decls.map f7.Name));have h4:=a0u sLt (p.Decls.map f7.Name) [];have h5:=c1m hg;rw[q0C]at h2 h4;rw[q1R]at h4;omega
def a4n(sw inn src dst:Int):Bool:=a0p sw&&a0p src&&a0p dst&&(decide (1<=inn)&&decide (inn<=255))
variable{dst src sw:Int}
def pk_row{inn:Int}(h:a4n sw inn src dst=true):a0t (d6x sw inn src dst)=true:=by
 simp only[a4n,a0p,K7]at h;have e:∀n:Int,0<=n->n<=281474976710655->o8 ⟨n,[]⟩=true:=fun n h1 h2=>by
  show a0p n=true;rw[a0p,V3 h1,V3 h2];rfl
 rw[a0t,W3];refine⟨rfl, ?_⟩;simp only[d6x,q2T,List.all_nil,q1G,W3];exact⟨e _ z0D z0D,e _ z0D z0D,e _ z0D z0D,e _ z0D z0D⟩
def over_ok{s:c6}(hs:j9 s=true)(hl:s.Rels.length<=16){e:i5}(hn:a1m e.Name=true)(hr:a0t e.Row=true)(h4:e.Row.V.length=4):j9 (z7 s e)=true:=by
 have h2:=c6m (a2q hs) e.Name ⟨(e.Row.V.length:Int),[e.Row]⟩;have hw:=b1X hs;refine b1W z0D h2.1 fun x hx=>?_
 rcases a5h hx with rfl|hx
 ·refine⟨hn,c2V z0D z0D z0E (fun x hx=>?_) (List.pairwise_singleton _ _)⟩;obtain rfl:=q0E.1 hx;exact⟨hr,rfl⟩
 ·exact hw x hx
def b3W{p:c4}{s:c6}(h:a0x p s=true){inn:Int}(ha:a4n sw inn src dst=true):j9 (z7 (w6 p s).1 (a8r sw inn src dst))=true:=by
 have hc:=b3n (a2l h).1 (a2l h).2;exact over_ok hc (d9b (a2l h).1 (a2q hc) (d0U h)) (show a1m pkB=true by decide) (pk_row ha) rfl
attribute [local irreducible] aft blk lpK retK AW A0e
attribute [local irreducible] RM
noncomputable def forI(p:c4)(s:c6)(sw inn src dst:Int):List Int×Bool:=a1s p (z7 (w6 p s).1 (a8r sw inn src dst))
noncomputable def b8d(p:c4)(s:c6)(sw inn src dst:Int):List Int×Int:=bif a0x p s&&a4n sw inn src dst then(bif (w6 p s).2==0 then((forI p s sw inn src dst).1,bif (forI p s sw inn src dst).2 then 0 else 3)else([],(w6 p s).2))else([],1)
def d6a{p:c4}{s:c6}{inn:Int}(h:(a0x p s&&a4n sw inn src dst)=false):b8d p s sw inn src dst=([],1):=by rw[b8d,h];rfl
def a9M{p:c4}{s:c6}:((w6 p s).2==0)=(a6r p s).2:=by
 rw[w6];cases(a6r p s).2<;>rfl
def arg_bad{p:c4}{s:c6}{inn:Int}(h:(((a0x p s=false\/a0p sw=false)\/a0p src=false)\/a0p dst=false)\/(decide (1<=inn)&&decide (inn<=255))=false):(a0x p s&&a4n sw inn src dst)=false:=by
 rw[a4n];rcases h with(((h|h)|h)|h)|h<;>rw[h]<;>simp
def b1B{p:c4}{s:c6}{sw inn src dst:Int}(h:((((a0x p s=true/\a0p sw=true)/\a0p src=true)/\a0p dst=true)/\1<=inn)/\inn<=255):a0x p s=true/\a4n sw inn src dst=true:=by
 obtain⟨⟨⟨⟨⟨h1,h2⟩,h3⟩,h4⟩,h5⟩,h6⟩:=h;exact⟨h1,by rw[a4n,h2,h3,h4,V3 h5,V3 h6];rfl⟩
def c7u{p:c4}{s:c6}{inn:Int}(h:a0x p s=true/\a4n sw inn src dst=true):b8d p s sw inn src dst=bif (a6r p s).2 then((forI p s sw inn src dst).1,bif (forI p s sw inn src dst).2 then 0 else 3)else([],(w6 p s).2):=by
 rw[b8d,h.1,h.2,a9M];rfl
def c2n(p:c4)(s:c6)(sw:Int)(inn:Int)(src:Int)(dst:Int):spZ 23 [(true,[p6 p.Decls,o9 p.Rules]),(true,[j7 s.Rels]),(false,[.i .i64 sw]),(false,[.i .i64 inn]),(false,[.i .i64 src]),(false,[.i .i64 dst])] [] (.tup [(false,[a4h ((b8d p s sw inn src dst).1)]),(false,[.i .i64 ((b8d p s sw inn src dst).2)])]):=by
 refine sx' false true none Tryz.func23 (q' 6 [aX 2 0,aX 1 1,ax (o' 12 (.mov (.k (.v false [.nl [.i .i64 0]])))),az 13 0] (.seq (q' 16 [ae 2 6,ae 1 7,ac 48 [16,17],aO 18,am 19,aH 20 false [bm 2,bc 49 [21],bO 22],aQ 20 23,am 24,aH 25 false [bm 4,bc 49 [26],bO 27],aQ 25 28,am 29,aH 30 false [bm 5,bc 49 [31],bO 32],aQ 30 33,am 34,aH 35 false [bm 3,bC .lss 36 1],aQ 35 37,am 38,aH 39 false [bm 3,bC .gtr 40 255],aQ 39 41] (ci 42 (q' 12 [ao (.mov (.k (.v false [.nl [.i .i64 0]]))),aK 1] .ret))) (q' 44 [ae 2 6,ae 1 7,ac 25 [44,45],aV 43,aZ 43 0,aZ 43 1,ax (w' 14 [.sl o0]),aS 1 14 47,aV 15] (.seq (q' 49 [am 15,aO 49] (ci 50 (q' 12 [ao (.mov (.k (.v false [.nl [.i .i64 0]]))),aK 2] .ret))) (.seq (rm' [(true,0,e' 51 2 6),(true,1,e' 52 1 14),(true,2,m' 53 2),(true,3,m' 54 3),(true,4,m' 55 4),(false,5,m' 56 5),(false,6,c' 57 27 [53,54,55,56]),(false,7,c' 58 50 [51,52,57]),(false,8,o' 59 (.ext (.t 58) 0)),(false,9,o' 60 (.ext (.t 58) 1)),(false,10,m' 12 59),(false,11,m' 13 60)] [[0,1,2,3,4,5,6,7,9,8,10,11]] [12,13,28, 29]) .ret))))) [.t 12,.t 13] [(48,[],a9o),(49,[],a6b),(25,[],a6e),(27,[],a3e),(50,[],a2M)] ?_;intro hb hE;simp only[go_sem];(repeat' first|apply cj'|intro hc|apply a0o);(all_goals(try((first|refine c5p (l6 0 8 (W9 rfl) rfl ?_ b4p))<;>(intro S hS B0 hB;simp only[go_sem,K4]at hS hB;(repeat(first|replace hS:=And.right hS|replace hS:=CJ.r hS));have Rr51:=congrArg (fun s:St=>s.sl 51) hS;have Rr52:=congrArg (fun s:St=>s.sl 52) hS;have Rr53:=congrArg (fun s:St=>s.sl 53) hS;have Rr54:=congrArg (fun s:St=>s.sl 54) hS;have Rr55:=congrArg (fun s:St=>s.sl 55) hS;have Rr56:=congrArg (fun s:St=>s.sl 56) hS;have Rr57:=congrArg (fun s:St=>s.sl 57) hS;have Rr58:=congrArg (fun s:St=>s.sl 58) hS;have Rr59:=congrArg (fun s:St=>s.sl 59) hS;have Rr60:=congrArg (fun s:St=>s.sl 60) hS;have Rr12:=congrArg (fun s:St=>s.sl 12) hS;have Rr13:=congrArg (fun s:St=>s.sl 13) hS;have Rb12:=congrArg (fun s:St=>s.bx 12) hS;have Rb13:=congrArg (fun s:St=>s.bx 13) hS;have Rb28:=congrArg (fun s:St=>s.bx 28) hS;have Rb29:=congrArg (fun s:St=>s.bx 29) hS;clear hS;simp only[go_sem]at Rr51 Rr52 Rr53 Rr54 Rr55 Rr56 Rr57 Rr58 Rr59 Rr60 Rr12 Rr13 Rb12 Rb13 Rb28 Rb29;(try clear hc);intro K hc;simp only[go_sem,Rr51,Rr52,Rr53,Rr54,Rr55,Rr56,Rr57,Rr58,Rr59,Rr60,Rr12,Rr13,Rb12,Rb13,Rb28,Rb29,hB,K4]at hc ⊢;simp only[go_sem,Rr51,Rr52,Rr53,Rr54,Rr55,Rr56,Rr57,Rr58,Rr59,Rr60,Rr12,Rr13,Rb12,Rb13,Rb28,Rb29,hB,K0]at hc ⊢;simp only[hc,K5];done))));all_goals try exact om'
 ·have h:(a0x p s&&a4n sw inn src dst)=false:=by
   rcases hc with((h|h)|h)
   ·rw[a4n];rcases h with((h|h)|h)|h<;>rw[h]<;>simp
   ·rw[a4n,V5 (show¬1<=inn by omega)];simp
   ·rw[a4n,V5 (show¬inn<=255 by omega)];simp
  rw[d6a h];exact⟨rfl,rfl⟩
 ·exact a2l hc.1.1.1.1.1
 ·rename_i h;have h1:=b1B (p:=p) (s:=s) (sw:=sw) (inn:=inn) (src:=src) (dst:=dst) ⟨⟨h.1.1,z0D⟩,z0D⟩;rw[c7u h1,hc,V2,w6,hc];exact⟨rfl,rfl⟩
 ·rename_i h;have h1:=b1B (p:=p) (s:=s) (sw:=sw) (inn:=inn) (src:=src) (dst:=dst) ⟨⟨h.1.1,z0D⟩,z0D⟩;have hR:=a2l h1.1;have hc2:=b3n hR.1 hR.2;have hp:=b3W h1.1 h1.2;have e:(w6 p s).1=(a6r p s).1:=by rw[w6,hc];rfl
  rw[e]at hp hc2;exact⟨⟨⟨hR.1,hp⟩,b4f hc2⟩,rfl⟩
 ·rename_i h;have h1:=b1B (p:=p) (s:=s) (sw:=sw) (inn:=inn) (src:=src) (dst:=dst) ⟨⟨h.1.1,z0D⟩,z0D⟩;have hR:=a2l h1.1;have hp:=b3W h1.1 h1.2;have e:(w6 p s).1=(a6r p s).1:=by rw[w6,hc];rfl
  rw[c7u h1,hc,W8,forI,e];rw[e]at hp;rw[d6b hR.1 hp];exact⟨rfl,rfl⟩
noncomputable def a9l:CT:=l4 (fun(x:c4×c6×Int×Int×Int×Int)=>c2n x.1 x.2.1 x.2.2.1 x.2.2.2.1 x.2.2.2.2.1 x.2.2.2.2.2)
@[go_sem] def d5z:=fun x0 x1 x2 sw x3 x4 x5=>nm' (fQ' a9l rfl (⟨x0,x1⟩,⟨x2⟩,sw,x3,x4,x5))
end Go.Aw
namespace Go.Aw
set_option maxHeartbeats 4000000
open Go.Proofs
attribute [local irreducible] aft blk lpK retK AW A0e
set_option linter.all false
set_option maxRecDepth 100000
end Go.Aw
namespace Go.Aw
set_option linter.all false
set_option maxHeartbeats 4000000
def d2a{a b:Prop}:CJ a b=(a/\b):=propext ⟨fun h=>⟨h.l,h.r⟩,fun h=>cj' h.1 h.2⟩
variable{l:List AC}{i k x:Nat}{st:St}
def a7v{y:AC}:(st.setBx x l).sub k y=(st.sub k y).setBx x (E9 k y l):=by
 simp only[St.setBx,St.sub,St.mk.injEq,q0M,q0K]
 funext z
 by_cases h:z=x<;>simp[h]
def a5i{z:List C}{r:List (List C)}:(st.setBx x l).setOw k z r=(st.setOw k z r).setBx x l:=rfl
def a9G{y:AC}:(st.susB x).sub k y=(st.sub k y).susB x:=by
 simp only[St.susB,St.sub,St.mk.injEq,q0M,q0K]
 funext z
 by_cases h:z=x<;>simp[h]
def a6j{z:List C}{r:List (List C)}:(st.susB x).setOw k z r=(st.setOw k z r).susB x:=rfl
def a9F:(st.susB x).dip k=(st.dip k).susB x:=rfl
def a6i:(st.susB x).setBx x l=st.setBx x l:=by
 simp only[St.susB,St.setBx,St.mk.injEq,q0M,q0K]
 funext z
 by_cases h:z=x<;>simp[h]
def a7u:(st.setBx x l).dip k=(st.dip k).setBx x l:=rfl
open Go.Proofs
attribute [local irreducible] aft blk lpK retK AW A0e
attribute [local irreducible] RM
set_option maxRecDepth 100000
def a1f(a b:List c7)(i:Bool):List c7:=a.filter fun x=>s8 b x==i
def e2y{b l:List c7}{j:Bool}(h:i<l.length)(hp:(s8 b (l.getD i default)==j)=true):a1f (l.take (i+1)) b j=a1f (l.take i) b j++[l.getD i default]:=by
 rw[j6 default h];unfold a1f;rw[q3Q];simp only[q3M,hp,if_true,q5R]
def sift_no{b l:List c7}{j:Bool}(h:i<l.length)(hp:(s8 b (l.getD i default)==j)=false):a1f (l.take (i+1)) b j=a1f (l.take i) b j:=by
 rw[j6 default h];unfold a1f;rw[q3Q];simp only[q3M,hp,q2Q,if_false,q5R,q0A]
def b9n(l b:List c7)(j:Bool):(a1f l b j).length<=l.length:=q1F _ _
def e2t{r:f8}(h:y8 r=true)(hi:i<r.Rows.length):a0t (r.Rows.getD i default)=true/\(r.Rows.getD i default).V.length=r.Arity:=by
 simp only[y8,W3,q0W]at h;have h1:=a3C.1 h.2 i hi;simp only[a0W,q0Y,q0T,beq_iff_eq]at h1;exact⟨h1.1.2,h1.1.1⟩
def a9C(a:f8)(b:f8)(j:Bool)(hpre:a.Rows.length<=100000/\∀x∈a.Rows,x.V.length<1000):spZ 93 [(true,[.i .i64 a.Arity,u7 a.Rows]),(true,[.i .i64 b.Arity,u7 b.Rows]),(false,[.b j])] [] (.one (true,[.i .i64 ((⟨a.Arity,a1f a.Rows b.Rows j⟩:f8).Arity),b3x ((⟨a.Arity,a1f a.Rows b.Rows j⟩:f8).Rows)])):=by
 refine sx' true false none Tryz.func93 (q' 3 [aX 2 0,aX 2 1,ax (w' 6 [.i .i64,.sl k7])] (q' 9 [aG 0 3,ao (.bld [.i .i64,.sl k7] [(0,1, .t 10)]),ax (w' 7 [.i .i64,.sl k7]),aS 2 7 11] (.seq (q' 12 [aG 1 3,aN,aK 0] (fO 0 16 [ar 15 14] 16 1 (q' 17 [am 15,aV 8] (.seq (G' 18 [aG 1 4,aG 1 3,am 8,aI 1,aE 1,ac 135 [19,24],am 2,ao (.binb .eql (.t 25) (.t 26))]) (ci 27 (rm' [(true,2,f' 30 1 3),(true,3,l' 31 30), (true,4,m' 32 8),(true,5,i' 33 1 31 32),(true,6,e' 34 1 33),(false,0,f' 28 1 7),(false,1,l' 29 28),(false,7,c' 35 132 [34]),(false,8,o' 36 (.bsl 1 1 [.sl l7] [(0,.t 35)])),(false,9,o' 37 (.app 1 24 [.sl l7] (.t 29) (.t 36))),(false,10,f' 38 1 7),(false,11, s' 1 38 37)] [[0,1,2,3,4,5,7,6,8,9,10,11],[0,1,2,3,4,5,7,8,6,9,10,11],[0,1,2,3,4,7,5,6,8,9,10,11],[0,1,2,3,4,7,5,8, 6,9,10,11],[0,1,2,3,4,7,8,5,6,9,10,11]] [6,7])))) (g' 39 [aA 15]))) (q' 40 [ae 2 7,aS 2 6 40] .ret)))) [.c 6 true 2] [(135,[],a3t),(132,[],b0S)] ?_;intro hb hE;obtain⟨hl,hv⟩:=hpre;simp only[go_sem];(repeat' first|apply cj'|intro hc|apply a0o);(all_goals(try(refine(show A3H _ _ _ _ _ _ from ?_);simp only[go_sem]at hc ⊢;simp only[go_sem,K0]at hc ⊢;simp only[hc,K5];done)));all_goals try exact om'
 refine lk' true [(true,14,1,200028)] [2,3,4,6,7,14] [6,8,12,7] [] (fun i:{q:Nat // q<=a.Rows.length}=>[(15,slV (.i .i64 i.1))]) (fun i=>[(14,[.c (.i .i64 a.Arity),.ow 200028])]) (fun i=>[(200028,b6T,(a1f (a.Rows.take i.1) b.Rows j).map (c7.cells true true))]) (fun i=>a.Rows.length-i.1) (⟨0,z0E⟩) ?_;intro S0 hS0 i;obtain⟨n,hn⟩:=i;have hle:=b9n (a.Rows.take n) b.Rows j;rw[V1]at hle;have hm:=fun(h:n<a.Rows.length)=>hv _ (u4 default h)
 simp only[go_sem,hS0];(repeat' first|apply cj'|intro hc|apply a0o);(all_goals(try((first|refine a0V 5 rfl ?_);intro S hS B0 hB;simp only[go_sem,hS0,z0B]at hS hB;(repeat(first|replace hS:=And.right hS|replace hS:=CJ.r hS));have Rr7:=congrArg (fun s:St=>s.sl 7) hS;have Rr34:=congrArg (fun s:St=>s.sl 34) hS;have Rb14:=congrArg (fun s:St=>s.bx 14) hS;have Rb6:=congrArg (fun s:St=>s.bx 6) hS;have Rb7:=congrArg (fun s:St=>s.bx 7) hS;have Ro200028:=congrArg (fun s:St=>s.ow 200028) hS;clear hS;simp only[go_sem,hS0]at Rr7 Rr34 Rb14 Rb6 Rb7 Ro200028;(try clear hc);intro K hc;simp only[go_sem,hS0,Rr7,Rr34,Rb14,Rb6,Rb7,Ro200028,hB,K6]at hc ⊢;simp only[go_sem,hS0,Rr7,Rr34,Rb14,Rb6,Rb7,Ro200028,hB,K0]at hc ⊢;(first|(simp only[hc,K5];done)|((repeat' first|exact hc|apply W6);done)))));all_goals try exact om'
 ·(refine lpK_n2 (⟨n+1,z0D⟩) _ z0H ?_;simp only[go_sem,hS0]<;>repeat' first|apply W6|exact on'|fail)
  all_goals rw[e2y z0D hc]
 ·(refine lpK_n2 (⟨n+1,z0D⟩) _ z0H ?_;simp only[go_sem,hS0]<;>repeat' first|apply W6|exact on'|fail)
  all_goals rw[sift_no z0D hc]
 ·rw[j5 z0D]
noncomputable def c0T:CT:=n9 (fun(x:f8×f8×Bool) h=>a9C x.1 x.2.1 x.2.2 h)
@[go_sem] def d5F:=fun x0 x1 x2 x3 j=>nm' (fP' c0T rfl (⟨x0,x1⟩,⟨x2,x3⟩,j))
def a2e(x:i4):Bool:=decide (x.Plus.Rows.length+x.Minus.Rows.length=0)
end Go.Aw
namespace Go.Aw
open Go.Proofs Go.Lib
set_option linter.all false
set_option maxRecDepth 100000
set_option maxHeartbeats 4000000
end Go.Aw
namespace Go.Aw
open Go.Proofs
set_option linter.all false
set_option maxRecDepth 100000
attribute [local irreducible] aft blk lpK retK AW A0e
attribute [local irreducible] RM
end Go.Aw
namespace Go.Aw
open Go.Proofs
set_option linter.all false
set_option maxRecDepth 100000
set_option maxHeartbeats 4000000
variable{l:List c9}
def setS_at{n:List UInt8}(hs:SS sLt (l.map c9.Name))(hm:n∈l.map c9.Name):∃A b B,l=A++b::B/\b.Name=n/\∀v,a1D l n v=A++v::B:=by
 obtain⟨A,B,rfl,_,hset,hA,hB⟩:=b6g l n;rw[q1B,V0]at hm;have hnA:¬n∈A.map c9.Name:=fun h=>by
  obtain⟨x,hx,rfl⟩:=q0R.1 h;have:=hA x hx;exact absurd rfl (t5.ne this)
 obtain⟨x,hx,hxn⟩:=q0R.1 (hm.resolve_left hnA);cases B with
 | nil=>cases hx
 | cons b B=>
   have hmid:=d4v hs;have hb:=hB b B rfl;have hbn:b.Name=n:=by
    rcases q0B.1 hx with rfl|hx
    ·exact hxn
    ·have h1:=hmid x hx;rw[hxn,hb]at h1;cases h1
   refine⟨A,b,B,rfl,hbn,fun v=>?_⟩;rw[hset,List.filter_cons_of_neg (by simp[hbn]),List.filter_eq_self.2];intro y hy;have h1:=hmid y hy;have h2:=t5.ne h1;simp only[q0W,beq_eq_false_iff_ne];rw[<-hbn];exact fun e=>h2 e.symm
structure FineA(s:c6)(l:List c9):Prop where
 ok:j9 ⟨l⟩=true
 nm:l.map c9.Name=s.Rels.map c9.Name
 ar:l.map (fun x=>x.Rel.Arity)=s.Rels.map fun x=>x.Rel.Arity
def c5Q(l:List c9)(n:List UInt8):a0A (fun x:c9=>x.Name==n) l=a0A (fun x=>x==n) (l.map c9.Name):=by
 simp only[a0A,List.findIdx_map,q0C,Function.comp_def]
def d6c(l:List c9)(i:Nat):(l.getD i default).Rel.Arity=(l.map fun x=>x.Rel.Arity).getD i 0:=by
 rw[W5,W5,q3G];cases l[i]?<;>rfl
def FineA.rel{s:c6}(h:FineA s l)(n:List UInt8):(w4 ⟨l⟩ n).2=(w4 s n).2/\(w4 ⟨l⟩ n).1.Arity=(w4 s n).1.Arity:=by
 have e:a0A (fun x:c9=>x.Name==n) l=a0A (fun x:c9=>x.Name==n) s.Rels:=by rw[c5Q,c5Q,h.nm]
 unfold w4;simp only[e];split
 ·exact⟨rfl,by show(l.getD _ default).Rel.Arity=(s.Rels.getD _ default).Rel.Arity;rw[d6c,d6c,h.ar]⟩
 ·exact⟨rfl,rfl⟩
def c6l{r:f8}(h:y8 r=true){y:c7}(hy:y∈r.Rows):a0t y=true/\(y.V.length:Int)=r.Arity:=by
 obtain⟨i,hi,rfl⟩:=q1I hy;have h1:=e2t h hi;rw[k8 default hi]at h1;exact h1
def d1i(l:List c9)(x:i4):List c7:=l5 o5 (a1f (w4 ⟨l⟩ x.Name).1.Rows x.Minus.Rows false) x.Plus.Rows
def setA(l:List c9)(x:i4):List c9:=a1D l x.Name ⟨x.Name,⟨(w4 ⟨l⟩ x.Name).1.Arity,d1i l x⟩⟩
def FineA.newRel{s:c6}(h:FineA s l){x:i4}(ha:(w4 s x.Name).1.Arity=x.Plus.Arity)(hp:y8 x.Plus=true)(hr:(d1i l x).length<=300):y8 ⟨(w4 ⟨l⟩ x.Name).1.Arity,d1i l x⟩=true:=by
 have h1:=a0I h.ok x.Name;have h2:=(h.rel x.Name).2;have h3:=h1;simp only[y8,K7]at h3;refine c2V h3.1.1.1 h3.1.1.2 hr (fun y hy=>?_) ((SS.filter (b6h h1) _).puts a0R);rcases o7.1 hy with hy|hy
 ·exact c6l h1 (q0N.1 hy).1
 ·have h4:=c6l hp hy;exact⟨h4.1,by rw[h4.2,h2,ha]⟩
def FineA.step{s:c6}(h:FineA s l){x:i4}(hf:(w4 s x.Name).2=true)(ha:(w4 s x.Name).1.Arity=x.Plus.Arity)(hp:y8 x.Plus=true)(hr:(d1i l x).length<=300):FineA s (setA l x):=by
 have hs:SS sLt (l.map c9.Name):=a2q h.ok;have hw:=b1X h.ok;have hn:=h.newRel ha hp hr;obtain⟨z,hz,hzn,hze⟩:=c2R (s:=⟨l⟩) (v:=x.Name) (by rw[(h.rel x.Name).1];exact hf);obtain⟨A,b,B,e,hbn,hset⟩:=setS_at hs (q0R.2 ⟨z,hz,hzn⟩);have hzb:z=b:=by
  have hq:(l.map c9.Name).Nodup:=hs.nodup t5;obtain⟨i,hi,rfl⟩:=q1I hz;have hj:A.length<l.length:=by rw[e];simp
  have hbj:l[A.length]=b:=by simp[e]
  have h1:(l.map c9.Name)[i]'(by simpa using hi)=(l.map c9.Name)[A.length]' z1B:=by rw[q3R,q3R,hbj,hbn];exact hzn
  have h2:=(List.getElem_inj hq).1 h1;subst h2;exact hbj
 have hb:(w4 ⟨l⟩ x.Name).1.Arity=b.Rel.Arity:=by rw[hze,hzb]
 have he:setA l x=A++⟨x.Name,⟨(w4 ⟨l⟩ x.Name).1.Arity,d1i l x⟩⟩::B:=hset _;have hnm:(setA l x).map c9.Name=l.map c9.Name:=by rw[he,e];simp[hbn]
 refine⟨b1W ?_ (by rw[hnm];exact hs) fun y hy=>?_,by rw[hnm];exact h.nm, ?_⟩
 ·have:=congrArg List.length hnm;rw[q0C,q0C]at this;rw[this];exact a1T h.ok
 ·rcases a5h hy with rfl|hy
  ·exact⟨by rw[<-hzn];exact(hw z hz).1,hn⟩
  ·exact hw y hy
 ·rw[<-h.ar,he,hb,e];simp
attribute [local irreducible] aft blk lpK retK AW A0e
attribute [local irreducible] RM
def b5Q(a:f8)(b:f8)(j:Bool)(hpre:a.Rows.length<=100000/\∀x∈a.Rows,x.V.length<1000):spZ 93 [(true,[.i .i64 a.Arity,u7 a.Rows]),(true,[.i .i64 b.Arity,u7 b.Rows]),(false,[.b j])] [] (.one (true,[.i .i64 ((⟨a.Arity,a1f a.Rows b.Rows j⟩:f8).Arity),u7 ((⟨a.Arity,a1f a.Rows b.Rows j⟩:f8).Rows)])):=by
 exact a4y (a9C a b j hpre) z0Z
noncomputable def a6H:CT:=n9 (fun(x:f8×f8×Bool) h=>b5Q x.1 x.2.1 x.2.2 h)
@[go_sem] def d1S:=fun x0 x1 x2 x3 j=>nm' (fP' a6H rfl (⟨x0,x1⟩,⟨x2,x3⟩,j))
end Go.Aw
namespace Go.Aw
open Go.Proofs Go.Shelf Go.Sort Go.Lib Go.RowKit
set_option linter.all false
set_option maxRecDepth 1000000
set_option maxHeartbeats 4000000
def c9T(a:Option Addr)(cap:Nat)(g:Nat)(lb:Array Value)(w:World)(hix:Calls Tryz.prog 168 #[.slice a 0 cap,.func (.func g) #[] lb] w fun e w'=>e=.returned (.int .i64 (-1))/\∃q os',w'=grow (w.drewN q) os'):Calls Tryz.prog 113 #[.slice a 0 cap,.func (.func g) #[] lb] w fun e w'=>e=.returned (.slice a 0 cap)/\∃q os',w'=grow (w.drewN q) os':=by
 have e6:∀args w,(callFunc 168 args).run Tryz.prog w=.ok (.enter 168 args) w:=enters_of Tryz.func168 z0L rfl
 go_enter Tryz.func113,Tryz.ntmps113
 go_wp2_with (go_at_fn 168;refine hix.mono ?_;rintro e w' ⟨rfl,q0,os0,rfl⟩)
 go_ret
 exact⟨rfl,q0,os0,rfl⟩
def d3T{α:Type}[Inhabited α](k:Nat)(zE:∀w,(Go.sizeOf 65).run Tryz.prog w=.ok k w)(z:Value)(hzv:∀w,(zeroValue 65).run Tryz.prog w=.ok z w)(hzs:z.cells.size=k)(hz1:∀n,∀v∈(Builtin.zeroCells z.cells n).toList,v.oneCell'=true)(hinf:(Tryz.prog.info? 65).map (·.size)=some k)(hzc:(#[.slice none 0 0]:Array Value).size=k)(enc:α->List Value)(hk:∀x,(enc x).length=k)(h1:∀x,∀v∈enc x,v.oneCell'=true)(pr:α->Bool)(g:Nat)(lb:Array Value)(eg:∀args w,(callFunc g args).run Tryz.prog w=.ok (.enter g args) w)
  (blk off cap:Nat) (d:Array α) (w:World) (hq:c6M Tryz.prog g lb enc k pr blk off d.size w) (hix:Calls Tryz.prog 168 #[.slice (some ⟨blk,off,none⟩) d.size cap,.func (.func g) #[] lb] w fun e w'=>e=.returned (.int .i64 (a0A pr d.toList))/\∃q os',w'=grow (w.drewN q) os') (hH:HoldsK enc k w blk off d) (hblk:blk<w.heap.size) (hcap:d.size<=cap) (hsz:d.size<4611686018427387904):
  Calls Tryz.prog 113 #[.slice (some ⟨blk,off,none⟩) d.size cap,.func (.func g) #[] lb] w fun e w'=>e=.returned (.slice (some ⟨blk,off,none⟩) (keptUpTo (fun j=>!pr d[j]!) d d.size).length cap)/\a7b enc k w blk off d (fun j=>!pr d[j]!) w':=by
 have e6:∀args w,(callFunc 168 args).run Tryz.prog w=.ok (.enter 168 args) w:=enters_of Tryz.func168 z0L rfl;have u0:=run_underlying Tryz.underlying126;have mixed:Tryz.prog.follows Departure.mixedOrders=true:=by kernel_rfl
 have aE:∀w,(isAgg 65).run Tryz.prog w=.ok true w:=fun w=>rfl
 have R:RowK enc k w blk off d:=⟨hk,h1,hH,hblk⟩
 obtain⟨kp,HK⟩:∃kp:Nat->Bool,Hid (kp=fun j=>!pr d[j]!):=⟨_,rfl⟩
 rw[show(fun j=>!pr d[j]!)=kp from HK.out.symm];have same:∀W,SWK enc k w blk off d W->(∀j,j<d.size->kp j=true)->(keptUpTo kp d d.size).length=d.size/\a7b enc k w blk off d kp W:=by
  rintro W ⟨n,os,rfl⟩ hall;have e:keptUpTo kp d d.size=d.toList:=by rw[keptUpTo_all kp d _ hall,range_map_get]
  unfold a7b;rw[e];refine⟨z0E,n,os,d,[],rfl,fun j hj=>?_,z0E,rfl⟩;have hj':j<d.size:=by simpa using hj
  rw[getElem!_pos d j hj',V7 hj];simp
 have HZ:Aside (∀w,(zeroValue 65).run Tryz.prog w=.ok z w):=hzv;have HZ1:Aside (∀n,∀v∈(Builtin.zeroCells z.cells n).toList,v.oneCell'=true):=hz1;have HZS:Aside (z.cells.size=k):=hzs;clear hzv hz1 hzs;have HS:Aside _:=same;have HC:Aside _:=hq;have HR:Aside _:=R;clear same hq R hH hblk hk h1;rcases d8L pr d with⟨e1,hall⟩|⟨k0,hk0,e1,ht,hall⟩
 ·rw[e1]at hix;have HA:Aside (∀j,j<d.size->kp j=true):=fun j hj=>by rw[HK.out];show(!pr d[j]!)=true;rw[hall j hj];rfl
  clear hall e1
  go_enter Tryz.func113,Tryz.ntmps113
  go_wp2_with (go_at_fn 168;refine hix.mono ?_;rintro e w' ⟨rfl,q0,os0,rfl⟩)
  go_ret
  obtain⟨e1,e2⟩:=HS.out _ ((SWK.start HR.out.hH).grown q0 os0) HA.out;exact⟨by rw[e1];rfl,e2⟩
 ·rw[e1]at hix;have HA:Aside (∀j,j<k0->kp j=true):=fun j hj=>by rw[HK.out];show(!pr d[j]!)=true;rw[hall j hj];rfl
  have HD:Aside (kp k0=false):=by show kp k0=false;rw[HK.out];show(!pr d[k0]!)=false;rw[ht];rfl
  have hne1:((k0:Int)==-1)=false:=beq_eq_false_iff_ne.2 z0D;clear hall ht e1
  go_enter Tryz.func113,Tryz.ntmps113
  go_wp2_with (go_at_fn 168;refine hix.mono ?_;rintro e w' ⟨rfl,q0,os0,rfl⟩)
  go_loopg [5,6,7] d.size (fun gg s5 s6 _ wr=>∃(i j:Nat) (dk:Array α),s5=.int .i64 i/\s6=.int .i64 j/\j<=d.size/\d.size-j<=gg/\Aside (SWK enc k w blk off dk wr)/\Aside (KeptInv kp d j i dk))
  case atStart=>exact⟨k0,k0+1,d,rfl,by go_num,z0D,z0D,(SWK.start HR.out.hH).grown q0 os0,KeptInv.start HA.out HD.out⟩
  case round=>
   obtain⟨i,j,dk,rfl,rfl,hjd,hgg,SWr,I⟩:=hrel;have hds:=I.out.size;have hil:=I.out.lt;by_cases hlt:j<d.size
   ·have hltz:(j:Int)<(d.size:Int):=by omega
    have lj:=SWr.out.load HR.out hds Tryz.prog j z0D;have hx2:dk[j]! = d[j]!:=I.out.high _ z0D;generalize dk[j]! = u at lj hx2;have C:Aside (u=d[j]!):=hx2;clear hx2;obtain⟨wv,s0,SWv,l0,lv⟩:=new_row (P:=Tryz.prog) SWr.out (HR.out.hk u) (HR.out.h1 u) hzc hinf;have SWv:Aside (SWK enc k w blk off dk wv):=SWv;have hcg:=SWK_pd SWv.out HC.out hds u;have hB:i*k+k<=dk.size*k:=by
     have:=q1S k (show i+1<=dk.size by omega);rwa [q2C,q4K]at this
    have iz:(i:Int)<(d.size:Int):=by omega
    have izn:i<d.size:=by omega
    have hsU:(enc u).length=k:=HR.out.hk _;cases hq:pr u with
    | false=>
      rw[hq]at hcg
      go_wp2_with (go_at_fn g;refine hcg.mono ?_;rintro e w' ⟨rfl,nq,osq,rfl⟩)
      have SW3:=SWv.out.grown nq osq;have lv3:=lv nq osq;clear lj hcg lv l0;generalize grow (wv.drewN nq) osq=w3 at SW3 lv3 ⊢;have s1:Sem.run Tryz.prog (storeCells ⟨blk,off+i*k,none⟩ (enc u) 0) w3=.ok () (w3.setCells blk (off+i*k) (enc u)):=stores_of_holds Tryz.prog (SW3.holds HR.out.hblk HR.out.hH hds) (i*k) _ (by rw[HR.out.hk,size_flatK];exact hB) (HR.out.h1 _);have SW4:Aside (SWK enc k w blk off (dk.setIfInBounds i u) (w3.setCells blk (off+i*k) (enc u))):=c5q SW3 HR.out.hk HR.out.hblk i z0D u;clear SW3 hB;clear s0
      go_wp2
      rw[s1]
      go_wp2
      go_roundg (d.size-(j+1))
      case measure=>omega
      case rel=>
       refine⟨i+1,j+1,dk.setIfInBounds i u,by go_num,by go_num,z0D,q0F _,SW4,(show Aside _ from ?_)⟩;have:=I.out.keep hlt (by rw[HK.out];show(!pr d[j]!)=true;rw[<-C.out,hq];rfl)
       rwa [<-C.out]at this
    | true=>
      rw[hq]at hcg
      go_wp2_with (go_at_fn g;refine hcg.mono ?_;rintro e w' ⟨rfl,nq,osq,rfl⟩)
      have SW3:Aside (SWK enc k w blk off dk (grow (wv.drewN nq) osq)):=SWv.out.grown nq osq;clear lj hcg lv s0 l0;generalize grow (wv.drewN nq) osq=w3 at SW3 ⊢
      go_wp2
      go_roundg (d.size-(j+1))
      case measure=>omega
      case rel=>exact⟨i,j+1,dk,rfl,by go_num,z0D,q0F _,SW3,I.out.skip (by rw[HK.out];show(!pr d[j]!)=false;rw[<-C.out,hq];rfl)⟩
   ·obtain rfl:j=d.size:=by omega
    have hltz:¬(d.size:Int)<(d.size:Int):=by omega
    have hin:0<d.size-i:=by omega
    have hidz:(i:Int)<=(d.size:Int):=by omega
    have hicz:(i:Int)<=(cap:Int):=by omega
    have hHk:HoldsK enc k wr blk off dk:=SWr.out.holds HR.out.hblk HR.out.hH hds;have hzl:(Builtin.zeroCells z.cells (d.size-i)).toList.length=(d.size-i)*k:=by simp[Builtin.zeroCells,HZS.out]
    have hcl:∀ty,(Builtin.clear_ #[126] ty #[.slice (some ⟨blk,off+i*k,none⟩) (d.size-i) (cap-i)]).run Tryz.prog wr=.ok (.tuple #[]) (wr.setCells blk (off+i*k) (Builtin.zeroCells z.cells (d.size-i)).toList):=fun ty=>
     b6P wr _ _ ty z Tryz.underlying126 HZ.out (HZ1.out _) blk (off+i*k) _ hin
      (fun j hj=>z0V)
      (fun j hj=>z0U)
    generalize(Builtin.zeroCells z.cells (d.size-i)).toList=zs at hcl hzl;clear hHk
    go_wp2
    go_ret
    have hI:=I.out;refine⟨by rw[hI.len];rfl, ?_⟩;obtain⟨n,os,hw⟩:=SWr.out;refine⟨n,os,dk,zs,hds,fun j hj=>hI.low j (by rw[<-hI.len];exact hj), ?_,by rw[hI.len,<-hw]⟩;rw[hI.len,hzl,<-q2C];exact q1S k z0D
def b6F:DelRuns Tryz.prog 113 168 1:=⟨c9T,fun enc hk h1 pr g lb eg blk off cap d w hq hix hH hblk hcap hsz=>d3T 1 (fun w=>rfl) (.agg #[.slice none 0 0]) (fun w=>rfl) rfl (b1h z02 (by simp[Value.cells,Value.oneCell'])) z0L rfl enc hk h1 pr g lb eg blk off cap d w hq hix hH hblk hcap hsz⟩
end Go.Aw
namespace Go.Aw
open Go.Proofs
attribute [local irreducible] aft blk lpK retK AW A0e
attribute [local irreducible] RM
set_option linter.all false
set_option maxRecDepth 100000
set_option maxHeartbeats 4000000
noncomputable def fwP(p:c4)(w:c6)(k:Int)(x:c9):List c7:=l5 o5 [] (p9 w (w5 k x.Name) p.Rules)
noncomputable def chF(p:c4)(w:c6)(x:c9):i4:=⟨x.Name,⟨x.Rel.Arity,a1f (fwP p w 2 x) x.Rel.Rows false⟩,⟨x.Rel.Arity,a1f (a1f (fwP p w 3 x) (fwP p w 2 x) false) x.Rel.Rows true⟩⟩
noncomputable def okF(p:c4)(w:c6)(x:c9):Bool:=a1L w (w5 2 x.Name) p.Rules&&a1L w (w5 3 x.Name) p.Rules&&decide ((chF p w x).Plus.Rows.length<=300)
noncomputable def a4g(p:c4)(w:c6)(l:List c9):List i4:=(l.map (chF p w)).filter fun c=>!a2e c
noncomputable def a2t(p:c4)(s w:c6):i7×Int:=bif s.Rels.all (okF p w)then(⟨a4g p w s.Rels⟩,0)else(default,3)
variable{i:Nat}
def fire_no{p:c4}{s w:c6}(hi:i<s.Rels.length)(h:okF p w (s.Rels.getD i default)=false):a2t p s w=(default,3):=by
 rw[a2t,all_false (d:=default) hi h];rfl
def e1v{p:c4}{s w:c6}(h:s.Rels.all (okF p w)=true):a2t p s w=(⟨a4g p w s.Rels⟩,0):=by rw[a2t,h];rfl
def e1q(p:c4)(w:c6)(l:List c9):(a4g p w l).length<=l.length:=by
 have:=q1F (fun c:i4=>!a2e c) (l.map (chF p w));rw[q0C]at this;exact this
def d8I{p:c4}{w:c6}{l:List c9}(hi:i<l.length)(h:a2e (chF p w (l.getD i default))=false):a4g p w (l.take (i+1))=a4g p w (l.take i)++[chF p w (l.getD i default)]:=by
 rw[j6 default hi,a4g,a4g,q1B,q3Q,q0D,q1D,q3M,h];rfl
def e1r{p:c4}{w:c6}{l:List c9}(hi:i<l.length)(h:a2e (chF p w (l.getD i default))=true):a4g p w (l.take (i+1))=a4g p w (l.take i):=by
 rw[j6 default hi,a4g,a4g,q1B,q3Q,q0D,q1D,q3M,h];simp
def fwP_SS(p:c4)(w:c6)(k:Int)(x:c9):SS o5 (fwP p w k x):=SS.nil.puts a0R
def fw_mem{p:c4}{w:c6}{k:Int}{x:c9}{t:c7}:t∈fwP p w k x↔t∈p9 w (w5 k x.Name) p.Rules:=by
 rw[fwP,o7];simp
def e1E{p:c4}{w:c6}{k:Int}{x:c9}{t:c7}:s8 (fwP p w k x) t=s8 (p9 w (w5 k x.Name) p.Rules) t:=by
 rw[q3L,a5b,a5b,fw_mem]
def b6N(q:c7->Bool)(l:List c7):l5 o5 [] (l.filter q)=(l5 o5 [] l).filter q:=by
 refine SS.uniq a0R (SS.nil.puts a0R) ((SS.nil.puts a0R).filter _) fun x=>?_
 rw[o7,q0N,q0N,o7];simp
def e2l{p:c4}{w:c6}{x:c9}:a6n x.Rel.Arity ((p9 w (w5 2 x.Name) p.Rules).filter fun t=>!s8 x.Rel.Rows t)=bif decide (300<((chF p w x).Plus.Rows.length:Int))then(default,false)else((chF p w x).Plus,true):=by
 have h:=a3k (a:=x.Rel.Arity) (l:=[]) (r:=(p9 w (w5 2 x.Name) p.Rules).filter fun t=>!s8 x.Rel.Rows t) SS.nil;have e:l5 o5 [] ((p9 w (w5 2 x.Name) p.Rules).filter fun t=>!s8 x.Rel.Rows t)=(chF p w x).Plus.Rows:=by
  rw[b6N];show _=a1f (fwP p w 2 x) x.Rel.Rows false;rw[a1f,fwP];refine q6A fun t _=>?_
  cases s8 x.Rel.Rows t<;>rfl
 rw[q1J,e]at h;exact h
def b6f{p:c4}{w:c6}{x:c9}(h:y8 x.Rel=true):(chF p w x).Minus.Rows.length<=300:=by
 have e:(chF p w x).Minus.Rows=x.Rel.Rows.filter fun t=>decide (t∈(chF p w x).Minus.Rows):=by
  have hS:SS o5 (chF p w x).Minus.Rows:=((fwP_SS p w 3 x).filter _).filter _;refine SS.uniq a0R hS ((b6h h).filter _) fun t=>?_
  rw[q0N,V8];refine⟨fun ht=>⟨?_,ht⟩,fun ht=>ht.2⟩;have:=(q0N.1 ht).2;rw[beq_iff_eq]at this;exact a5b.1 this
 have h1:=congrArg List.length e;have h2:=q1F (fun t=>decide (t∈(chF p w x).Minus.Rows)) x.Rel.Rows;have:=(a3L h).1;omega
def d9a{p:c4}{w:c6}{x:c9}(hx:y8 x.Rel=true):a6n x.Rel.Arity ((p9 w (w5 3 x.Name) p.Rules).filter fun t=>!(!s8 x.Rel.Rows t||s8 (p9 w (w5 2 x.Name) p.Rules) t))=((chF p w x).Minus,true):=by
 have h:=a3k (a:=x.Rel.Arity) (l:=[]) (r:=(p9 w (w5 3 x.Name) p.Rules).filter fun t=>!(!s8 x.Rel.Rows t||s8 (p9 w (w5 2 x.Name) p.Rules) t)) SS.nil;have e:l5 o5 [] ((p9 w (w5 3 x.Name) p.Rules).filter fun t=>!(!s8 x.Rel.Rows t||s8 (p9 w (w5 2 x.Name) p.Rules) t))=(chF p w x).Minus.Rows:=by
  rw[b6N];show _=a1f (a1f (fwP p w 3 x) (fwP p w 2 x) false) x.Rel.Rows true;rw[a1f,a1f,List.filter_filter,show fwP p w 3 x=l5 o5 [] (p9 w (w5 3 x.Name) p.Rules)from rfl];refine q6A fun t _=>?_
  rw[e1E];cases s8 x.Rel.Rows t<;>cases s8 (p9 w (w5 2 x.Name) p.Rules) t<;>rfl
 have hl:=b6f (p:=p) (w:=w) hx;rw[q1J,e,V5 z0D]at h;exact h
def d0h{p:c4}{w:c6}(hg:y3 p=true)(hw:j9 w=true){q:c8->Bool}{t:c7}(h:t∈p9 w q p.Rules):a0t t=true:=by
 obtain⟨r,hr,ht⟩:=q2K.1 h;cases hq:q r with
 | false=>rw[hq]at ht;cases ht
 | true=>
   rw[hq,W8]at ht;obtain⟨j,hj,rfl⟩:=q1I hr;rw[<-k8 default hj]at ht;refine(b1V hg hw hj t ?_).1;rw[t6]at ht;cases hb:(u1 (p.Rules.getD j default) w).2 with
   | false=>rw[hb]at ht;cases ht
   | true=>rw[hb,W8]at ht;exact(a3l _ _).2 t ht
def b8m(y:c7)(r:c7):spZ 111 [(true,[l9 y.V]),(false,[.p [l9 r.V]])] [] (.one (false,[.b (decide (y.V=r.V))])):=by
 refine sy' Tryz.func111 (q' 2 [aX 1 0,aU false] (q' 4 [ae 1 2,ae 1 1,ac 112 [4,5],aV 3] .ret)) [.t 3] [(112,[],a8T)] ?_;intro hb hE;simp only[go_sem];repeat' first|apply cj'|intro hc|exact om'|fail
noncomputable def a7F:CT:=l4 (fun(x:c7×c7)=>b8m x.1 x.2)
@[go_sem] def d3b:=fun x0 x1=>nm' (fQ' a7F rfl (⟨x0⟩,⟨x1⟩))
@[go_sem] def b4q:ACode:=q' 4 [aK 0] (.seq (q' 6 [am 0,aN,aK 0] (fO 0 9 [ar 8 7] 9 1 (q' 10 [am 8,aV 5] (q' 11 [aM [1,0,5],aI 1,aE 1,ao (.callv (.t 11) [.t 15])] (ci 16 (q' 17 [am 5,aV
 4] .ret)))) (g' 18 [aA 8]))) (q' 4 [ao (.mov (.k (.v false [.c (.i .i64 (-1))])))] .ret))
def d4l(l:List c7)(r:c7):spZ 168 [(false,[u7 l]),(false,[.f 111 [.p [l9 r.V]]])] [] (.one (false,[.i .i64 (a0A (fun y:c7=>decide (y.V=r.V)) l)])):=by
 refine sy' Tryz.func168 b4q [.t 4] [(111,[],a7F)] ?_;intro hb hE;simp only[go_sem];repeat' first|apply cj'|intro hc|exact om'|fail
 refine lq' false [0,1,7] [] [] (fun i:{i:Nat // i<=l.length/\(l.take i).any (fun y:c7=>decide (y.V=r.V))=false}=>[(8,slV (.i .i64 i.1))]) nl' nl' (fun i=>l.length-i.1) (⟨0,z0E⟩) ?_;intro S0 hS0 i;obtain⟨i,hi,ha⟩:=i;simp only[go_sem,hS0];repeat' first|apply cj'|intro hc|exact om'|fail
 ·exact(y5 (p:=fun y:c7=>decide (y.V=r.V)) (d:=default) z0D ha z0F).symm
 ·exact nx0 ⟨i+1,z0D,u6 (p:=fun y:c7=>decide (y.V=r.V)) default z0D ha z0F⟩
 ·exact(w9 z0K).symm
noncomputable def c0Q:CT:=l4 (fun(x:(List c7)×c7)=>d4l x.1 x.2)
@[go_sem] def e2T:=fun l x0=>nm' (fQ' c0Q rfl (l,⟨x0⟩))
def d4h(l:List c7)(r:c7):spZ 110 [(false,[u7 l]),(false,[.f 111 [.p [l9 r.V]]])] [] (.one (false,[.b (l.any (fun y:c7=>decide (y.V=r.V)))])):=by
 refine sy' Tryz.func110 (q' 4 [aU false] (q' 5 [aM [0,1],ac 168 [5,6],aC .geq 7 0,aV 4] .ret)) [.t 4] [(168,[],c0Q)] ?_;intro hb hE;simp only[go_sem];repeat' first|apply cj'|intro hc|exact om'|fail
 ·exact a0Z _ _
noncomputable def c0O:CT:=l4 (fun(x:(List c7)×c7)=>d4h x.1 x.2)
@[go_sem] def e2P:=fun l x0=>nm' (fQ' c0O rfl (l,⟨x0⟩))
def c4s(l:List c7)(t:c7):spZ 109 [(false,[u7 l]),(true,[l9 t.V])] [] (.one (false,[.b (s8 l t)])):=by
 refine sy' Tryz.func109 (q' 3 [aX 1 1,aU false] (q' 5 [am 0,ao (.mf 111 [.t 3]),ac 110 [5,6],aV 4] .ret)) [.t 4] [(110,[],c0O)] ?_;intro hb hE;simp only[go_sem];repeat' first|apply cj'|intro hc|exact om'|fail
 rfl
noncomputable def b0w:CT:=l4 (fun(x:(List c7)×c7)=>c4s x.1 x.2)
@[go_sem] def d7C:=fun l x0=>nm' (fQ' b0w rfl (l,⟨x0⟩))
def b1a(t:c7)(x:c9)(hpre:y8 x.Rel=true/\a0t t=true):spZ 115 [(true,[l9 t.V]),(false,[.p [.s x.Name,.i .i64 x.Rel.Arity,u7 x.Rel.Rows]])] [] (.one (false,[.b (s8 x.Rel.Rows t)])):=by
 refine sy' Tryz.func115 (q' 2 [aX 1 0,aU false] (q' 4 [af 1 1,aE 2,ae 1 2,ac 116 [5,6],aV 3] .ret)) [.t 3] [(116,[],a7i)] ?_;intro hb hE;simp only[go_sem];repeat' first|apply cj'|intro hc|exact om'|fail
 ·exact hpre
noncomputable def b0x:CT:=n9 (fun(x:c7×c9) h=>b1a x.1 x.2 h)
@[go_sem] def d7D:=fun x0 x1 x2 x3=>nm' (fP' b0x rfl (⟨x0⟩,⟨x1,⟨x2,x3⟩⟩))
def b1b(t:c7)(x:c9)(P:List c7)(M:List c7)(hpre:y8 x.Rel=true/\a0t t=true):spZ 117 [(true,[l9 t.V]),(false,[.p [.s x.Name,.i .i64 x.Rel.Arity,u7 x.Rel.Rows]]),(false,[.p [.f 109 []]]),(false,[.p [.sl false k7 [],.sl false k7 [],u7 P,u7 M]])] [] (.one (false,[.b (!s8 x.Rel.Rows t||s8 P t)])):=by
 refine sy' Tryz.func117 (q' 4 [aX 1 0,aU false] (q' 6 [af 1 1,aE 2,ae 1 4,ac 116 [7,8],aO 9,am 10,aH 11 false [bo (.ld false 1 (.t 2)),bo (.ib 4 1 (.t 3) (k' 2)),bL,be 1 4,bo (.callv (.t 12) [.t 14,.t 15])],aQ 11 16,aV 5] .ret)) [.t 5] [(116,[],a7i),(109,[],b0w)] ?_;intro hb hE;simp only[go_sem];repeat' first|apply cj'|intro hc|exact om'|fail
 ·exact hpre
noncomputable def b0y:CT:=n9 (fun(x:c7×c9×(List c7)×(List c7)) h=>b1b x.1 x.2.1 x.2.2.1 x.2.2.2 h)
@[go_sem] def d7E:=fun x0 x1 x2 x3 P M=>nm' (fP' b0y rfl (⟨x0⟩,⟨x1,⟨x2,x3⟩⟩,P,M))
def d4e(l:List c7)(hpre:l.length<1000000):spZ 114 [(false,[.sl false [.sl false [.i .i64 0,.s []] []] (l.map (c7.cells false false))])] [] (.one (false,[.sl true [.sl false [.i .i64 0,.s []] []] (l.map (c7.cells false false))])):=by
 exact a6L (d:=[.sl false [.i .i64 0,.s []] []]) Tryz.cloneRow z0L (hi:=rfl) (hz0:=rfl) (hz1:=rfl) (bytes:=24) (hz2:=rfl) (hzs:=rfl) z02 (fun w=>rfl) _ z01
noncomputable def b1C:CT:=n9 (fun(x:(List c7)) h=>d4e x h)
@[go_sem] def e2M:=fun l=>nm' (fP' b1C rfl l)
def c4a:OkC Tryz.prog 114 b1C:=a4p _
def c1x(l:List c7)(x:c9)(hpre:y8 x.Rel=true/\∀t∈l,a0t t=true):spZ 168 [(false,[u7 l]),(false,[.f 115 [.p [.s x.Name,.i .i64 x.Rel.Arity,u7 x.Rel.Rows]]])] [] (.one (false,[.i .i64 (a0A (fun t=>s8 x.Rel.Rows t) l)])):=by
 refine sy' Tryz.func168 b4q [.t 4] [(115,[],b0x)] ?_;intro hb hE;obtain⟨hx,hl⟩:=hpre;simp only[go_sem];repeat' first|apply cj'|intro hc|exact om'|fail
 refine lq' false [0,1,7] [] [] (fun i:{i:Nat // i<=l.length/\(l.take i).any (fun t=>s8 x.Rel.Rows t)=false}=>[(8,slV (.i .i64 i.1))]) nl' nl' (fun i=>l.length-i.1) (⟨0,z0E⟩) ?_;intro S0 hS0 i;obtain⟨i,hi,ha⟩:=i;simp only[go_sem,hS0];repeat' first|apply cj'|intro hc|exact om'|fail
 ·exact⟨hx,hl _ (u4 default z0D)⟩
 ·exact(y5 (p:=fun t=>s8 x.Rel.Rows t) (d:=default) z0D ha z0F).symm
 ·exact nx0 ⟨i+1,z0D,u6 (p:=fun t=>s8 x.Rel.Rows t) default z0D ha z0F⟩
 ·exact(w9 z0K).symm
noncomputable def d2U:CT:=n9 (fun(x:(List c7)×c9) h=>c1x x.1 x.2 h)
@[go_sem] def e2R:=fun l x0 x1 x2=>nm' (fP' d2U rfl (l,⟨x0,⟨x1,x2⟩⟩))
def c1y(l:List c7)(x:c9)(P:List c7)(M:List c7)(hpre:y8 x.Rel=true/\∀t∈l,a0t t=true):spZ 168 [(false,[u7 l]),(false,[.f 117 [.p [.s x.Name,.i .i64 x.Rel.Arity,u7 x.Rel.Rows],.p [.f 109 []],.p [.sl false k7 [],.sl false k7 [],u7 P,u7 M]]])] [] (.one (false,[.i .i64 (a0A (fun t=>!s8 x.Rel.Rows t||s8 P t) l)])):=by
 refine sy' Tryz.func168 b4q [.t 4] [(117,[],b0y)] ?_;intro hb hE;obtain⟨hx,hl⟩:=hpre;simp only[go_sem];repeat' first|apply cj'|intro hc|exact om'|fail
 refine lq' false [0,1,7] [] [] (fun i:{i:Nat // i<=l.length/\(l.take i).any (fun t=>!s8 x.Rel.Rows t||s8 P t)=false}=>[(8,slV (.i .i64 i.1))]) nl' nl' (fun i=>l.length-i.1) (⟨0,z0E⟩) ?_;intro S0 hS0 i;obtain⟨i,hi,ha⟩:=i;simp only[go_sem,hS0];repeat' first|apply cj'|intro hc|exact om'|fail
 ·exact⟨hx,hl _ (u4 default z0D)⟩
 ·exact(y5 (p:=fun t=>!s8 x.Rel.Rows t||s8 P t) (d:=default) z0D ha z0F).symm
 ·exact nx0 ⟨i+1,z0D,u6 (p:=fun t=>!s8 x.Rel.Rows t||s8 P t) default z0D ha z0F⟩
 ·exact(w9 z0K).symm
noncomputable def d2V:CT:=n9 (fun(x:(List c7)×c9×(List c7)×(List c7)) h=>c1y x.1 x.2.1 x.2.2.1 x.2.2.2 h)
@[go_sem] def e2S:=fun l x0 x1 x2 P M=>nm' (fP' d2V rfl (l,⟨x0,⟨x1,x2⟩⟩,P,M))
def d1h{F:Nat->Prop}{w:World}{x:c7}{vs:List Value}{fp:List Nat}(h:C.RdVals F w (c7.cells false false x) vs fp):fp=[]:=by
 unfold c7.cells C.RdVals C.Rd at h;obtain⟨v,vs',f1,f2,_,rfl,⟨_,_,_,_,_,_,h3⟩,h4⟩:=h;unfold C.RdVals at h4;simp only[V2]at h3;rw[h3.1,h4.2];rfl
def d4j(l:List c7)(x:c9)(hpre:(y8 x.Rel=true/\∀t∈l,a0t t=true)/\l.length<=1000000):spZ 113 [(false,[.sl true [.sl false [.i .i64 0,.s []] []] (l.map (c7.cells false false))]),(false,[.f 115 [.p [.s x.Name,.i .i64 x.Rel.Arity,.sl false [.sl false [.i .i64 0,.s []] []] (x.Rel.Rows.map (c7.cells false false))]]])] [] (.one (false,[.sl true [.sl false [.i .i64 0,.s []] []] ((l.filter fun t=>!s8 x.Rel.Rows t).map (c7.cells false false))])):=by
 obtain⟨⟨hx,hl⟩,hn⟩:=hpre;exact d5R b6F z0L (cf:=c7.cells false false) (z:=[.sl false [.i .i64 0,.s []] []]) rfl (fun _=>rfl) d1h (dom:=fun t=>a0t t=true) (fun t=>s8 x.Rel.Rows t) (enters_of Tryz.func115 z0L rfl) (caps:=[.p (c9.cells false false x)]) (fun h=>by
  unfold C.RdVals C.Rd at h;obtain⟨v,vs',f1,f2,_,rfl,⟨h1,_⟩,h2⟩:=h;unfold C.RdVals at h2;rw[h1,h2.2];rfl) (fun t ht=>b1a t x ⟨hx,ht⟩) l (c1x l x ⟨hx,hl⟩) hl z0D
noncomputable def b1D:CT:=n9 (fun(x:(List c7)×c9) h=>d4j x.1 x.2 h)
@[go_sem] def c4b:=fun l x0 x1 x2=>nm' (fP' b1D rfl (l,⟨x0,⟨x1,x2⟩⟩))
def c4c:OkC Tryz.prog 113 b1D:=a4p _
def d4k(l:List c7)(x:c9)(P:List c7)(M:List c7)(hpre:(y8 x.Rel=true/\∀t∈l,a0t t=true)/\l.length<=1000000):spZ 113 [(false,[.sl true [.sl false [.i .i64 0,.s []] []] (l.map (c7.cells false false))]),(false,[.f 117 [.p [.s x.Name,.i .i64 x.Rel.Arity,.sl false [.sl false [.i .i64 0,.s []] []] (x.Rel.Rows.map (c7.cells false false))],.p [.f 109 []],.p [.sl false [.sl false [.i .i64 0,.s []] []] [],.sl false [.sl false [.i .i64 0,.s []] []] [],.sl false [.sl false [.i .i64 0,.s []] []] (P.map (c7.cells false false)),.sl false [.sl false [.i .i64 0,.s []] []] (M.map (c7.cells false false))]]])] [] (.one (false,[.sl true [.sl false [.i .i64 0,.s []] []] ((l.filter fun t=>!(!s8 x.Rel.Rows t||s8 P t)).map (c7.cells false false))])):=by
 obtain⟨⟨hx,hl⟩,hn⟩:=hpre;exact d5R b6F z0L (cf:=c7.cells false false) (z:=[.sl false [.i .i64 0,.s []] []]) rfl (fun _=>rfl) d1h (dom:=fun t=>a0t t=true) (fun t=>!s8 x.Rel.Rows t||s8 P t) (enters_of Tryz.func117 z0L rfl) (caps:=[.p (c9.cells false false x),.p [.f 109 []],.p [.sl false [.sl false [.i .i64 0,.s []] []] [],.sl false [.sl false [.i .i64 0,.s []] []] [],.sl false [.sl false [.i .i64 0,.s []] []] (P.map (c7.cells false false)),.sl false [.sl false [.i .i64 0,.s []] []] (M.map (c7.cells false false))]]) (fun h=>by
  unfold C.RdVals C.Rd at h;obtain⟨v,vs',f1,f2,_,rfl,⟨h1,_⟩,h2⟩:=h;unfold C.RdVals C.Rd at h2;obtain⟨v,vs',f1,f2,_,rfl,⟨h3,_⟩,h2⟩:=h2;unfold C.RdVals C.Rd at h2;obtain⟨v,vs',f1,f2,_,rfl,⟨h4,_⟩,h2⟩:=h2;unfold C.RdVals at h2;rw[h1,h3,h4,h2.2];rfl) (fun t ht=>b1b t x P M ⟨hx,ht⟩) l (c1y l x P M ⟨hx,hl⟩) hl z0D
noncomputable def b1E:CT:=n9 (fun(x:(List c7)×c9×(List c7)×(List c7)) h=>d4k x.1 x.2.1 x.2.2.1 x.2.2.2 h)
@[go_sem] def c4d:=fun l x0 x1 x2 P M=>nm' (fP' b1E rfl (l,⟨x0,⟨x1,x2⟩⟩,P,M))
def c4e:OkC Tryz.prog 113 b1E:=a4p _
end Go.Aw
