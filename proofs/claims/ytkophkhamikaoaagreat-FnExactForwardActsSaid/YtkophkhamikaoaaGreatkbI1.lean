/- Levels: the program's. No condition. -/
import Derived.Test.YtkophkhamikaoaaGreatkbT13
import Derived.Test.YtkophkhamikaoaaGreatlBx11kb
namespace Go.Aw
set_option maxHeartbeats 4000000
open Go.Proofs
attribute [local irreducible] aft blk lpK retK AW A0e
set_option linter.all false
set_option maxRecDepth 100000
def a3H(l:List f5)(v:List UInt8):Int:=((l.find? fun x=>x.Name==v).map f5.N).getD 0
def a1Q(l:List f5)(v:List UInt8):Int:=((l.find? fun x=>x.Name==v).map f5.N).getD (-1)
variable{x:Int}{g:Lev}{h v:List UInt8}{a b:List d8}{i:Nat}
def b3T{p:c4}(g:Lev):(v∈vwS p->(lvl p g).find? (fun x=>x.Name==v)=some ⟨v,g v⟩)/\(¬v∈vwS p->(lvl p g).find? (fun x=>x.Name==v)=none):=by
 unfold lvl;generalize vwS p=V
 induction V with
 | nil=>exact⟨fun h=>by simp at h,fun _=>rfl⟩
 | cons x V ih=>
   refine⟨fun h=>?_,fun h=>?_⟩
   ·by_cases e:x=v
    ·subst e;simp
    ·have hv:v∈V:=by
      rcases q0B.1 h with h|h
      ·exact absurd h.symm e
      ·exact h
     rw[q0D,List.find?_cons_of_neg z2Q];exact ih.1 hv
   ·simp only[q0B,not_or]at h;rw[q0D,List.find?_cons_of_neg (by simpa using fun e=>h.1 e.symm)];exact ih.2 h.2
def a6S{p:c4}(g:Lev)(h:v∈vwS p):a3H (lvl p g) v=g v:=by rw[a3H,(b3T g).1 h];rfl
def c5U{p:c4}(g:Lev)(h:v∈vwS p):a1Q (lvl p g) v=g v:=by rw[a1Q,(b3T g).1 h];rfl
def d0L{p:c4}(g:Lev)(h:¬v∈vwS p):a1Q (lvl p g) v=-1:=by rw[a1Q,(b3T g).2 h];rfl
def e1X{p:c4}(g:Lev)(h:¬v∈vwS p):a3H (lvl p g) v=0:=by rw[a3H,(b3T g).2 h];rfl
def lvl_idx{p:c4}(hv:h∈vwS p):∃m,m<(vwS p).length/\(vwS p).getD m []=h/\(∀g,a0A (fun y:f5=>y.Name==h) (lvl p g)=(m:Int))/\(∀g,(lvl p g).getD m default=⟨h,g h⟩)/\∀g x,(lvl p g).set m ⟨h,x⟩=lvl p (upd g h x):=by
 obtain⟨m,hm,e⟩:=q1I hv;have e0:(vwS p).getD m []=h:=by rw[k8 [] hm,e]
 have hg:∀g,(lvl p g).getD m default=⟨h,g h⟩:=fun g=>by rw[d0R p g hm,e0]
 refine⟨m,hm,e0,fun g=>?_,hg,fun g x=>?_⟩
 ·refine y5 (d:=default) (by rw[a7r];exact hm) ?_ (by rw[hg];simp);rw[q2J];intro y hy;obtain⟨j,hj,rfl⟩:=q2R.1 hy;have hj2:j<(vwS p).length:=by rw[a7r]at hj;omega
  have hne:(vwS p)[j]≠h:=fun e2=>by
   have:=(List.getElem_inj (b6n p)).1 (e2.trans e.symm);omega
  simpa[lvl]using hne
 ·have:=d6q p g hm x;rw[e0]at this;exact this
def d9v{p:c4}(hd:∀j,j<p.Decls.length->z5 p j=false):(vwN p).Nodup:=by
 have h1:(p.Decls.map f7.Name).Nodup:=by
  rw[List.nodup_iff_pairwise_ne,q4H,q2X];intro i j hi hj hij;have:=a7t hd hj (j:=i) hij;rw[k8 default hi,k8 default hj]at this;exact this
 exact h1.sublist (List.filter_sublist.map _)
def c8B{p:c4}(h:a0g p=true):(vwS p).length<=16:=by
 have h1:=a0u sLt (vwN p) [];have h2:=b5o (fun d:f7=>d.Kind==3) f7.Name p.Decls;simp only[a0g,K7]at h;simp only[q1R]at h1;rw[vwS];show _<=16;have h3:(vwN p).length<=p.Decls.length:=h2;omega
def c1R(l:List f5)(v:List UInt8):spZ 147 [(false,[a9R l]),(false,[.s v])] [] (.one (false,[.i .i64 (a3H l v)])):=by
 refine sy' Tryz.func147 (q' 4 [aK 0] (.seq (q' 7 [am 0,aN,aK 0] (fO 0 10 [ar 9 8] 10 1 (q' 11 [ai 2 7 9,aE 2,ax (w' 6 [.s,.i .i64]),aS 2 6 12] (q' 13 [aG 0 6,am 1,aD .eql 14 15] (ci 16 (q' 17 [aG 1 6,aV 4] .ret)))) (g' 19 [aA 9]))) (q' 4 [aK 0] .ret))) [.t 4] [] ?_;intro hb hE;simp only[go_sem];repeat' first|apply cj'|intro hc|exact om'|fail
 refine lq' false [1,7,8] [] [] (fun i:{i:Nat // i<=l.length/\(l.take i).any (fun d=>d.Name==v)=false}=>[(9,slV (.i .i64 i.1))]) nl' nl' (fun i=>l.length-i.1) (⟨0,z0E⟩) ?_;intro S0 hS0 i;obtain⟨i,hi,ha⟩:=i;simp only[go_sem,hS0];repeat' first|apply cj'|intro hc|exact om'|fail
 ·rw[a3H,c7r (d:=default) (i:=i) z0D ha hc];rfl
 ·exact nx0 ⟨i+1,z0D,u6 (p:=fun d:f5=>d.Name==v) default z0D ha hc⟩
 ·rw[a3H,a9O z0K];rfl
noncomputable def a8S:CT:=l4 (fun(x:(List f5)×(List UInt8))=>c1R x.1 x.2)
@[go_sem] def d5c:=fun l v=>nm' (fQ' a8S rfl (l,v))
def b8i(x:f5)(r:c8):spZ 145 [(true,[.s x.Name,.i .i64 x.N]),(false,[.p [.i .i64 r.Kind,.s r.Head.Name,o6 r.Head.Args,a0s r.Body]])] [] (.one (false,[.b (x.Name==r.Head.Name)])):=by
 refine sy' Tryz.func145 (q' 2 [aX 2 0,aU false] (q' 4 [aG 0 2,af 1 1,aG 0 6,aD .eql 5 8,aV 3] .ret)) [.t 3] [] ?_;intro hb hE;simp only[go_sem];repeat' first|apply cj'|intro hc|exact om'|fail
 all_goals(first|rfl)
noncomputable def a7B:CT:=l4 (fun(x:f5×c8)=>b8i x.1 x.2)
@[go_sem] def d2X:=fun x0 x1 x2 x3 x4 x5=>nm' (fQ' a7B rfl (⟨x0,x1⟩,⟨x2,⟨x3,x4⟩,x5⟩))
def c7J(l:List f5)(r:c8):spZ 144 [(false,[a9R l]),(false,[.f 145 [.p [.i .i64 r.Kind,.s r.Head.Name,o6 r.Head.Args,a0s r.Body]]])] [] (.one (false,[.i .i64 (a0A (fun y:f5=>y.Name==r.Head.Name) l)])):=by
 refine sy' Tryz.func144 (q' 4 [aK 0] (.seq (q' 6 [am 0,aN,aK 0] (fO 0 9 [ar 8 7] 9 1 (q' 10 [am 8,aV 5] (q' 11 [aM [1,0,5],aI 2,aE 2,ao (.callv (.t 11) [.t 15])] (ci 16 (q' 17 [am 5,aV 4] .ret)))) (g' 18 [aA 8]))) (q' 4 [ao (.mov (.k (.v false [.c (.i .i64 (-1))])))] .ret))) [.t 4] [(145,[],a7B)] ?_;intro hb hE;simp only[go_sem];repeat' first|apply cj'|intro hc|exact om'|fail
 refine lq' false [0,1,7] [] [] (fun i:{i:Nat // i<=l.length/\(l.take i).any (fun y:f5=>y.Name==r.Head.Name)=false}=>[(8,slV (.i .i64 i.1))]) nl' nl' (fun i=>l.length-i.1) (⟨0,z0E⟩) ?_;intro S0 hS0 i;obtain⟨i,hi,ha⟩:=i;simp only[go_sem,hS0];repeat' first|apply cj'|intro hc|exact om'|fail
 ·exact(y5 (p:=fun y:f5=>y.Name==r.Head.Name) (d:=default) z0D ha z0F).symm
 ·exact nx0 ⟨i+1,z0D,u6 (p:=fun y:f5=>y.Name==r.Head.Name) default z0D ha z0F⟩
 ·exact(w9 z0K).symm
noncomputable def b2F:CT:=l4 (fun(x:(List f5)×c8)=>c7J x.1 x.2)
@[go_sem] def d9A:=fun l x0 x1 x2 x3=>nm' (fQ' b2F rfl (l,⟨x0,⟨x1,x2⟩,x3⟩))
def c9S(l:List f7):List f5:=(l.filter fun d=>d.Kind==3).map fun d=>⟨d.Name,0⟩
def e1l(l:List f7):(c9S l).length<=l.length:=b5o _ _ _
def d8D{p:c4}(hd:∀j,j<p.Decls.length->z5 p j=false):c8u (c9S p.Decls)=lvl p fun _=>0:=by
 have e:c9S p.Decls=(vwN p).map fun v=>(⟨v,0⟩:f5):=by rw[vwN,q4L];rfl
 rw[e,d1q (d9v hd)];rfl
def a9U{p:c4}{g3:Lev}{r:c8}{l:e8}{j:Nat}(hr:r∈p.Rules)(hv:r.Head.Name∈vwS p)(hl:l∈r.Body)(hk:l.Kind≠3)(hb:l.Atom.Name∈vwS p)(hL:Low p g3)(ho:∀v∈vwS p,v≠r.Head.Name->g3 v<=(vwS p).length)(hh:g3 r.Head.Name<=(vwS p).length+j)(hj:j<=300)(hx:x=g3 l.Atom.Name+a9E l)(hlt:g3 r.Head.Name<x)(hM:a3J p g3<=a3J p g):
  Low p (upd g3 r.Head.Name x)/\(∀v∈vwS p,v≠r.Head.Name->upd g3 r.Head.Name x v<=(vwS p).length)/\upd g3 r.Head.Name x r.Head.Name<=(vwS p).length+(j+1:Nat)/\a3J p (upd g3 r.Head.Name x)<a3J p g:=by
 have hn:a9E l<=1:=by unfold a9E;split<;>omega
 have hb2:g3 l.Atom.Name<=(vwS p).length+j:=by
  by_cases e:l.Atom.Name=r.Head.Name
  ·rw[e];exact hh
  ·have:=ho _ hb e;omega
 refine⟨by rw[hx];exact hL.up hr hv hl hk hb,fun v hv2 hne=>?_, ?_, ?_⟩
 ·rw[upd,if_neg hne];exact ho v hv2 hne
 ·rw[upd,if_pos rfl];omega
 ·have:=lsum_lt (g:=g3) (n:=x) hv hlt z0D;omega
def c5Y{p:c4}{l:e8}(hk:(l.Kind==3)=true):a3I p g h l:=fun h=>absurd (by simpa using hk) h
def c5Z{p:c4}{l:e8}(hk:¬l.Atom.Name∈vwS p):a3I p g h l:=fun _ h=>absurd h hk
def d4q{p:c4}{l:e8}(hx:x=g l.Atom.Name+a9E l)(hn:¬g h<x):a3I p g h l:=fun _ _=>z0D
def c2L{l:e8}(h:(l.Kind==2)=true):a9E l=1:=by rw[a9E,if_pos z05]
def c8p{l:e8}(h:(l.Kind==2)=false):a9E l=0:=by rw[a9E,if_neg z05]
def c4l(p:c4):spZ 97 [(true,[p6 p.Decls,o9 p.Rules])] [] (.tup [(false,[kTLevel ((j8 p).1)]),(false,[.b ((j8 p).2)])]):=by
 refine sy' Tryz.func97 (q' 1 [aX 2 0,ao (.mov (.k (.v false [.nl a1c]))),aU false] (.seq (q' 14 [ae 2 1,ac 101 [14],aO 15] (ci 16 (q' 2 [ao (.mov (.k (.v false [.nl a1c]))),aU false] .ret))) (q' 17 [ao (.bsl 2 0 [.s,.i .i64] []),aV 4] (.seq (q' 18 [aG 0 1,aN,aK 0] (fO 0 22 [ar 21 20] 22 1 (q' 23 [ai 3 19 21,aE 3,ax (w' 6 [.i .i64,.s,.i .i64]),aS 3 6 24] (q' 25 [aG 0 6,aC .eql 26 3] (ci 27 (g' 28 [am 4,aG 1 6,ao (.bld [.s,.i .i64] [(0,1,.t 30)]),ao (.bsl 2 1 [.s,.i .i64] [(0,.t 31)]),ao (.app 2 24 [.s,.i .i64] (.t 28) (.t 32)),aV 4])))) (g' 34 [aA 21]))) (q' 35 [am 4,ao (.call 140 [.t 35,.k (.v false [.c (.f 141 [])])])] (.seq (q' 7 [aU true] (lO 2 (.seq (q' 37 [am 7] (cd 37 .skip (.exit 2))) (.block 3 (q' 7 [aU false] (q' 38 [aG 1 1,aN,aK 0] (fO 4 42 [ar 41 40] 42 5 (q' 43 [ai 4 39 41,aE 4,ax (w' 9 [.i .i64,.s,.sl k9,.sl a9K]),aS 4 9 44] (.seq (q' 45 [ae 2 1,ae 4 9,ac 143 [45,46],aO 47] (ci 48 (.exit 5))) (q' 49 [am 4,ao (.mf 145 [.t 9]),ac 144 [49,50],aV 10] (.seq (q' 52 [aG 3 9,aN,aK 0] (fO 6 56 [ar 55 54] 56 7 (q' 57 [ai 10 53 55,aE 10,ax (w' 12 [.i .i64,.s,.sl k9,.i .i64,.s,.i .i64,.s,.s,.i .i64,.s]),aS 10 12 58] (.seq (q' 59 [aG 0 12,aC .eql 60 3,am 61,aH 62 false [be 2 1,bf 1 12,bF 0,bL,bc 146 [63,66],bC .neq 67 3],aQ 62 68] (ci 69 (.exit 7))) (q' 70 [am 4,af 1 12,aG 0 71,ac 147 [70,73],aV 13] (.seq (q' 75 [aG 0 12,aC .eql 76 2] (ci 77 (g' 78 [aB 13]))) (q' 80 [aM [4,10],aI 2,aG 1 82,am 13,ar 84 85] (ci 86 (q' 87 [aM [4,10,13],ai 2 87 88,aF 1,aS 1 91 89] (g' 7 [aU true])))))))) (g' 92 [aA 55]))) (q' 93 [aM [4,10],aI 2,aG 1 95,am 4,aN,aD .gtr 97 99] (ci 100 (q' 2 [ao (.mov (.k (.v false [.nl a1c]))),aU false] .ret))))))) (g' 101 [aA 41])))))))) (q' 102 [am 4,aV 2,ab 3 true] .ret))))))) [.t 2,.t 3] [(101,[],a2I),(140,[0],c5H),(143,[],a2H),(144,[],b2F),(146,[],a1x),(147,[],a8S)] ?_;intro hb hE;simp only[go_sem];repeat' first|apply cj'|intro hc|exact om'|fail
 ·rw[j8,hc];exact⟨rfl,rfl⟩
 have hN:((p7 p).1==0)=true:=hc;have hok:=a2R (by simpa using hN);obtain⟨hB,hD,hRb⟩:=hok;have hdl:p.Decls.length<=16:=by
  have:=hB;simp only[a0g,K7]at this;omega
 have hvl:=c8B hB;clear hc;refine lk' false [(false,4,0,100008)] [1,19,20] [2] [] (fun i:{i:Nat // i<=p.Decls.length}=>[(4,.v false [.ow 100008]),(21,slV (.i .i64 i.1))]) nl' (fun i=>[(100008,a1c,(c9S (p.Decls.take i.1)).map f5.cells)]) (fun i=>p.Decls.length-i.1) (⟨0,z0E⟩) ?_;intro S0 hS0 i;obtain⟨i,hi⟩:=i;have hl:=e1l (p.Decls.take i);rw[V1]at hl;simp only[go_sem,hS0];repeat' first|apply cj'|intro hc|exact om'|fail
 ·(refine lpK_n2 (⟨i+1,z0D⟩) _ z0H ?_;simp only[go_sem,hS0]<;>repeat' first|apply W6|exact on'|fail)
  rw[show c9S (p.Decls.take (i+1))=c9S (p.Decls.take i)++[⟨(p.Decls.getD i default).Name,0⟩]from a7n (p:=fun d:f7=>d.Kind==3) (fun d:f7=>(⟨d.Name,0⟩:f5)) default z0D hc];first|done|(rw[q1B];rfl)|trace_state
 ·(refine lpK_n2 (⟨i+1,z0D⟩) _ z0H ?_;simp only[go_sem,hS0]<;>repeat' first|apply W6|exact on'|fail)
  rw[show c9S (p.Decls.take (i+1))=c9S (p.Decls.take i)from b3r (p:=fun d:f7=>d.Kind==3) (fun d:f7=>(⟨d.Name,0⟩:f5)) default z0D hc]
 rw[j5 z0D,d8D hD];clear hc hl hi;refine lq' false [1,4] [2] [] (fun i:{q:Bool×Lev // Low p q.2/\(∀v∈vwS p,q.2 v<=(vwS p).length)/\(q.1=false->Fx p q.2)}=>[(7,slV (.b i.1.1))]) nl' (fun i=>[(100008,a1c,(lvl p i.1.2).map f5.cells)]) (fun i=>2*a3J p i.1.2+(bif i.1.1 then 1 else 0)) (⟨(true,fun _=>0),Low.zero p,fun v _=>z0G,by intro h;cases h⟩) ?_;intro S1 hS1 i;obtain⟨⟨ag,g⟩,hL,hle,hF⟩:=i;simp only at hL hle hF;simp only[go_sem,hS0,hS1];repeat' first|apply cj'|intro hc|exact om'|fail
 ·have hag:=hc;clear hc;refine lq' false [1,4,39,40] [2] [] (fun i:{q:Nat×Bool×Lev // q.1<=p.Rules.length/\Low p q.2.2/\(∀v∈vwS p,q.2.2 v<=(vwS p).length)/\(q.2.1=false->q.2.2=g/\∀r∈p.Rules.take q.1,a0X p g r)/\(q.2.1=true->a3J p q.2.2<a3J p g)}=>[(7,slV (.b i.1.2.1)),(41,slV (.i .i64 i.1.1))]) nl' (fun i=>[(100008,a1c,(lvl p i.1.2.2).map f5.cells)]) (fun i=>p.Rules.length-i.1.1) (⟨(0,false,g),z0E,hL,hle,fun _=>⟨rfl,z0E⟩,by intro h;cases h⟩) ?_;intro S2 hS2 i;obtain⟨⟨n,ag2,g2⟩,hn,hL2,hle2,hF2,hM2⟩:=i;simp only at hn hL2 hle2 hF2 hM2;simp only[go_sem,hS0,hS1,hS2];repeat' first|apply cj'|intro hc|exact om'|fail
  ·have h3:ag2=false->g2=g/\∀r∈p.Rules.take (n+1),a0X p g r:=fun h=>by
    refine⟨(hF2 h).1,fun r hr=>?_⟩;rw[j6 default z0D,V0,q0E]at hr;rcases hr with hr|rfl
    ·exact(hF2 h).2 r hr
    ·intro hv;have hk3:=(a2w hD).2 hv;have hk1:=c1o hRb z0D hk3;rw[hk1,hk3]at hc;exact absurd hc (by decide)
   (refine lpK_n2 (⟨(n+1,ag2,g2),z0G,hL2,hle2,h3,hM2⟩) _ rfl ?_;simp only[go_sem,hS0,hS1,hS2]<;>repeat' first|apply W6|exact on'|fail)
  ·have hk:=hc;have hnl:n<p.Rules.length:=by omega
   clear hc;have hb8:=c9p hB hnl;have hv:(p.Rules.getD n default).Head.Name∈vwS p:=(a2w hD).1 (by simpa using hk.2);obtain⟨m,hm,hme,hix,hgm,hsm⟩:=lvl_idx hv;have hll:=a7r p;refine lq' false [1,4,10,39,40,41,53,54] [2] [] (fun i:{q:Nat×Bool×Lev // q.1<=(p.Rules.getD n default).Body.length/\Low p q.2.2/\(∀v∈vwS p,v≠(p.Rules.getD n default).Head.Name->q.2.2 v<=(vwS p).length)/\q.2.2 (p.Rules.getD n default).Head.Name<=(vwS p).length+(q.1:Nat)/\(q.2.1=false->q.2.2=g/\(∀r∈p.Rules.take n,a0X p g r)/\∀l∈(p.Rules.getD n default).Body.take q.1,a3I p g (p.Rules.getD n default).Head.Name l)/\(q.2.1=true->a3J p q.2.2<a3J p g)}=>[(7,slV (.b i.1.2.1)),(55,slV (.i .i64 i.1.1))]) nl' (fun i=>[(100008,a1c,(lvl p i.1.2.2).map f5.cells)]) (fun i=>(p.Rules.getD n default).Body.length-i.1.1) (⟨(0,ag2,g2),z0E,hL2,fun v hv2 _=>hle2 v hv2,by simp only;have:=hle2 _ hv;omega,fun h=>⟨(hF2 h).1,(hF2 h).2,z0E⟩,hM2⟩) ?_;intro S3 hS3 i;obtain⟨⟨j,ag3,g3⟩,hj,hL3,ho3,hh3,hF3,hM3⟩:=i;simp only at hj hL3 ho3 hh3 hF3 hM3;have hLb:∀v,0<=a3H (lvl p g3) v/\a3H (lvl p g3) v<=40:=fun v=>by
    by_cases e:v∈vwS p
    ·rw[a6S g3 e];refine⟨hL3.ge v, ?_⟩;by_cases e2:v=(p.Rules.getD n default).Head.Name
     ·rw[e2];omega
     ·have:=ho3 v e e2;omega
    ·rw[e1X g3 e];omega
   have hw:∀v,IntKind.i64.wrap (a3H (lvl p g3) v+1)=a3H (lvl p g3) v+1:=fun v=>by have:=hLb v;exact w64 z0D z0D (by omega)
   simp only[go_sem,hS0,hS1,hS2,hix,hgm,hsm,hll,hS3,hw];repeat' first|apply cj'|intro hc|exact om'|fail
   ·have h3:ag3=false->g3=g/\(∀r∈p.Rules.take n,a0X p g r)/\∀l∈(p.Rules.getD n default).Body.take (j+1),a3I p g (p.Rules.getD n default).Head.Name l:=fun h=>by
     refine⟨(hF3 h).1,(hF3 h).2.1,fun l hl=>?_⟩;rw[j6 default z0D,V0,q0E]at hl;rcases hl with hl|rfl
     ·exact(hF3 h).2.2 l hl
     ·rcases hc with hc|hc
      ·exact c5Y hc
      ·refine c5Z fun hv3=>?_
       rw[(a2w hD).2 hv3]at hc;exact absurd hc (by decide)
    (refine lpK_n2 (⟨(j+1,ag3,g3),z0G,hL3,ho3,z0G,h3,hM3⟩) _ rfl ?_;simp only[go_sem,hS0,hS1,hS2,hix,hgm,hsm,hll,hS3,hw]<;>repeat' first|apply W6|exact on'|fail)
   ·have hq:(((p.Rules.getD n default).Body.getD j default).Kind==3)=false/\(a0P p ((p.Rules.getD n default).Body.getD j default).Atom.Name != 3)=false:=by assumption
    have hq2:(((p.Rules.getD n default).Body.getD j default).Kind==2)=true:=by assumption
    have hvv:((p.Rules.getD n default).Body.getD j default).Atom.Name∈vwS p:=(a2w hD).1 z16;have hjl:j<(p.Rules.getD n default).Body.length:=by omega
    have hrm:p.Rules.getD n default∈p.Rules:=A3y hnl;have hlm:((p.Rules.getD n default).Body.getD j default)∈(p.Rules.getD n default).Body:=A3y hjl;have hkk:((p.Rules.getD n default).Body.getD j default).Kind≠3:=fun e=>by have:=hq.1;rw[e]at this;exact absurd this (by decide)
    have e:a3H (lvl p g3) ((p.Rules.getD n default).Body.getD j default).Atom.Name+1=g3 ((p.Rules.getD n default).Body.getD j default).Atom.Name+a9E ((p.Rules.getD n default).Body.getD j default):=by rw[a6S g3 hvv,c2L hq2]
    have hMM:a3J p g3<=a3J p g:=by
     cases hag3:ag3 with
     | true=>exact Nat.le_of_lt (hM3 hag3)
     | false=>rw[(hF3 hag3).1];exact q0F _
    have R:=a9U hrm hv hlm hkk hvv hL3 ho3 hh3 z0D e hc hMM
    (refine lpK_n2 (⟨(j+1,true,upd g3 (p.Rules.getD n default).Head.Name (a3H (lvl p g3) ((p.Rules.getD n default).Body.getD j default).Atom.Name+1)),z0G,R.1,R.2.1,R.2.2.1,fun h=>(by cases h),fun _=>R.2.2.2⟩) _ rfl ?_;simp only[go_sem,hS0,hS1,hS2,hix,hgm,hsm,hll,hS3,hw]<;>repeat' first|apply W6|exact on'|fail)
   ·have hq:(((p.Rules.getD n default).Body.getD j default).Kind==3)=false/\(a0P p ((p.Rules.getD n default).Body.getD j default).Atom.Name != 3)=false:=by assumption
    have hq2:(((p.Rules.getD n default).Body.getD j default).Kind==2)=true:=by assumption
    have hvv:((p.Rules.getD n default).Body.getD j default).Atom.Name∈vwS p:=(a2w hD).1 z16;have hjl:j<(p.Rules.getD n default).Body.length:=by omega
    have hrm:p.Rules.getD n default∈p.Rules:=A3y hnl;have hlm:((p.Rules.getD n default).Body.getD j default)∈(p.Rules.getD n default).Body:=A3y hjl;have e:a3H (lvl p g3) ((p.Rules.getD n default).Body.getD j default).Atom.Name+1=g3 ((p.Rules.getD n default).Body.getD j default).Atom.Name+a9E ((p.Rules.getD n default).Body.getD j default):=by rw[a6S g3 hvv,c2L hq2]
    have h3:ag3=false->g3=g/\(∀r∈p.Rules.take n,a0X p g r)/\∀l∈(p.Rules.getD n default).Body.take (j+1),a3I p g (p.Rules.getD n default).Head.Name l:=fun h=>by
     refine⟨(hF3 h).1,(hF3 h).2.1,fun l hl=>?_⟩;rw[j6 default z0D,V0,q0E]at hl;rcases hl with hl|rfl
     ·exact(hF3 h).2.2 l hl
     ·have:=(hF3 h).1;rw[<-this];exact d4q e hc
    (refine lpK_n2 (⟨(j+1,ag3,g3),z0G,hL3,ho3,z0G,h3,hM3⟩) _ rfl ?_;simp only[go_sem,hS0,hS1,hS2,hix,hgm,hsm,hll,hS3,hw]<;>repeat' first|apply W6|exact on'|fail)
   ·have hq:(((p.Rules.getD n default).Body.getD j default).Kind==3)=false/\(a0P p ((p.Rules.getD n default).Body.getD j default).Atom.Name != 3)=false:=by assumption
    have hq2:(((p.Rules.getD n default).Body.getD j default).Kind==2)=false:=by assumption
    have hvv:((p.Rules.getD n default).Body.getD j default).Atom.Name∈vwS p:=(a2w hD).1 z16;have hjl:j<(p.Rules.getD n default).Body.length:=by omega
    have hrm:p.Rules.getD n default∈p.Rules:=A3y hnl;have hlm:((p.Rules.getD n default).Body.getD j default)∈(p.Rules.getD n default).Body:=A3y hjl;have hkk:((p.Rules.getD n default).Body.getD j default).Kind≠3:=fun e=>by have:=hq.1;rw[e]at this;exact absurd this (by decide)
    have e:a3H (lvl p g3) ((p.Rules.getD n default).Body.getD j default).Atom.Name=g3 ((p.Rules.getD n default).Body.getD j default).Atom.Name+a9E ((p.Rules.getD n default).Body.getD j default):=by rw[a6S g3 hvv,c8p hq2];omega
    have hMM:a3J p g3<=a3J p g:=by
     cases hag3:ag3 with
     | true=>exact Nat.le_of_lt (hM3 hag3)
     | false=>rw[(hF3 hag3).1];exact q0F _
    have R:=a9U hrm hv hlm hkk hvv hL3 ho3 hh3 z0D e hc hMM
    (refine lpK_n2 (⟨(j+1,true,upd g3 (p.Rules.getD n default).Head.Name (a3H (lvl p g3) ((p.Rules.getD n default).Body.getD j default).Atom.Name)),z0G,R.1,R.2.1,R.2.2.1,fun h=>(by cases h),fun _=>R.2.2.2⟩) _ rfl ?_;simp only[go_sem,hS0,hS1,hS2,hix,hgm,hsm,hll,hS3,hw]<;>repeat' first|apply W6|exact on'|fail)
   ·have hq:(((p.Rules.getD n default).Body.getD j default).Kind==3)=false/\(a0P p ((p.Rules.getD n default).Body.getD j default).Atom.Name != 3)=false:=by assumption
    have hq2:(((p.Rules.getD n default).Body.getD j default).Kind==2)=false:=by assumption
    have hvv:((p.Rules.getD n default).Body.getD j default).Atom.Name∈vwS p:=(a2w hD).1 z16;have hjl:j<(p.Rules.getD n default).Body.length:=by omega
    have hrm:p.Rules.getD n default∈p.Rules:=A3y hnl;have hlm:((p.Rules.getD n default).Body.getD j default)∈(p.Rules.getD n default).Body:=A3y hjl;have e:a3H (lvl p g3) ((p.Rules.getD n default).Body.getD j default).Atom.Name=g3 ((p.Rules.getD n default).Body.getD j default).Atom.Name+a9E ((p.Rules.getD n default).Body.getD j default):=by rw[a6S g3 hvv,c8p hq2];omega
    have h3:ag3=false->g3=g/\(∀r∈p.Rules.take n,a0X p g r)/\∀l∈(p.Rules.getD n default).Body.take (j+1),a3I p g (p.Rules.getD n default).Head.Name l:=fun h=>by
     refine⟨(hF3 h).1,(hF3 h).2.1,fun l hl=>?_⟩;rw[j6 default z0D,V0,q0E]at hl;rcases hl with hl|rfl
     ·exact(hF3 h).2.2 l hl
     ·have:=(hF3 h).1;rw[<-this];exact d4q e hc
    (refine lpK_n2 (⟨(j+1,ag3,g3),z0G,hL3,ho3,z0G,h3,hM3⟩) _ rfl ?_;simp only[go_sem,hS0,hS1,hS2,hix,hgm,hsm,hll,hS3,hw]<;>repeat' first|apply W6|exact on'|fail)
   ·rw[c5X hL3 hv hc];exact⟨rfl,rfl⟩
   ·have h1:∀v∈vwS p,g3 v<=(vwS p).length:=fun v hv2=>by
     by_cases e:v=(p.Rules.getD n default).Head.Name
     ·rw[e];omega
     ·exact ho3 v hv2 e
    have h3:ag3=false->g3=g/\∀r∈p.Rules.take (n+1),a0X p g r:=fun h=>by
     refine⟨(hF3 h).1,fun r hr=>?_⟩;rw[j6 default z0D,V0,q0E]at hr;rcases hr with hr|rfl
     ·exact(hF3 h).2.1 r hr
     ·intro _ l hl;refine(hF3 h).2.2 l ?_;rw[j5 z0D];exact hl
    (refine lpK_n2 (⟨(n+1,ag3,g3),z0G,hL3,h1,h3,hM3⟩) _ rfl ?_;simp only[go_sem,hS0,hS1,hS2,hix,hgm,hsm,hll,hS3,hw]<;>repeat' first|apply W6|exact on'|fail)
  ·have h3:ag2=false->Fx p g2:=fun h=>by
    have h5:=hF2 h;rw[j5 z0D]at h5;rw[h5.1];exact h5.2
   have hmm:ag2=false->g2=g:=fun h=>(hF2 h).1
   (refine lpK_n2 (⟨(ag2,g2),hL2,hle2,h3⟩) _ rfl ?_;simp only[go_sem,hS0,hS1,hS2]<;>repeat' first|apply W6|exact on'|fail)
   cases hag2:ag2 with
   | false=>rw[hmm hag2,hag];simp only[z0C];omega
   | true=>have:=hM2 hag2;rw[hag];simp only[W8];omega
 ·rw[c2F hN ⟨hF hc,hL,hle⟩];exact⟨rfl,rfl⟩
noncomputable def a5L:CT:=l4 (fun(x:c4)=>c4l x)
@[go_sem] def d7v:=fun x0 x1=>nm' (fQ' a5L rfl ⟨x0,x1⟩)
def a1P(p:c4)(k:Int):List f7:=p.Decls.filter fun d=>d.Kind==k
@[go_sem] def l12Set_nil(l:List c9)(n:List UInt8)(a:Int):a6c [(true,[j7 l]),(false,[.s n]),(true,[.i .i64 a,.sl false k7 []])]=some (((∀x∈l,x.Rel.Rows=[])/\True)/\l.length<=1000,[],.one (true,[j7 (a1D l n ⟨n,⟨a,[]⟩⟩)])):=by
 have h:=b5h l n a [];simpa using h
def b6G(l:List f7)(d:f7):a0r (l++[d])=a1D (a0r l) d.Name ⟨d.Name,⟨d.Arity,[]⟩⟩:=by rw[a0r,q2V];rfl
@[go_sem] def emptyN_nil:a0r []=[]:=rfl
def b8P(p:c4)(k:Int)(hpre:p.Decls.length<=16):spZ 83 [(true,[p6 p.Decls,o9 p.Rules]),(false,[.i .i64 k])] [] (.one (true,[j7 ((⟨a0r (a1P p k)⟩:c6).Rels)])):=by
 refine sx' false true none Tryz.func83 (q' 2 [aX 2 0,ax (w' 4 [.sl o0])] (q' 5 [ax (o' 8 (.bld [.sl o0] [])),aw [.sl o0],aS 1 5 8] (.seq (q' 9 [aG 0 2,aN,aK 0] (fO 0 13 [ar 12 11] 13 1 (q' 14 [ai 3 10 12,aE 3,ax (w' 7 [.i .i64,.s,.i .i64]),aS 3 7 15] (q' 16 [aG 0 7,am 1,aD .eql 17 18] (ci 19 (g' 20 [ae 1 5,aG 1 7,aG 2 7,ao (.bld [.i .i64,.sl k7] [(0,1,.t 24)]),ac 84 [20,22,25],aS 1 5 26])))) (g' 27 [aA 12]))) (q' 28 [ae 1 5,aS 1 4 28] .ret)))) [.c 4 true 1] [(84,[],a6c)] ?_;intro hb hE;simp only[go_sem];repeat' first|apply cj'|intro hc|exact om'|fail
 refine c6Z false [(true,10,0,200020)] ?_;refine a2B 200020 ?_;refine lq' false [1,4,5,10,11] [8] [] (fun i:{i:Nat // i<=p.Decls.length}=>[(12,slV (.i .i64 i.1))]) (fun i=>[(10,[.c (j7 (a0r ((p.Decls.take i.1).filter fun d=>d.Kind==k)))])]) nl' (fun i=>p.Decls.length-i.1) (⟨0,z0E⟩) ?_;intro S0 hS0 i;obtain⟨i,hi⟩:=i;have h1:=b1H ((p.Decls.take i).filter fun d=>d.Kind==k);have h2:=q1F (fun d:f7=>d.Kind==k) (p.Decls.take i);have h3:=c9V ((p.Decls.take i).filter fun d=>d.Kind==k);rw[V1]at h2;simp only[go_sem,hS0];repeat' first|apply cj'|intro hc|exact om'|fail
 all_goals first
  | omega
  | exact h3
  | exact⟨h3,z0D⟩
  | ((refine lpK_n2 (⟨i+1,z0D⟩) _ rfl ?_;simp only[go_sem,hS0]<;>repeat' first|apply W6|exact on'|fail);rw[f_yes (p:=fun d:f7=>d.Kind==k) default z0D hc,b6G];done)
  | ((refine lpK_n2 (⟨i+1,z0D⟩) _ rfl ?_;simp only[go_sem,hS0]<;>repeat' first|apply W6|exact on'|fail);rw[f_no (p:=fun d:f7=>d.Kind==k) default z0D hc];done)
  | (rw[j5 z0D];rfl)
  | trace_state
noncomputable def a3X:CT:=n9 (fun(x:c4×Int) h=>b8P x.1 x.2 h)
@[go_sem] def d3C:=fun x0 x1 k=>nm' (fP' a3X rfl (⟨x0,x1⟩,k))
def c8l(l:List f5)(v:List UInt8):spZ 87 [(false,[a9R l]),(false,[.s v])] [] (.one (false,[.i .i64 (a1Q l v)])):=by
 refine sy' Tryz.func87 (q' 4 [aK 0] (.seq (q' 6 [am 0,aN,aK 0] (fO 0 9 [ar 8 7] 9 1 (q' 10 [am 8,aV 5] (q' 11 [aM [0,5],aI 2,aG 0 13,am 1,aD .eql 15 16] (ci 17 (q' 18 [aM [0,5],aI 2,aG 1 20,aV 4] .ret)))) (g' 23 [aA 8]))) (q' 4 [ao (.mov (.k (.v false [.c (.i .i64 (-1))])))] .ret))) [.t 4] [] ?_;intro hb hE;simp only[go_sem];repeat' first|apply cj'|intro hc|exact om'|fail
 refine lq' false [0,1,7] [] [] (fun i:{i:Nat // i<=l.length/\(l.take i).any (fun d=>d.Name==v)=false}=>[(8,slV (.i .i64 i.1))]) nl' nl' (fun i=>l.length-i.1) (⟨0,z0E⟩) ?_;intro S0 hS0 i;obtain⟨i,hi,ha⟩:=i;simp only[go_sem,hS0];repeat' first|apply cj'|intro hc|exact om'|fail
 ·rw[a1Q,c7r (d:=default) (i:=i) z0D ha hc];rfl
 ·exact nx0 ⟨i+1,z0D,u6 (p:=fun d:f5=>d.Name==v) default z0D ha hc⟩
 ·rw[a1Q,a9O z0K];rfl
noncomputable def b3l:CT:=l4 (fun(x:(List f5)×(List UInt8))=>c8l x.1 x.2)
@[go_sem] def e0g:=fun l v=>nm' (fQ' b3l rfl (l,v))
def relL(l:List c9):List f5:=l.map fun x=>⟨x.Name,0⟩
def e2r(p:c4):relL (a0r (a1P p 3))=lvl p fun _=>0:=by
 have h:=a7l (a1P p 3);have e:relL (a0r (a1P p 3))=((a0r (a1P p 3)).map c9.Name).map fun v=>(⟨v,0⟩:f5):=by rw[q4L];rfl
 rw[e,h];rfl
def d8X(p:c4)(k:Int):(a0r (a1P p k)).length<=p.Decls.length:=by
 have h1:=b1H (a1P p k);have h2:=q1F (fun d:f7=>d.Kind==k) p.Decls;exact q3B h1 h2
def vw_at{p:c4}{n:Nat}(hn:n<(vwS p).length):(vwS p).getD n []∈vwS p/\(∀g,(lvl p g).getD n default=⟨(vwS p).getD n [],g ((vwS p).getD n [])⟩)/\∀g x,(lvl p g).set n ⟨(vwS p).getD n [],x⟩=lvl p (upd g ((vwS p).getD n []) x):=
 ⟨A3y hn,fun g=>d0R p g hn,fun g x=>d6q p g hn x⟩
def c8n{p:c4}{l:e8}{x:Int}(h0:∀v,0<=g v)(hx:((l.Kind==2&&decide (0<=a1Q (lvl p g) l.Atom.Name))=true/\x=a1Q (lvl p g) l.Atom.Name+1)\/((l.Kind==2&&decide (0<=a1Q (lvl p g) l.Atom.Name))=false/\x=a1Q (lvl p g) l.Atom.Name)):(l.Atom.Name∈vwS p/\x=g l.Atom.Name+a9E l)\/(¬l.Atom.Name∈vwS p/\x=-1):=by
 by_cases e:l.Atom.Name∈vwS p
 ·refine .inl ⟨e, ?_⟩;rw[c5U g e,V3 (h0 l.Atom.Name),q1G]at hx;rcases hx with⟨h1,h2⟩|⟨h1,h2⟩
  ·rw[c2L h1];exact h2
  ·rw[c8p h1];omega
 ·refine .inr ⟨e, ?_⟩;rw[d0L g e,show decide ((0:Int)<=-1)=false from rfl,q2B]at hx;rcases hx with⟨h1,h2⟩|⟨h1,h2⟩
  ·cases h1
  ·exact h2
def d0M{p:c4}{l:e8}(h0:∀v,0<=g v)(hx:((l.Kind==2&&decide (0<=a1Q (lvl p g) l.Atom.Name))=true/\x=a1Q (lvl p g) l.Atom.Name+1)\/((l.Kind==2&&decide (0<=a1Q (lvl p g) l.Atom.Name))=false/\x=a1Q (lvl p g) l.Atom.Name))(hc:(l.Kind != 3&&decide (g h<x))=false):a3I p g h l:=by
 by_cases hk:(l.Kind==3)=true
 ·exact c5Y hk
 ·have hn:¬g h<x:=by
   rw[bne,(by simpa using hk:(l.Kind==3)=false),q3K,q0P]at hc;exact of_decide_eq_false hc
  rcases c8n h0 hx with⟨h1,h2⟩|⟨h1,h2⟩
  ·exact d4q h2 hn
  ·exact c5Z h1
def d0O{p:c4}{b:List e8}{j:Nat}(hj:j<b.length)(h1:∀l∈b.take j,a3I p g h l)(h2:a3I p g h (b.getD j default)):∀l∈b.take (j+1),a3I p g h l:=fun l hl=>by
 rw[j6 default hj,V0,q0E]at hl;rcases hl with hl|rfl
 ·exact h1 l hl
 ·exact h2
def c4Z(p:c4):spZ 51 [(true,[p6 p.Decls,o9 p.Rules])] [] (.tup [(false,[a9R ((j8 p).1)]),(false,[.b ((j8 p).2)])]):=by
 refine sx' false true none Tryz.func51 (q' 1 [aX 2 0,ao (.mov (.k (.v false [.nl a1c]))),aU false] (q' 16 [ae 2 1,ac 86 [16],aV 15,aZ 15 0,aZ 15 1,av 4 18,aV 5] (.seq (q' 20 [am 4,aC .neq 20 0] (ci 21 (q' 2 [ao (.mov (.k (.v false [.nl a1c]))),aU false] .ret))) (q' 22 [ao (.bsl 2 0 [.s,.i .i64] []),aV 6] (.seq (q' 23 [ae 2 1,ao (.call 83 [.t 23,.k (.v false [.c (.i .i64 3)])]),ao (.fl false 0 1 (.t 24)),aN,aK 0] (fO 0 28 [ar 27 26] 28 1 (q' 29 [ai 3 25 27,aE 3,ax (w' 8 [.s,.i .i64,.sl k7]),aS 3 8 30] (g' 31 [am 6,aG 0 8,ao (.bld [.s,.i .i64] [(0,1,.t 33)]),ao (.bsl 2 1 [.s,.i .i64] [(0,.t 34)]),ao (.app 2 24 [.s,.i .i64] (.t 31) (.t 35)),aV 6])) (g' 37 [aA 27]))) (.seq (q' 9 [aU true] (lO 2 (.seq (q' 38 [am 9] (cd 38 .skip (.exit 2))) (.block 3 (q' 9 [aU false] (q' 39 [am 6,aN,aK 0] (fO 4 42 [ar 41 40] 42 5 (q' 43 [am 41,aV 10] (.seq (q' 44 [aG 1 1,aN,aK 0] (fO 6 48 [ar 47 46] 48 7 (q' 49 [am 47,aV 11] (q' 50 [aG 1 1,am 11,aI 4,aE 4,ax (w' 12 [.i .i64,.s,.sl k9,.sl a9K]),aS 4 12 54] (.seq (.seq (G' 55 [af 1 12,aG 0 55,aM [6,10],aI 2,aG 0 60,aD .neq 57 62]) (ci 63 (.exit 7))) (q' 64 [aG 3 12,aN,aK 0] (fO 8 68 [ar 67 66] 68 9 (q' 69 [am 67,aV 13] (q' 70 [am 6,aG 3 12,am 13,aI 10,aF 1,aG 0 75,ac 87 [70,77],aV 14] (.seq (q' 79 [aG 3 12,am 13,aI 10,aG 0 82,aC .eql 84 2,am 85,aH 86 true [bm 14,bC .geq 87 0],aP 86 88] (ci 89 (g' 90 [aB 14]))) (q' 92 [aG 3 12,am 13,aI 10,aG 0 95,aC .neq 97 3,am 98,aH 99 true [bm 14,bm 6,bm 10,bI 2,bF 1,bL,bD .gtr 100 105],aP 99 106] (ci 107 (q' 108 [aM [6,10,14],ai 2 108 109,aF 1,aS 1 112 110] (g' 9 [aU true]))))))) (g' 113 [aA 67])))))) (g' 114 [aA 47]))) (q' 115 [aM [6,10],aI 2,aG 1 117,am 6,aN,aD .gtr 119 121] (ci 122 (q' 2 [ao (.mov (.k (.v false [.nl a1c]))),aU false] .ret))))) (g' 123 [aA 41])))))))) (q' 124 [am 6,aV 2,ab 3 true] .ret))))))) [.t 2,.t 3] [(86,[],a2K),(83,[],a3X),(87,[],b3l)] ?_;intro hb hE;simp only[go_sem];repeat' first|apply cj'|intro hc|exact om'|fail
 ·rw[j8,show((p7 p).1==0)=false by simpa[bne]using hc];exact⟨rfl,rfl⟩
 ·have hB:=a0c (p:=p) (by simpa[bne]using hc);simp only[a0g,K7]at hB;omega
 have hN:((p7 p).1==0)=true:=by simpa[bne]using hc
 obtain⟨hB,hD,hRb⟩:=a2R (by simpa using hN);have hdl:p.Decls.length<=16:=by
  have:=hB;simp only[a0g,K7]at this;omega
 have hrl:p.Rules.length<=24:=by
  have:=hB;simp only[a0g,K7]at this;omega
 have hvl:=c8B hB;have hel:=d8X p 3;clear hc;refine lk' false [(false,6,0,100012)] [1,25,26] [2] [] (fun i:{i:Nat // i<=(a0r (a1P p 3)).length}=>[(6,.v false [.ow 100012]),(27,slV (.i .i64 i.1))]) nl' (fun i=>[(100012,a1c,(relL ((a0r (a1P p 3)).take i.1)).map f5.cells)]) (fun i=>(a0r (a1P p 3)).length-i.1) (⟨0,z0E⟩) ?_;intro S0 hS0 i;obtain⟨i,hi⟩:=i;have hl:(relL ((a0r (a1P p 3)).take i)).length<=16:=by rw[relL,q0C,V1];omega
 simp only[go_sem,hS0];repeat' first|apply cj'|intro hc|exact om'|fail
 ·(refine lpK_n2 (⟨i+1,z0D⟩) _ z0H ?_;simp only[go_sem,hS0]<;>repeat' first|apply W6|exact on'|fail)
  rw[show relL ((a0r (a1P p 3)).take (i+1))=relL ((a0r (a1P p 3)).take i)++[⟨((a0r (a1P p 3)).getD i default).Name,0⟩]from d4s (fun x:c9=>(⟨x.Name,0⟩:f5)) default z0D];first|done|(rw[q1B];rfl)|trace_state
 rw[j5 z0D,e2r];clear hc hl hi;refine lq' false [1,6] [2] [] (fun i:{q:Bool×Lev // Low p q.2/\(∀v∈vwS p,q.2 v<=(vwS p).length)/\(q.1=false->Fx p q.2)}=>[(9,slV (.b i.1.1))]) nl' (fun i=>[(100012,a1c,(lvl p i.1.2).map f5.cells)]) (fun i=>2*a3J p i.1.2+(bif i.1.1 then 1 else 0)) (⟨(true,fun _=>0),Low.zero p,fun v _=>z0G,by intro h;cases h⟩) ?_;intro S1 hS1 i;obtain⟨⟨ag,g⟩,hL,hle,hF⟩:=i;simp only at hL hle hF;have hll:=a7r p;simp only[go_sem,hS0,hS1,hll];repeat' first|apply cj'|intro hc|exact om'|fail
 ·have hag:=hc;clear hc;refine lq' false [1,6,40] [2] [] (fun i:{q:Nat×Bool×Lev // q.1<=(vwS p).length/\Low p q.2.2/\(∀v∈vwS p,q.2.2 v<=(vwS p).length)/\(q.2.1=false->q.2.2=g/\∀r∈p.Rules,r.Head.Name∈(vwS p).take q.1->a0X p g r)/\(q.2.1=true->a3J p q.2.2<a3J p g)}=>[(9,slV (.b i.1.2.1)),(41,slV (.i .i64 i.1.1))]) nl' (fun i=>[(100012,a1c,(lvl p i.1.2.2).map f5.cells)]) (fun i=>(vwS p).length-i.1.1) (⟨(0,false,g),z0E,hL,hle,fun _=>⟨rfl,z0E⟩,by intro h;cases h⟩) ?_;intro S2 hS2 i;obtain⟨⟨n,ag2,g2⟩,hn,hL2,hle2,hF2,hM2⟩:=i;simp only at hn hL2 hle2 hF2 hM2;simp only[go_sem,hS0,hS1,hll,hS2];repeat' first|apply cj'|intro hc|exact om'|fail
  ·have hnl:n<(vwS p).length:=by omega
   clear hc;obtain⟨hv,hgm,hsm⟩:=vw_at hnl;refine lq' false [1,6,10,40,41,46] [2] [] (fun i:{q:Nat×Bool×Lev // q.1<=p.Rules.length/\Low p q.2.2/\(∀v∈vwS p,v≠(vwS p).getD n []->q.2.2 v<=(vwS p).length)/\q.2.2 ((vwS p).getD n [])<=(vwS p).length+(8*q.1:Nat)/\(q.2.1=false->q.2.2=g/\(∀r∈p.Rules,r.Head.Name∈(vwS p).take n->a0X p g r)/\∀r∈p.Rules.take q.1,r.Head.Name=(vwS p).getD n []->a0X p g r)/\(q.2.1=true->a3J p q.2.2<a3J p g)}=>[(9,slV (.b i.1.2.1)),(47,slV (.i .i64 i.1.1))]) nl' (fun i=>[(100012,a1c,(lvl p i.1.2.2).map f5.cells)]) (fun i=>p.Rules.length-i.1.1) (⟨(0,ag2,g2),z0E,hL2,fun v hv2 _=>hle2 v hv2,by simp only;have:=hle2 _ hv;omega,fun h=>⟨(hF2 h).1,(hF2 h).2,z0E⟩,hM2⟩) ?_;intro S3 hS3 i;obtain⟨⟨k,ag3,g3⟩,hk,hL3,ho3,hh3,hF3,hM3⟩:=i;simp only at hk hL3 ho3 hh3 hF3 hM3;simp only[go_sem,hS0,hS1,hll,hS2,hgm,hsm,hS3];repeat' first|apply cj'|intro hc|exact om'|fail
   ·have h3:ag3=false->g3=g/\(∀r∈p.Rules,r.Head.Name∈(vwS p).take n->a0X p g r)/\∀r∈p.Rules.take (k+1),r.Head.Name=(vwS p).getD n []->a0X p g r:=fun h=>by
     refine⟨(hF3 h).1,(hF3 h).2.1,fun r hr he=>?_⟩;rw[j6 default z0D,V0,q0E]at hr;rcases hr with hr|rfl
     ·exact(hF3 h).2.2 r hr he
     ·rw[he]at hc;simp at hc
    (refine lpK_n2 (⟨(k+1,ag3,g3),z0G,hL3,ho3,z0G,h3,hM3⟩) _ rfl ?_;simp only[go_sem,hS0,hS1,hll,hS2,hgm,hsm,hS3]<;>repeat' first|apply W6|exact on'|fail)
   ·have hkl:k<p.Rules.length:=by omega
    have hrh:(p.Rules.getD k default).Head.Name=(vwS p).getD n []:=by simpa using hc
    clear hc;have hb8:=c9p hB hkl;have hrm:p.Rules.getD k default∈p.Rules:=A3y hkl;refine lq' false [1,6,10,12,40,41,46,47,66] [2,24] [] (fun i:{q:Nat×Bool×Lev // q.1<=(p.Rules.getD k default).Body.length/\Low p q.2.2/\(∀v∈vwS p,v≠(vwS p).getD n []->q.2.2 v<=(vwS p).length)/\q.2.2 ((vwS p).getD n [])<=(vwS p).length+(8*k+q.1:Nat)/\(q.2.1=false->q.2.2=g/\(∀r∈p.Rules,r.Head.Name∈(vwS p).take n->a0X p g r)/\(∀r∈p.Rules.take k,r.Head.Name=(vwS p).getD n []->a0X p g r)/\∀l∈(p.Rules.getD k default).Body.take q.1,a3I p g ((vwS p).getD n []) l)/\(q.2.1=true->a3J p q.2.2<a3J p g)}=>[(9,slV (.b i.1.2.1)),(67,slV (.i .i64 i.1.1))]) nl' (fun i=>[(100012,a1c,(lvl p i.1.2.2).map f5.cells)]) (fun i=>(p.Rules.getD k default).Body.length-i.1.1) (⟨(0,ag3,g3),z0E,hL3,ho3,z0G,fun h=>⟨(hF3 h).1,(hF3 h).2.1,(hF3 h).2.2,z0E⟩,hM3⟩) ?_;intro S4 hS4 i;obtain⟨⟨j,ag4,g4⟩,hj,hL4,ho4,hh4,hF4,hM4⟩:=i;simp only at hj hL4 ho4 hh4 hF4 hM4;have hLb:∀v,-1<=a1Q (lvl p g4) v/\a1Q (lvl p g4) v<=400:=fun v=>by
     by_cases e:v∈vwS p
     ·rw[c5U g4 e];have:=hL4.ge v;by_cases e2:v=(vwS p).getD n []
      ·rw[e2]at this ⊢;omega
      ·have:=ho4 v e e2;omega
     ·rw[d0L g4 e];omega
    have hw:∀v,IntKind.i64.wrap (a1Q (lvl p g4) v+1)=a1Q (lvl p g4) v+1:=fun v=>by have:=hLb v;rw[IntWalk.i64_in _ z0D]
    simp only[go_sem,hS0,hS1,hll,hS2,hgm,hsm,hS3,hS4,hw];repeat' first|apply cj'|intro hc|exact om'|fail
    ·rename_i hq;have hjl:j<(p.Rules.getD k default).Body.length:=by omega
     have hlm:((p.Rules.getD k default).Body.getD j default)∈(p.Rules.getD k default).Body:=A3y hjl;have hkk:((p.Rules.getD k default).Body.getD j default).Kind≠3:=by simpa using hc.1
     have hx0:=c8n (x:=a1Q (lvl p g4) ((p.Rules.getD k default).Body.getD j default).Atom.Name+1) hL4.ge (.inl ⟨z2B,rfl⟩);have hh0:=hL4.ge ((vwS p).getD n []);have hc2:=hc.2;rcases hx0 with⟨hvv,e⟩|⟨hvv,e⟩
     ·have hMM:a3J p g4<=a3J p g:=by
       cases hag4:ag4 with
       | true=>exact Nat.le_of_lt (hM4 hag4)
       | false=>rw[(hF4 hag4).1];exact q0F _
      have R:=a9U (j:=8*k+j) hrm (by rw[hrh];exact hv) hlm hkk hvv hL4 (by rw[hrh];exact ho4) (by rw[hrh];exact hh4) z0D e (by rw[hrh];exact hc2) hMM;rw[hrh]at R
      (refine lpK_n2 (⟨(j+1,true,upd g4 ((vwS p).getD n []) (a1Q (lvl p g4) ((p.Rules.getD k default).Body.getD j default).Atom.Name+1)),z0G,R.1,R.2.1,R.2.2.1,fun h=>(by cases h),fun _=>R.2.2.2⟩) _ rfl ?_;simp only[go_sem,hS0,hS1,hll,hS2,hgm,hsm,hS3,hS4,hw]<;>repeat' first|apply W6|exact on'|fail)
     ·exfalso;omega
    ·rename_i hq;have hjl:j<(p.Rules.getD k default).Body.length:=by omega
     have hst:a3I p g4 ((vwS p).getD n []) ((p.Rules.getD k default).Body.getD j default):=d0M hL4.ge (.inl ⟨z2B,rfl⟩) hc;have h3:ag4=false->g4=g/\(∀r∈p.Rules,r.Head.Name∈(vwS p).take n->a0X p g r)/\(∀r∈p.Rules.take k,r.Head.Name=((vwS p).getD n [])->a0X p g r)/\∀l∈(p.Rules.getD k default).Body.take (j+1),a3I p g ((vwS p).getD n []) l:=fun h=>by
      have h5:=hF4 h;refine⟨h5.1,h5.2.1,h5.2.2.1,d0O hjl h5.2.2.2 ?_⟩;rw[<-h5.1];exact hst
     (refine lpK_n2 (⟨(j+1,ag4,g4),z0G,hL4,ho4,z0G,h3,hM4⟩) _ rfl ?_;simp only[go_sem,hS0,hS1,hll,hS2,hgm,hsm,hS3,hS4,hw]<;>repeat' first|apply W6|exact on'|fail)
    ·rename_i hq;have hjl:j<(p.Rules.getD k default).Body.length:=by omega
     have hlm:((p.Rules.getD k default).Body.getD j default)∈(p.Rules.getD k default).Body:=A3y hjl;have hkk:((p.Rules.getD k default).Body.getD j default).Kind≠3:=by simpa using hc.1
     have hx0:=c8n (x:=a1Q (lvl p g4) ((p.Rules.getD k default).Body.getD j default).Atom.Name) hL4.ge (.inr ⟨hq,rfl⟩);have hh0:=hL4.ge ((vwS p).getD n []);have hc2:=hc.2;rcases hx0 with⟨hvv,e⟩|⟨hvv,e⟩
     ·have hMM:a3J p g4<=a3J p g:=by
       cases hag4:ag4 with
       | true=>exact Nat.le_of_lt (hM4 hag4)
       | false=>rw[(hF4 hag4).1];exact q0F _
      have R:=a9U (j:=8*k+j) hrm (by rw[hrh];exact hv) hlm hkk hvv hL4 (by rw[hrh];exact ho4) (by rw[hrh];exact hh4) z0D e (by rw[hrh];exact hc2) hMM;rw[hrh]at R
      (refine lpK_n2 (⟨(j+1,true,upd g4 ((vwS p).getD n []) (a1Q (lvl p g4) ((p.Rules.getD k default).Body.getD j default).Atom.Name)),z0G,R.1,R.2.1,R.2.2.1,fun h=>(by cases h),fun _=>R.2.2.2⟩) _ rfl ?_;simp only[go_sem,hS0,hS1,hll,hS2,hgm,hsm,hS3,hS4,hw]<;>repeat' first|apply W6|exact on'|fail)
     ·exfalso;omega
    ·rename_i hq;have hjl:j<(p.Rules.getD k default).Body.length:=by omega
     have hst:a3I p g4 ((vwS p).getD n []) ((p.Rules.getD k default).Body.getD j default):=d0M hL4.ge (.inr ⟨hq,rfl⟩) hc;have h3:ag4=false->g4=g/\(∀r∈p.Rules,r.Head.Name∈(vwS p).take n->a0X p g r)/\(∀r∈p.Rules.take k,r.Head.Name=((vwS p).getD n [])->a0X p g r)/\∀l∈(p.Rules.getD k default).Body.take (j+1),a3I p g ((vwS p).getD n []) l:=fun h=>by
      have h5:=hF4 h;refine⟨h5.1,h5.2.1,h5.2.2.1,d0O hjl h5.2.2.2 ?_⟩;rw[<-h5.1];exact hst
     (refine lpK_n2 (⟨(j+1,ag4,g4),z0G,hL4,ho4,z0G,h3,hM4⟩) _ rfl ?_;simp only[go_sem,hS0,hS1,hll,hS2,hgm,hsm,hS3,hS4,hw]<;>repeat' first|apply W6|exact on'|fail)
    ·have h3:ag4=false->g4=g/\(∀r∈p.Rules,r.Head.Name∈(vwS p).take n->a0X p g r)/\∀r∈p.Rules.take (k+1),r.Head.Name=((vwS p).getD n [])->a0X p g r:=fun h=>by
      have h5:=hF4 h;refine⟨h5.1,h5.2.1,fun r hr he=>?_⟩;rw[j6 default z0D,V0,q0E]at hr;rcases hr with hr|rfl
      ·exact h5.2.2.1 r hr he
      ·intro _ l hl;rw[he];refine h5.2.2.2 l ?_;rw[j5 z0D];exact hl
     (refine lpK_n2 (⟨(k+1,ag4,g4),z0G,hL4,ho4,z0G,h3,hM4⟩) _ rfl ?_;simp only[go_sem,hS0,hS1,hll,hS2,hgm,hsm,hS3,hS4,hw]<;>repeat' first|apply W6|exact on'|fail)
   ·rw[c5X hL3 hv hc];exact⟨rfl,rfl⟩
   ·have h1:∀v∈vwS p,g3 v<=(vwS p).length:=fun v hv2=>by
     by_cases e:v=((vwS p).getD n [])
     ·rw[e];omega
     ·exact ho3 v hv2 e
    have h3:ag3=false->g3=g/\∀r∈p.Rules,r.Head.Name∈(vwS p).take (n+1)->a0X p g r:=fun h=>by
     have h5:=hF3 h;refine⟨h5.1,fun r hr he=>?_⟩;rw[j6 [] z0D,V0,q0E]at he;rcases he with he|he
     ·exact h5.2.1 r hr he
     ·exact h5.2.2 r (by rw[j5 z0D];exact hr) he
    (refine lpK_n2 (⟨(n+1,ag3,g3),z0G,hL3,h1,h3,hM3⟩) _ rfl ?_;simp only[go_sem,hS0,hS1,hll,hS2,hgm,hsm,hS3]<;>repeat' first|apply W6|exact on'|fail)
  ·have h3:ag2=false->Fx p g2:=fun h=>by
    have h5:=hF2 h;rw[j5 z0D]at h5;rw[h5.1];intro r hr hv2;exact h5.2 r hr hv2 hv2
   have hmm:ag2=false->g2=g:=fun h=>(hF2 h).1
   (refine lpK_n2 (⟨(ag2,g2),hL2,hle2,h3⟩) _ rfl ?_;simp only[go_sem,hS0,hS1,hll,hS2]<;>repeat' first|apply W6|exact on'|fail)
   cases hag2:ag2 with
   | false=>rw[hmm hag2,hag];simp only[z0C];omega
   | true=>have:=hM2 hag2;rw[hag];simp only[W8];omega
 ·rw[c2F hN ⟨hF hc,hL,hle⟩];exact⟨rfl,rfl⟩
noncomputable def a6a:CT:=l4 (fun(x:c4)=>c4Z x)
@[go_sem] def d8k:=fun x0 x1=>nm' (fQ' a6a rfl ⟨x0,x1⟩)
noncomputable def y3(p:c4):Bool:=(j8 p).2&&a1Y p==-1
def a4r{p:c4}(h:(j8 p).2=true):((p7 p).1==0)=true:=by
 cases e:((p7 p).1==0)with
 | true=>rfl
 | false=>rw[j8,e,V2]at h;exact h
def u9{p:c4}(h:y3 p=true):((p7 p).1==0)=true:=by
 rw[y3,W3]at h;exact a4r h.1
def d0B(p:c4):spZ 61 [(true,[p6 p.Decls,o9 p.Rules])] [] (.one (false,[.b (y3 p)])):=by
 refine sy' Tryz.func61 (q' 1 [aX 2 0,aU false] (q' 6 [ae 2 1,ac 97 [6],aV 5,aZ 5 0,aZ 5 1,av 3 8,aV 4] (q' 10 [aM [4,10],aH 11 true [be 2 1,bc 98 [12],bC .eql 13 (-1)],aP 11 14,aV 2] .ret))) [.t 2] [(97,[],a5L),(98,[],a6s)] ?_;intro hb hE;simp only[go_sem];repeat' first|apply cj'|intro hc|exact om'|fail
 all_goals(first|rfl)
noncomputable def b6A:CT:=l4 (fun(x:c4)=>d0B x)
@[go_sem] def e1b:=fun x0 x1=>nm' (fQ' b6A rfl ⟨x0,x1⟩)
def d0I(p:c4):spZ 80 [(true,[p6 p.Decls,o9 p.Rules])] [] (.one (false,[.b (y3 p)])):=by
 refine sy' Tryz.func80 (q' 1 [aX 2 0,aU false] (q' 8 [ae 2 1,ac 86 [8],aV 7,aZ 7 0,aZ 7 1,av 3 10,aV 4] (q' 13 [ae 2 1,ac 51 [13],aV 12,aZ 12 0,aZ 12 1,av 5 15,aV 6] (q' 17 [am 3,aC .eql 17 0,am 18,aH 19 true [be 2 1,bc 127 [20],bC .eql 21 (-1)],aP 19 22,am 23,aH 24 true [bm 6],aP 24 25,aV 2] .ret)))) [.t 2] [(86,[],a2K),(51,[],a6a),(127,[],a6D)] ?_;intro hb hE;simp only[go_sem];repeat' first|apply cj'|intro hc|exact om'|fail
 all_goals(first|(rw[y3];cases h1:((p7 p).1==0)<;>cases h2:(j8 p).2<;>cases h3:(a1Y p==-1)<;>first|rfl|(rw[a4r h2]at h1;cases h1)))
noncomputable def b6D:CT:=l4 (fun(x:c4)=>d0I x)
@[go_sem] def e1i:=fun x0 x1=>nm' (fQ' b6D rfl ⟨x0,x1⟩)
def a0G{α:Type}{l:List α}(d:α)(h:i<l.length):l.drop i=l.getD i d::l.drop (i+1):=by
 rw[k8 d h];exact q3Z h
def a0t(r:c7):Bool:=decide ((r.V.length:Int)<=6)&&r.V.all o8
def a1C:List d8->List d8->Int
 | [],[]=>0
 | [],_::_=>-1
 | _::_,[]=>1
 | x::a,y::b=>bif a0h x y then-1 else bif a0h y x then 1 else a1C a b
def a2f:List d8->List d8->Int
 | [],[]=>0
 | [],_::_=>-1
 | _::_,[]=>1
 | x::a,y::b=>if a0L x y=0 then a2f a b else a0L x y
def a9I(a b:c7):Int:=bif a0t a&&a0t b then a1C a.V b.V else 2
def a0W(r:f8)(i:Nat):Bool:=!((r.Rows.getD i default).V.length==r.Arity)||!a0t (r.Rows.getD i default)||decide (0<i)&&!(a1C (r.Rows.getD (i-1) default).V (r.Rows.getD i default).V==-1)
def y8(r:f8):Bool:=decide (0<=r.Arity)&&decide (r.Arity<=6)&&decide ((r.Rows.length:Int)<=300)&&!a2Y r.Rows.length (a0W r)
def a1g(l:List c9)(i:Nat):Bool:=!a1m (l.getD i default).Name||!y8 (l.getD i default).Rel||decide (0<i)&&!Op.bytesLess (l.getD (i-1) default).Name (l.getD i default).Name
def j9(s:c6):Bool:=decide ((s.Rels.length:Int)<=24)&&!a2Y s.Rels.length (a1g s.Rels)
def a0e(s:c6):Nat:=(s.Rels.map fun x=>x.Rel.Rows.length).sum
def a3E{α:Type}{l:List α}(h:l.length<=i):l.drop i=[]:=q3W h
def e2q(hi:i<=a.length)(hj:i<=b.length)(h:¬(i<a.length/\i<b.length)):a1C (a.drop i) (b.drop i)=if a.length<b.length then-1 else if b.length<a.length then 1 else 0:=by
 by_cases h1:a.length<b.length
 ·rw[if_pos h1,a3E (show a.length<=i by omega),a0G (l:=b) default z0D];rfl
 ·rw[if_neg h1];by_cases h2:b.length<a.length
  ·rw[if_pos h2,a3E (show b.length<=i by omega),a0G (l:=a) default z0D];rfl
  ·rw[if_neg h2,a3E (show a.length<=i by omega),a3E (show b.length<=i by omega)];rfl
def c0B(hi:i<=a.length)(hj:i<=b.length)(h:¬(i<a.length/\i<b.length)):a2f (a.drop i) (b.drop i)=if a.length<b.length then-1 else if b.length<a.length then 1 else 0:=by
 by_cases h1:a.length<b.length
 ·rw[if_pos h1,a3E (show a.length<=i by omega),a0G (l:=b) default z0D];rfl
 ·rw[if_neg h1];by_cases h2:b.length<a.length
  ·rw[if_pos h2,a3E (show b.length<=i by omega),a0G (l:=a) default z0D];rfl
  ·rw[if_neg h2,a3E (show a.length<=i by omega),a3E (show b.length<=i by omega)];rfl
def b4b:∀{a b:List d8},(∀x∈a,o8 x=true)->(∀x∈b,o8 x=true)->sgn (a2f a b)=a1C a b
 | [],[],_,_=>by decide
 | [],_::_,_,_=>by simp only[a2f,a1C];decide
 | _::_,[],_,_=>by simp only[a2f,a1C];decide
 | x::a,y::b,ha,hb=>by
   have h:=b6R (ha x z0E) (hb y z0E);have ih:=b4b (a:=a) (b:=b) (fun z hz=>ha z (by simp[hz])) (fun z hz=>hb z (by simp[hz]));rw[a2f,a1C];unfold b0q at h;split
   ·rename_i h0;rw[h0]at h;cases h1:a0h x y with
    | true=>rw[h1,W8]at h;unfold sgn at h;omega
    | false=>
      cases h2:a0h y x with
      | true=>rw[h1,h2,W8,V2]at h;unfold sgn at h;omega
      | false=>exact ih
   ·rename_i h0;cases h1:a0h x y with
    | true=>rw[h1]at h;exact h
    | false=>
      cases h2:a0h y x with
      | true=>rw[h1,h2]at h;exact h
      | false=>rw[h1,h2]at h;unfold sgn at h;simp only[V2]at h;omega
def c2s(a:d8)(b:d8):spZ 193 [(true,[.i .i64 a.N,.s a.S]),(true,[.i .i64 b.N,.s b.S])] [] (.one (false,[.b (a0h a b)])):=by
 refine sy' Tryz.func193 (q' 2 [aX 2 0,aX 2 1,aU false] (.seq (q' 5 [aG 1 2,aY .eql 6 [],am 7,aH 8 true [bf 1 3,bL,bY .eql 10 []],aP 8 11] (ci 12 (q' 13 [aG 0 2,aG 0 3,ar 14 16,aV 4] .ret))) (q' 18 [aG 1 2,aG 1 3,ar 19 21,aV 4] .ret))) [.t 4] [] ?_;intro hb hE;simp only[go_sem];repeat' first|apply cj'|intro hc|exact om'|fail
 ·rw[a0h,hc.1,hc.2];rfl
 ·rw[a0h,hc];rfl
noncomputable def a4R:CT:=l4 (fun(x:d8×d8)=>c2s x.1 x.2)
@[go_sem] def d5E:=fun x0 x1 x2 x3=>nm' (fQ' a4R rfl (⟨x0,x1⟩,⟨x2,x3⟩))
def b8G(a:c7)(b:c7):spZ 136 [(true,[l9 a.V]),(true,[l9 b.V])] [] (.one (false,[.i .i64 (a1C a.V b.V)])):=by
 refine sy' Tryz.func136 (q' 2 [aX 1 0,aX 1 1,aK 0] (.seq (q' 5 [aK 0] (fo 0 6 [am 5,aG 0 2,aN,ar 6 9,am 10,aH 11 true [bm 5,bf 0 3,bL,bN,bD .lss 12 15],aP 11 16] 17 1 (.seq (.seq (G' 20 [aG 0 2,am 5,aI 2,aE 2,aG 0 3,am 5,aI 2,aE 2,ac 193 [24,29]]) (ci 30 (q' 4 [ao (.mov (.k (.v false [.c (.i .i64 (-1))])))] .ret))) (.seq (G' 31 [aG 0 3,am 5,aI 2,aE 2,aG 0 2,am 5,aI 2,aE 2,ac 193 [35,40]]) (ci 41 (q' 4 [aK 1] .ret)))) (g' 18 [aB 5]))) (.seq (q' 42 [aG 0 2,aN,aG 0 3,aN,ar 44 47] (ci 48 (q' 4 [ao (.mov (.k (.v false [.c (.i .i64 (-1))])))] .ret))) (.seq (q' 49 [aG 0 2,aN,aG 0 3,aN,aD .gtr 51 54] (ci 55 (q' 4 [aK 1] .ret))) (q' 4 [aK 0] .ret))))) [.t 4] [(193,[],a4R)] ?_;intro hb hE;simp only[go_sem];repeat' first|apply cj'|intro hc|exact om'|fail
 refine lq' false [2,3] [4,6] [] (fun i:{i:Nat // i<=a.V.length/\i<=b.V.length/\a1C (a.V.drop i) (b.V.drop i)=a1C a.V b.V}=>[(5,slV (.i .i64 i.1))]) nl' nl' (fun i=>a.V.length-i.1) (⟨0,z0E⟩) ?_;intro S0 hS0 i;obtain⟨i,hi,hj,he⟩:=i;simp only[go_sem,hS0];repeat' first|apply cj'|intro hc|exact om'|fail
 ·rw[<-he,a0G (l:=a.V) default z0D,a0G (l:=b.V) default z0D,a1C,hc];rfl
 ·rename_i h1;rw[<-he,a0G (l:=a.V) default z0D,a0G (l:=b.V) default z0D,a1C,h1,hc];rfl
 ·rename_i h1;have h2:=he;rw[a0G (l:=a.V) default z0D,a0G (l:=b.V) default z0D,a1C,h1,hc]at h2;exact nx0 ⟨i+1,z0D,z0D,h2⟩
 all_goals have q:(decide ((i:Int)<a.V.length)&&decide ((i:Int)<b.V.length))=false:=by assumption
 all_goals rw[q4B,q1E,q1E]at q
 all_goals rw[<-he,e2q hi hj z0D]
 ·rw[if_pos z0D]
 ·rw[if_neg z0D,if_pos z0D]
 ·rw[if_neg z0D,if_neg z0D]
noncomputable def a3V:CT:=l4 (fun(x:c7×c7)=>b8G x.1 x.2)
@[go_sem] def d3v:=fun x0 x1=>nm' (fQ' a3V rfl (⟨x0⟩,⟨x1⟩))
def c8i(r:c7):spZ 180 [(true,[l9 r.V])] [] (.one (false,[.b (a0t r)])):=by
 refine sy' Tryz.func180 (q' 1 [aX 1 0,aU false] (.seq (q' 5 [aG 0 1,aN,aC .gtr 7 6] (ci 8 (q' 2 [aU false] .ret))) (.seq (q' 9 [aG 0 1,aN,aK 0] (fO 0 13 [ar 12 11] 13 1 (q' 14 [ai 2 10 12,aE 2,ax (w' 4 [.i .i64,.s]),aS 2 4 15] (q' 16 [ae 2 4,ac 245 [16],aO 17] (ci 18 (q' 2 [aU false] .ret)))) (g' 19 [aA 12]))) (q' 2 [aU true] .ret)))) [.t 2] [(245,[],a1G)] ?_;intro hb hE;simp only[go_sem];repeat' first|apply cj'|intro hc|exact om'|fail
 ·rw[a0t,V5 z0D];rfl
 have h6:((r.V.length:Int))<=6:=by omega
 refine lq' false [10,11] [] [] (fun i:{i:Nat // i<=r.V.length/\(r.V.take i).all o8=true}=>[(12,slV (.i .i64 i.1))]) nl' nl' (fun i=>r.V.length-i.1) (⟨0,z0E⟩) ?_;intro S0 hS0 i;obtain⟨i,hi,ha⟩:=i;simp only[go_sem,hS0];repeat' first|apply cj'|intro hc|exact om'|fail
 ·rw[a0t,all_false (d:=default) (i:=i) z0D hc,q2B]
 ·exact nx0 ⟨i+1,z0D,y9 default z0D ha hc⟩
 ·rw[j5 z0D]at ha;rw[a0t,ha,V3 h6];rfl
noncomputable def a7j:CT:=l4 (fun(x:c7)=>c8i x)
@[go_sem] def e0d:=fun x0=>nm' (fQ' a7j rfl ⟨x0⟩)
def c1B(v:d8):spZ 209 [(true,[.i .i64 v.N,.s v.S])] [] (.one (false,[.b (!o8 v)])):=by
 refine sy' Tryz.func209 (q' 1 [aX 2 0,aU false] (q' 3 [ae 2 1,ac 210 [3],aO 4,aV 2] .ret)) [.t 2] [(210,[],a2D)] ?_;intro hb hE;simp only[go_sem];repeat' first|apply cj'|intro hc|exact om'|fail
noncomputable def a8I:CT:=l4 (fun(x:d8)=>c1B x)
@[go_sem] def d4K:=fun x0 x1=>nm' (fQ' a8I rfl ⟨x0,x1⟩)
def d4m(l:List d8):spZ 277 [(false,[l9 l]),(false,[.f 209 []])] [] (.one (false,[.i .i64 (a0A (fun y=>!o8 y) l)])):=by
 refine sy' Tryz.func277 (q' 4 [aK 0] (.seq (q' 6 [am 0,aN,aK 0] (fO 0 9 [ar 8 7] 9 1 (q' 10 [am 8,aV 5] (q' 11 [aM [1,0,5],aI 2,aE 2,ao (.callv (.t 11) [.t 15])] (ci 16 (q' 17 [am 5,aV 4] .ret)))) (g' 18 [aA 8]))) (q' 4 [ao (.mov (.k (.v false [.c (.i .i64 (-1))])))] .ret))) [.t 4] [(209,[],a8I)] ?_;intro hb hE;simp only[go_sem];repeat' first|apply cj'|intro hc|exact om'|fail
 refine lq' false [0,1,7] [] [] (fun i:{i:Nat // i<=l.length/\(l.take i).any (fun y=>!o8 y)=false}=>[(8,slV (.i .i64 i.1))]) nl' nl' (fun i=>l.length-i.1) (⟨0,z0E⟩) ?_;intro S0 hS0 i;obtain⟨i,hi,ha⟩:=i;simp only[go_sem,hS0];repeat' first|apply cj'|intro hc|exact om'|fail
 ·exact(y5 (p:=fun y=>!o8 y) (d:=default) z0D ha z0F).symm
 ·exact nx0 ⟨i+1,z0D,u6 (p:=fun y=>!o8 y) default z0D ha z0F⟩
 ·exact(w9 z0K).symm
noncomputable def c0R:CT:=l4 (fun(x:(List d8))=>d4m x)
@[go_sem] def e2U:=fun l=>nm' (fQ' c0R rfl l)
def d4i(l:List d8):spZ 208 [(false,[l9 l]),(false,[.f 209 []])] [] (.one (false,[.b (l.any (fun y=>!o8 y))])):=by
 refine sy' Tryz.func208 (q' 4 [aU false] (q' 5 [aM [0,1],ac 277 [5,6],aC .geq 7 0,aV 4] .ret)) [.t 4] [(277,[],c0R)] ?_;intro hb hE;simp only[go_sem];repeat' first|apply cj'|intro hc|exact om'|fail
 ·exact a0Z _ _
noncomputable def c0P:CT:=l4 (fun(x:(List d8))=>d4i x)
@[go_sem] def e2Q:=fun l=>nm' (fQ' c0P rfl l)
def c7O(r:c7):spZ 154 [(true,[l9 r.V])] [] (.one (false,[.b (a0t r)])):=by
 refine sy' Tryz.func154 (q' 1 [aX 1 0,aU false] (q' 3 [aG 0 1,aN,aC .leq 5 6,am 6,aH 7 true [bf 0 1,bL,bo (.call 208 [.t 9,.k (.v false [.c (.f 209 [])])]),bO 10],aP 7 11,aV 2] .ret)) [.t 2] [(208,[],c0P)] ?_;intro hb hE;simp only[go_sem];repeat' first|apply cj'|intro hc|exact om'|fail
 all_goals rw[a9L,q5M,a0t]
noncomputable def b2J:CT:=l4 (fun(x:c7)=>c7O x)
@[go_sem] def d9F:=fun x0=>nm' (fQ' b2J rfl ⟨x0⟩)
def d8N(a:List d8)(b:List d8):spZ 211 [(false,[l9 a]),(false,[l9 b]),(false,[.f 212 []])] [] (.one (false,[.i .i64 (a2f a b)])):=by
 refine sy' Tryz.func211 (q' 6 [aK 0] (.seq (q' 11 [am 0,aN,aK 0] (fO 0 14 [ar 13 12] 14 1 (q' 15 [am 13,ai 2 11 13,aE 2,ax (w' 8 [.i .i64,.s]),av 7 15,aS 2 8 17] (.seq (q' 18 [aM [7,1],aN,aD .geq 18 20] (ci 21 (q' 6 [aK 1] .ret))) (q' 22 [aM [1,7],aI 2,aE 2,ax (w' 9 [.i .i64,.s]),aS 2 9 25] (q' 26 [am 2,ae 2 8,ae 2 9,ao (.callv (.t 26) [.t 27,.t 28]),aV 10] (q' 30 [am 10,aC .neq 30 0] (ci 31 (q' 32 [am 10,aV 6] .ret))))))) (g' 33 [aA 13]))) (.seq (q' 34 [am 0,aN,am 1,aN,ar 35 37] (ci 38 (q' 6 [ao (.mov (.k (.v false [.c (.i .i64 (-1))])))] .ret))) (q' 6 [aK 0] .ret)))) [.t 6] [(212,[],a2F)] ?_;intro hb hE;simp only[go_sem];repeat' first|apply cj'|intro hc|exact om'|fail
 refine lq' false [0,1,2,11,12] [] [] (fun i:{i:Nat // i<=a.length/\i<=b.length/\a2f (a.drop i) (b.drop i)=a2f a b}=>[(13,slV (.i .i64 i.1))]) nl' nl' (fun i=>a.length-i.1) (⟨0,z0E⟩) ?_;intro S0 hS0 i;obtain⟨i,hi,hj,he⟩:=i;simp only[go_sem,hS0];repeat' first|apply cj'|intro hc|exact om'|fail
 ·rw[<-he,c0B hi hj z0D,if_neg z0D,if_pos z0D]
 ·rw[<-he,a0G (l:=a) default z0D,a0G (l:=b) default z0D,a2f,if_neg z0O]
 ·have h2:=he;rw[a0G (l:=a) default z0D,a0G (l:=b) default z0D,a2f,if_pos z0O]at h2;exact nx0 ⟨i+1,z0D,z0D,h2⟩
 ·rw[<-he,c0B hi hj z0D,if_pos z0D]
 ·rw[<-he,c0B hi hj z0D,if_neg z0D,if_neg z0D]
noncomputable def c5A:CT:=l4 (fun(x:(List d8)×(List d8))=>d8N x.1 x.2)
@[go_sem] def e2Z:=fun a b=>nm' (fQ' c5A rfl (a,b))
def b3B(a:c7)(b:c7):spZ 155 [(true,[l9 a.V]),(true,[l9 b.V])] [] (.one (false,[.i .i64 (a2f a.V b.V)])):=by
 refine sy' Tryz.func155 (q' 2 [aX 1 0,aX 1 1,aK 0] (q' 5 [aG 0 2,aG 0 3,ao (.call 211 [.t 6,.t 8,.k (.v false [.c (.f 212 [])])]),aV 4] .ret)) [.t 4] [(211,[],c5A)] ?_;intro hb hE;simp only[go_sem];repeat' first|apply cj'|intro hc|exact om'|fail
noncomputable def a7h:CT:=l4 (fun(x:c7×c7)=>b3B x.1 x.2)
@[go_sem] def d9J:=fun x0 x1=>nm' (fQ' a7h rfl (⟨x0⟩,⟨x1⟩))
def b8F(a:c7)(b:c7):spZ 181 [(true,[l9 a.V]),(true,[l9 b.V])] [] (.one (false,[.i .i64 (a9I a b)])):=by
 refine sy' Tryz.func181 (q' 2 [aX 1 0,aX 1 1,aK 0] (.seq (q' 5 [ae 1 2,ac 180 [5],aO 6,am 7,aH 8 false [be 1 3,bc 180 [9],bO 10],aQ 8 11] (ci 12 (q' 4 [aK 2] .ret))) (q' 13 [ae 1 2,ae 1 3,ac 136 [13,14],aV 4] .ret))) [.t 4] [(180,[],a7j),(136,[],a3V)] ?_;intro hb hE;simp only[go_sem];repeat' first|apply cj'|intro hc|exact om'|fail
 ·rcases hc with h|h<;>simp[a9I,h]
 ·rw[a9I,hc.1,hc.2];rfl
noncomputable def a7V:CT:=l4 (fun(x:c7×c7)=>b8F x.1 x.2)
@[go_sem] def d3u:=fun x0 x1=>nm' (fQ' a7V rfl (⟨x0⟩,⟨x1⟩))
def a5p{n:Nat}{p:Nat->Bool}(h:a2Y n p=false){j:Nat}(hj:j<n):p j=false:=by
 simp only[a2Y,q0T]at h;simpa using c0z h hj
def a0v{r:c7}(h:a0t r=true):∀x∈r.V,o8 x=true:=by
 simp only[a0t,W3,q0I]at h;exact h.2
def a3j{r:f8}(h:a0W r i=false):a0t (r.Rows.getD i default)=true:=by
 simp only[a0W,q0Y,q0T]at h;exact h.1.2
def bRow_ge(ha:∀x∈a,o8 x=true)(hb:∀x∈b,o8 x=true):decide (0<=a2f a b)=!(a1C a b==-1):=by
 have h:=b4b ha hb;unfold sgn at h;rw[q3L];simp only[V8,q0W,beq_eq_false_iff_ne];omega
def d9i{r:f8}(ha:a2Y i (a0W r)=false):(!a0t (r.Rows.getD i default)||!((r.Rows.getD i default).V.length==r.Arity)||(decide (0<i)&&decide (0<=a2f (r.Rows.getD (i-1) default).V (r.Rows.getD i default).V)))=a0W r i:=by
 rw[a0W];cases h:a0t (r.Rows.getD i default)with
 | false=>simp
 | true=>
   by_cases h0:0<i
   ·rw[bRow_ge (a0v (a3j (a5p ha (show i-1<i by omega)))) (a0v h)];simp
   ·rw[V5 h0];simp
def c2U{r:f8}(hi:i<r.Rows.length)(h:a0W r i=true):y8 r=false:=by
 rw[y8,a2r hi h];simp
def c8h(r:f8):spZ 129 [(true,[.i .i64 r.Arity,u7 r.Rows])] [] (.one (false,[.b (y8 r)])):=by
 refine sy' Tryz.func129 (q' 1 [aX 2 0,aU false] (.seq (q' 4 [aG 0 1,aC .lss 5 0,am 6,aH 7 false [bf 0 1,bL,bC .gtr 9 6],aQ 7 10,am 11,aH 12 false [bf 1 1,bL,bN,bC .gtr 15 300],aQ 12 16] (ci 17 (q' 2 [aU false] .ret))) (.seq (q' 18 [aG 1 1,aN,aK 0] (fO 0 22 [ar 21 20] 22 1 (q' 23 [am 21,aV 3] (.seq (.seq (G' 24 [aG 1 1,am 3,aI 1,aG 0 27,aN,aG 0 1,aD .neq 30 32,am 33,aH 34 false [bf 1 1,bL,bm 3,bI 1,bE 1,bc 180 [39],bO 40],aQ 34 41]) (ci 42 (q' 2 [aU false] .ret))) (.seq (G' 43 [am 3,aC .gtr 43 0,am 44,aH 45 true [bf 1 1,bL,bm 3,bC .sub 48 1,bi 1 47 49,bE 1,bf 1 1,bL,bm 3,bI 1,bE 1,bc 181 [51,56],bC .neq 57 (-1)],aP 45 58]) (ci 59 (q' 2 [aU false] .ret))))) (g' 60 [aA 21]))) (q' 2 [aU true] .ret)))) [.t 2] [(180,[],a7j),(181,[],a7V)] ?_;intro hb hE;simp only[go_sem];repeat' first|apply cj'|intro hc|exact om'|fail
 ·rcases hc with(h|h)|h
  ·rw[y8,V5 (show¬0<=r.Arity by omega)];rfl
  ·rw[y8,V5 (show¬r.Arity<=6 by omega)];simp
  ·rw[y8,V5 (show¬(r.Rows.length:Int)<=300 by omega)];simp
 have hA:=hc;clear hc;refine lq' false [1,20] [2] [] (fun i:{i:Nat // i<=r.Rows.length/\a2Y i (a0W r)=false}=>[(21,slV (.i .i64 i.1))]) nl' nl' (fun i=>r.Rows.length-i.1) (⟨0,z13⟩) ?_;intro S0 hS0 i;obtain⟨i,hi,ha⟩:=i;have hw:0<i->IntKind.i64.wrap ((i:Int)-1)=((i-1:Nat):Int):=fun h=>by rw[IntWalk.i64_in _ z0D];omega
 simp only[go_sem,hS0];repeat' first|apply cj'|intro hc|exact om'|fail
 ·have hq:a0W r i=true:=by
   rw[a0W];rcases hc with h|h
   ·simp only[bne]at h;rw[h];rfl
   ·rw[h];simp
  rw[c2U z0D hq]
 ·rename_i h1;have hq:a0W r i=true:=by
   rw[hw z0D]at hc;rw[a9I,h1.2,show((i-1:Nat):Int).toNat=i-1 from rfl,a3j (a5p ha (show i-1<i by omega))]at hc;rw[a0W,V3 (show 0<i by omega)];have h3:=hc.2;simp only[bne,q1V,W8]at h3;rw[h3];simp
  rw[c2U z0D hq]
 ·rename_i h1;have hq:a0W r i=false:=by
   have h2:=h1.1;simp only[bne]at h2;rw[a0W,h2,h1.2];by_cases h0:0<i
   ·rw[hw h0,V3 (show(0:Int)<i by omega),a9I,h1.2,show((i-1:Nat):Int).toNat=i-1 from rfl,a3j (a5p ha (show i-1<i by omega))]at hc;rw[V3 h0];exact hc
   ·rw[V5 h0];rfl
  exact nx0 ⟨i+1,z0D,a1h ha hq⟩
 ·obtain rfl:i=r.Rows.length:=by omega
  rw[y8,ha,V3 (show 0<=r.Arity by omega),V3 (show r.Arity<=6 by omega),V3 (show(r.Rows.length:Int)<=300 by omega)];rfl
noncomputable def b3g:CT:=l4 (fun(x:f8)=>c8h x)
@[go_sem] def e0c:=fun x0 x1=>nm' (fQ' b3g rfl ⟨x0,x1⟩)
def c7N(r:f8):spZ 100 [(true,[.i .i64 r.Arity,u7 r.Rows])] [] (.one (false,[.b (y8 r)])):=by
 refine sy' Tryz.func100 (q' 1 [aX 2 0,aU false] (.seq (q' 5 [aG 1 1,aN,aK 0] (fO 0 9 [ar 8 7] 9 1 (q' 10 [am 8,ai 1 6 8,aE 1,ax (w' 4 [.sl l7]),av 3 10,aS 1 4 12] (.seq (G' 13 [ae 1 4,ac 154 [13],aO 14,am 15,aH 16 false [bf 0 4,bL,bN,bf 0 1,bL,bD .neq 19 21],aQ 16 22,am 23,aH 24 false [bm 3,bC .gtr 25 0,bm 26],aH 27 true [bf 1 1,bL,bm 3,bC .sub 30 1,bi 1 29 31,bE 1,be 1 4,bc 155 [33,34],bC .geq 35 0],aH 24 false [bP 27 36],aQ 24 37]) (ci 38 (q' 2 [aU false] .ret)))) (g' 39 [aA 8]))) (q' 40 [aG 0 1,ao (.call 156 [.t 41,.k (.v false [.c (.i .i64 6)])]),am 42,aH 43 true [bf 1 1,bL,bN,bC .leq 46 300],aP 43 47,aV 2] .ret))) [.t 2] [(154,[],b2J),(155,[],a7h),(156,[],a8V)] ?_;intro hb hE;simp only[go_sem];repeat' first|apply cj'|intro hc|exact om'|fail
 refine lq' false [1,6,7] [2] [] (fun i:{i:Nat // i<=r.Rows.length/\a2Y i (a0W r)=false}=>[(8,slV (.i .i64 i.1))]) nl' nl' (fun i=>r.Rows.length-i.1) (⟨0,z13⟩) ?_;intro S0 hS0 i;obtain⟨i,hi,ha⟩:=i;have hR:=d9i ha;have hw:0<i->IntKind.i64.wrap ((i:Int)-1)=((i-1:Nat):Int):=fun h=>by rw[IntWalk.i64_in _ z0D];omega
 simp only[go_sem,hS0];repeat' first|apply cj'|intro hc|exact om'|fail
 ·have hq:a0W r i=true:=by
   rw[<-hR];rcases hc with(h|h)|⟨h0,h⟩
   ·rw[h];rfl
   ·simp only[bne]at h;rw[h];simp
   ·rw[hw z0D]at h;have h':0<=a2f (r.Rows.getD (i-1) default).V (r.Rows.getD i default).V:=h;rw[V3 (show 0<i by omega),V3 h'];simp
  rw[c2U z0D hq]
 ·have hq:a0W r i=false:=by
   rw[<-hR];obtain⟨⟨h1,h2⟩,h3⟩:=hc;simp only[bne]at h2;rw[h1,h2];by_cases h0:0<i
   ·rw[hw h0,V3 (show(0:Int)<i by omega)]at h3;rw[V3 h0];exact h3
   ·rw[V5 h0];rfl
  exact nx0 ⟨i+1,z0D,a1h ha hq⟩
 ·obtain rfl:i=r.Rows.length:=by omega
  rw[y8,ha];simp
noncomputable def b2I:CT:=l4 (fun(x:f8)=>c7N x)
@[go_sem] def d9E:=fun x0 x1=>nm' (fQ' b2I rfl ⟨x0,x1⟩)
def c6j{s:c6}(hi:i<s.Rels.length)(h:a1g s.Rels i=true):j9 s=false:=by
 rw[j9,a2r hi h];simp
def c2q(s:c6):spZ 81 [(true,[j7 s.Rels])] [] (.one (false,[.b (j9 s)])):=by
 refine sy' Tryz.func81 (q' 1 [aX 1 0,aU false] (.seq (q' 4 [aG 0 1,aN,aC .gtr 6 24] (ci 7 (q' 2 [aU false] .ret))) (.seq (q' 8 [aG 0 1,aN,aK 0] (fO 0 12 [ar 11 10] 12 1 (q' 13 [am 11,aV 3] (.seq (G' 14 [aG 0 1,am 3,aI 3,aG 0 17,ac 128 [19],aO 20,am 21,aH 22 false [bf 0 1,bL,bm 3,bI 3,bF 1,bE 2,bc 129 [28],bO 29],aQ 22 30,am 31,aH 32 false [bm 3,bC .gtr 33 0,bm 34],aH 35 true [bf 0 1,bL,bm 3,bC .sub 38 1,bi 3 37 39,bF 0,bL,bf 0 1,bL,bm 3,bI 3,bF 0,bL,bD .geq 42 48],aH 32 false [bP 35 49],aQ 32 50]) (ci 51 (q' 2 [aU false] .ret)))) (g' 52 [aA 11]))) (q' 2 [aU true] .ret)))) [.t 2] [(128,[],a3s),(129,[],b3g)] ?_;intro hb hE;simp only[go_sem];repeat' first|apply cj'|intro hc|exact om'|fail
 ·rw[j9,V5 z0D];rfl
 have hA:=hc;clear hc;refine lq' false [1,10] [2] [] (fun i:{i:Nat // i<=s.Rels.length/\a2Y i (a1g s.Rels)=false}=>[(11,slV (.i .i64 i.1))]) nl' nl' (fun i=>s.Rels.length-i.1) (⟨0,z13⟩) ?_;intro S0 hS0 i;obtain⟨i,hi,ha⟩:=i;have hw:0<i->IntKind.i64.wrap ((i:Int)-1)=((i-1:Nat):Int):=fun h=>by rw[IntWalk.i64_in _ z0D];omega
 simp only[go_sem,hS0];repeat' first|apply cj'|intro hc|exact om'|fail
 ·have hq:a1g s.Rels i=true:=by
   rw[a1g];rcases hc with(h|h)|⟨h0,h⟩
   ·rw[h];rfl
   ·rw[h];simp
   ·rw[hw z0D]at h;have h':Op.bytesLess (s.Rels.getD (i-1) default).Name (s.Rels.getD i default).Name=false:=h;rw[V3 (show 0<i by omega),h'];simp
  rw[c6j z0D hq]
 ·have hq:a1g s.Rels i=false:=by
   obtain⟨⟨h1,h2⟩,h3⟩:=hc;rw[a1g,h1,h2];by_cases h0:0<i
   ·rw[hw h0,V3 (show(0:Int)<i by omega)]at h3;rw[V3 h0];exact h3
   ·rw[V5 h0];rfl
  exact nx0 ⟨i+1,z0D,a1h ha hq⟩
 ·obtain rfl:i=s.Rels.length:=by omega
  rw[j9,ha,V3 (show(s.Rels.length:Int)<=24 by omega)];rfl
noncomputable def a9p:CT:=l4 (fun(x:c6)=>c2q x)
@[go_sem] def d5C:=fun x0=>nm' (fQ' a9p rfl ⟨x0⟩)
def c1D(s:c6):spZ 62 [(true,[j7 s.Rels])] [] (.one (false,[.b (j9 s)])):=by
 refine sy' Tryz.func62 (q' 1 [aX 1 0,aU false] (.seq (q' 5 [aG 0 1,aN,aK 0] (fO 0 9 [ar 8 7] 9 1 (q' 10 [am 8,ai 3 6 8,aE 3,ax (w' 4 [.s,.i .i64,.sl k7]),av 3 10,aS 3 4 12] (.seq (G' 13 [aG 0 4,ac 99 [14],aO 15,am 16,aH 17 false [bf 1 4,bE 2,bc 100 [19],bO 20],aQ 17 21,am 22,aH 23 false [bm 3,bC .gtr 24 0,bm 25],aH 26 true [bf 0 1,bL,bm 3,bC .sub 29 1,bi 3 28 30,bF 0,bL,bf 0 4,bL,bD .geq 33 35],aH 23 false [bP 26 36],aQ 23 37]) (ci 38 (q' 2 [aU false] .ret)))) (g' 39 [aA 8]))) (q' 40 [aG 0 1,aN,aC .leq 42 24,aV 2] .ret))) [.t 2] [(99,[],a3p),(100,[],b2I)] ?_;intro hb hE;simp only[go_sem];repeat' first|apply cj'|intro hc|exact om'|fail
 refine lq' false [1,6,7] [2] [] (fun i:{i:Nat // i<=s.Rels.length/\a2Y i (a1g s.Rels)=false}=>[(8,slV (.i .i64 i.1))]) nl' nl' (fun i=>s.Rels.length-i.1) (⟨0,z13⟩) ?_;intro S0 hS0 i;obtain⟨i,hi,ha⟩:=i;have hw:0<i->IntKind.i64.wrap ((i:Int)-1)=((i-1:Nat):Int):=fun h=>by rw[IntWalk.i64_in _ z0D];omega
 simp only[go_sem,hS0];repeat' first|apply cj'|intro hc|exact om'|fail
 ·have hq:a1g s.Rels i=true:=by
   rw[a1g];rcases hc with(h|h)|⟨h0,h⟩
   ·rw[h];rfl
   ·rw[h];simp
   ·rw[hw z0D]at h;have h':Op.bytesLess (s.Rels.getD (i-1) default).Name (s.Rels.getD i default).Name=false:=h;rw[V3 (show 0<i by omega),h'];simp
  rw[c6j z0D hq]
 ·have hq:a1g s.Rels i=false:=by
   obtain⟨⟨h1,h2⟩,h3⟩:=hc;rw[a1g,h1,h2];by_cases h0:0<i
   ·rw[hw h0,V3 (show(0:Int)<i by omega)]at h3;rw[V3 h0];exact h3
   ·rw[V5 h0];rfl
  exact nx0 ⟨i+1,z0D,a1h ha hq⟩
 ·obtain rfl:i=s.Rels.length:=by omega
  rw[j9,ha,q3K,q1G]
noncomputable def a8K:CT:=l4 (fun(x:c6)=>c1D x)
@[go_sem] def d4M:=fun x0=>nm' (fQ' a8K rfl ⟨x0⟩)
def e2A{α:Type}{f:α->Nat}{k:Nat}:∀{l:List α},(∀x∈l,f x<=k)->(l.map f).sum<=k*l.length
 | [],_=>by simp
 | x::l,h=>by
   have:=e2A (l:=l) fun y hy=>h y (by simp[hy])
   have:=h x z0E;simp only[q0D,List.sum_cons,V9,Nat.mul_succ];omega
def a6X{r:f8}(h:y8 r=true):r.Rows.length<=300:=by
 simp only[y8,K7]at h;omega
def a1T{s:c6}(h:j9 s=true):s.Rels.length<=24:=by
 simp only[j9,K7]at h;omega
def a1o{s:c6}(h:j9 s=true):∀x∈s.Rels,y8 x.Rel=true:=by
 intro x hx;obtain⟨i,hi,rfl⟩:=q1I hx;simp only[j9,W3,q0W]at h;have:=a5p h.2 hi;simp only[a1g,q0Y,q0T,k8 default hi]at this;exact this.1.2
def b4a(s:c6)(i:Nat):Nat:=((s.Rels.take i).map fun x=>x.Rel.Rows.length).sum
def c2X{s:c6}(h:j9 s=true){i:Nat}(hi:i<=s.Rels.length):b4a s i<=7200:=by
 have h1:=a1T h;have h2:=e2A (f:=fun x:c9=>x.Rel.Rows.length) (k:=300) (l:=s.Rels.take i) fun x hx=>a6X (a1o h x (q1L hx))
 rw[V1]at h2;unfold b4a;omega
def c2Y{s:c6}{i:Nat}(hi:i<s.Rels.length):b4a s (i+1)=b4a s i+(s.Rels.getD i default).Rel.Rows.length:=by
 unfold b4a;rw[j6 default hi,q1B,List.sum_append];simp
def b6i{s:c6}{i:Nat}(hi:¬i<s.Rels.length):b4a s i=a0e s:=by
 unfold b4a a0e;rw[j5 hi]
def c2A(s:c6)(hpre:j9 s=true):spZ 53 [(true,[j7 s.Rels])] [] (.one (false,[.i .i64 (a0e s:Nat)])):=by
 refine sy' Tryz.func53 (q' 1 [aX 1 0,aK 0] (q' 3 [aK 0] (.seq (q' 5 [aG 0 1,aN,aK 0] (fO 0 9 [ar 8 7] 9 1 (q' 10 [am 8,aV 4] (g' 11 [am 3,aG 0 1,am 4,aI 3,aF 1,aG 1 16,aN,aD .add 11 19,aV 3])) (g' 21 [aA 8]))) (q' 22 [am 3,aV 2] .ret)))) [.t 2] [] ?_;intro hb hE;simp only[go_sem];repeat' first|apply cj'|intro hc|exact om'|fail
 refine lq' false [1,7] [2] [] (fun i:{i:Nat // i<=s.Rels.length}=>[(3,slV (.i .i64 (b4a s i.1:Nat))),(8,slV (.i .i64 i.1))]) nl' nl' (fun i=>s.Rels.length-i.1) (⟨0,z0E⟩) ?_;intro S0 hS0 i;obtain⟨i,hi⟩:=i;simp only[go_sem,hS0];repeat' first|apply cj'|intro hc|exact om'|fail
 ·have h1:=c2Y (s:=s) (i:=i) z0D;have h2:=c2X hpre (i:=i+1) z0D;exact nx0 ⟨i+1,z0D⟩
 ·rw[b6i z0D]
noncomputable def a9t:CT:=n9 (fun(x:c6) h=>c2A x h)
@[go_sem] def d5M:=fun x0=>nm' (fP' a9t rfl ⟨x0⟩)
def b5B(s:c6)(hpre:j9 s=true):spZ 104 [(true,[j7 s.Rels])] [] (.one (false,[.i .i64 (a0e s:Nat)])):=by
 refine sy' Tryz.func104 (q' 1 [aX 1 0,aK 0] (q' 3 [aK 0] (.seq (q' 6 [aG 0 1,aN,aK 0] (fO 0 10 [ar 9 8] 10 1 (q' 11 [ai 3 7 9,aE 3,ax (w' 5 [.s,.i .i64,.sl k7]),aS 3 5 12] (g' 13 [am 3,af 1 5,aG 1 14,aN,aD .add 13 17,aV 3])) (g' 19 [aA 9]))) (q' 20 [am 3,aV 2] .ret)))) [.t 2] [] ?_;intro hb hE;simp only[go_sem];repeat' first|apply cj'|intro hc|exact om'|fail
 refine lq' false [7,8] [] [] (fun i:{i:Nat // i<=s.Rels.length}=>[(3,slV (.i .i64 (b4a s i.1:Nat))),(9,slV (.i .i64 i.1))]) nl' nl' (fun i=>s.Rels.length-i.1) (⟨0,z0E⟩) ?_;intro S0 hS0 i;obtain⟨i,hi⟩:=i;simp only[go_sem,hS0];repeat' first|apply cj'|intro hc|exact om'|fail
 ·have h1:=c2Y (s:=s) (i:=i) z0D;have h2:=c2X hpre (i:=i+1) z0D;exact nx0 ⟨i+1,z0D⟩
 ·rw[b6i z0D]
noncomputable def a6u:CT:=n9 (fun(x:c6) h=>b5B x h)
@[go_sem] def d1D:=fun x0=>nm' (fP' a6u rfl ⟨x0⟩)
def w4(s:c6)(n:List UInt8):f8×Bool:=if 0<=a0A (fun x:c9=>x.Name==n) s.Rels then((s.Rels.getD (a0A (fun x:c9=>x.Name==n) s.Rels).toNat default).Rel,true)else(⟨0,[]⟩,false)
def c2T{s:c6}{n:List UInt8}(hi:i<s.Rels.length)(ha:(s.Rels.take i).any (fun x=>x.Name==n)=false)(h:((s.Rels.getD i default).Name==n)=true):w4 s n=((s.Rels.getD i default).Rel,true):=by
 rw[w4,y5 (p:=fun x:c9=>x.Name==n) default hi ha h,if_pos z0D];rfl
def c2S{s:c6}{n:List UInt8}(ha:s.Rels.any (fun x=>x.Name==n)=false):w4 s n=(⟨0,[]⟩,false):=by
 rw[w4,w9 ha,if_neg z02]
def c5f(s:c6)(n:List UInt8):spZ 89 [(true,[j7 s.Rels]),(false,[.s n])] [] (.tup [(true,[.i .i64 (((w4 s n).1).Arity),u7 (((w4 s n).1).Rows)]),(false,[.b ((w4 s n).2)])]):=by
 refine sx' false true none Tryz.func89 (q' 2 [aX 1 0,ax (w' 4 [.i .i64,.sl k7]),ab 5 false] (.seq (q' 7 [aG 0 2,aN,aK 0] (fO 0 11 [ar 10 9] 11 1 (q' 12 [am 10,aV 6] (q' 13 [aG 0 2,am 6,aI 3,aG 0 16,am 1,aD .eql 18 19] (ci 20 (q' 21 [aG 0 2,am 6,aI 3,aF 1,aE 2,aS 2 4 26,ab 5 true] .ret)))) (g' 27 [aA 10]))) (q' 28 [ao (.bld [.i .i64,.sl k7] []),aS 2 4 28,ab 5 false] .ret))) [.c 4 true 2,.t 5] [] ?_;intro hb hE;simp only[go_sem];repeat' first|apply cj'|intro hc|exact om'|fail
 refine lq' false [1,2,4,9] [4] [] (fun i:{i:Nat // i<=s.Rels.length/\(s.Rels.take i).any (fun x=>x.Name==n)=false}=>[(10,slV (.i .i64 i.1))]) (fun i=>[(8,[.c (.i .i64 0),.nl k7])]) nl' (fun i=>s.Rels.length-i.1) (⟨0,z0E⟩) ?_;intro S0 hS0 i;obtain⟨i,hi,ha⟩:=i;simp only[go_sem,hS0];repeat' first|apply cj'|intro hc|exact om'|fail
 ·rw[c2T z0D ha hc];exact⟨⟨rfl,rfl⟩,rfl⟩
 ·exact nx0 ⟨i+1,z0D,u6 (p:=fun x:c9=>x.Name==n) default z0D ha hc⟩
 ·rw[j5 z0D]at ha;rw[c2S ha];exact⟨⟨rfl,rfl⟩,rfl⟩
noncomputable def a3v:CT:=l4 (fun(x:c6×(List UInt8))=>c5f x.1 x.2)
@[go_sem] def d8r:=fun x0 n=>nm' (fQ' a3v rfl (⟨x0⟩,n))
def c7U(s:c6)(n:List UInt8):spZ 162 [(true,[j7 s.Rels]),(false,[.s n])] [] (.tup [(true,[.i .i64 (((w4 s n).1).Arity),u7 (((w4 s n).1).Rows)]),(false,[.b ((w4 s n).2)])]):=by
 refine sx' false true none Tryz.func162 (q' 2 [aX 1 0,ax (w' 4 [.i .i64,.sl k7]),ab 5 false] (.seq (q' 8 [aG 0 2,aN,aK 0] (fO 0 12 [ar 11 10] 12 1 (q' 13 [ai 3 9 11,aE 3,ax (w' 7 [.s,.i .i64,.sl k7]),aS 3 7 14] (q' 15 [aG 0 7,am 1,aD .eql 16 17] (ci 18 (q' 19 [af 1 7,aE 2,aS 2 4 20,ab 5 true] .ret)))) (g' 21 [aA 11]))) (q' 22 [ao (.bld [.i .i64,.sl k7] []),aS 2 4 22,ab 5 false] .ret))) [.c 4 true 2,.t 5] [] ?_;intro hb hE;simp only[go_sem];repeat' first|apply cj'|intro hc|exact om'|fail
 refine lq' false [1,4,9,10] [] [] (fun i:{i:Nat // i<=s.Rels.length/\(s.Rels.take i).any (fun x=>x.Name==n)=false}=>[(11,slV (.i .i64 i.1))]) (fun i=>[(8,[.c (.i .i64 0),.nl k7])]) nl' (fun i=>s.Rels.length-i.1) (⟨0,z0E⟩) ?_;intro S0 hS0 i;obtain⟨i,hi,ha⟩:=i;simp only[go_sem,hS0];repeat' first|apply cj'|intro hc|exact om'|fail
 ·rw[c2T z0D ha hc];exact⟨⟨rfl,rfl⟩,rfl⟩
 ·exact nx0 ⟨i+1,z0D,u6 (p:=fun x:c9=>x.Name==n) default z0D ha hc⟩
 ·rw[j5 z0D]at ha;rw[c2S ha];exact⟨⟨rfl,rfl⟩,rfl⟩
noncomputable def a4o:CT:=l4 (fun(x:c6×(List UInt8))=>c7U x.1 x.2)
@[go_sem] def d9O:=fun x0 n=>nm' (fQ' a4o rfl (⟨x0⟩,n))
def vNe(a b:List d8)(i:Nat):Bool:=!vEq (a.getD i default) (b.getD i default)
def a2S(a b:List d8):Bool:=decide (a.length=b.length)&&!a2Y a.length (vNe a b)
def e2C{a b:d8}(h:vEq a b=true):a=b:=by
 obtain⟨n,s⟩:=a;obtain⟨m,r⟩:=b;simp only[vEq,W3,beq_iff_eq]at h;rw[h.1,h.2]
def vEq_rfl(a:d8):vEq a a=true:=by simp[vEq]
def b6Q(a b:List d8):a2S a b=decide (a=b):=by
 rw[q3L,V8];constructor
 ·intro h;simp only[a2S,K7,q0W]at h;refine q4Q h.1 fun i h1 h2=>?_
  have:=a5p h.2 h1;simp only[vNe,q0T,k8 default h1,k8 default h2]at this;exact e2C this
 ·rintro rfl;rw[a2S,V3 rfl,q0P,q0W];cases h:a2Y a.length (vNe a a)with
  | false=>rfl
  | true=>
    simp only[a2Y,q0W]at h;rw[e0I.2 fun i _=>by simp[vNe,vEq_rfl]]at h;cases h
def b3N(a:c7)(b:c7):spZ 192 [(true,[l9 a.V]),(true,[l9 b.V])] [] (.one (false,[.b (decide (a.V=b.V))])):=by
 refine sy' Tryz.func192 (q' 2 [aX 1 0,aX 1 1,aU false] (.seq (q' 6 [aG 0 2,aN,aG 0 3,aN,aD .neq 8 11] (ci 12 (q' 4 [aU false] .ret))) (.seq (q' 13 [aG 0 2,aN,aK 0] (fO 0 17 [ar 16 15] 17 1 (q' 18 [am 16,aV 5] (.seq (G' 19 [aG 0 2,am 5,aI 2,aE 2,aG 0 3,am 5,aI 2,aE 2,ao (.eqs true [.i .i64,.s] (.t 23) (.t 28))]) (ci 29 (q' 4 [aU false] .ret)))) (g' 30 [aA 16]))) (q' 4 [aU true] .ret)))) [.t 4] [] ?_;intro hb hE;rw[<-b6Q];simp only[go_sem];repeat' first|apply cj'|intro hc|exact om'|fail
 ·rw[a2S,V5 (fun h=>by simp[h]at hc)];rfl
 have hl:a.V.length=b.V.length:=by simpa[q3H]using hc
 clear hc;refine lq' false [2,3,15] [4,6] [] (fun i:{i:Nat // i<=a.V.length/\a2Y i (vNe a.V b.V)=false}=>[(16,slV (.i .i64 i.1))]) nl' nl' (fun i=>a.V.length-i.1) (⟨0,z13⟩) ?_;intro S0 hS0 i;obtain⟨i,hi,ha⟩:=i;simp only[go_sem,hS0];repeat' first|apply cj'|intro hc|exact om'|fail
 ·rw[a2S,a2r (i:=i) z0D (show vNe a.V b.V i=true by rw[vNe,vEq,hc];rfl)];simp
 ·exact nx0 ⟨i+1,z0D,a1h ha (show vNe a.V b.V i=false by rw[vNe,vEq,hc.1,hc.2];rfl)⟩
 ·obtain rfl:i=a.V.length:=by omega
  rw[a2S,ha,V3 hl];rfl
noncomputable def a5z:CT:=l4 (fun(x:c7×c7)=>b3N x.1 x.2)
@[go_sem] def c9I:=fun x0 x1=>nm' (fQ' a5z rfl (⟨x0⟩,⟨x1⟩))
def e1Q(a:List d8)(b:List d8):spZ 169 [(false,[l9 a]),(false,[l9 b])] [] (.one (false,[.b (decide (a=b))])):=by
 refine sy' Tryz.func169 (q' 4 [aU false] (.seq (q' 6 [am 0,aN,am 1,aN,aD .neq 7 9] (ci 10 (q' 4 [aU false] .ret))) (.seq (q' 11 [am 0,aN,aK 0] (fO 0 14 [ar 13 12] 14 1 (q' 15 [am 13,aV 5] (.seq (G' 16 [aM [0,5],aI 2,aE 2,aM [1,5],aI 2,aE 2,ao (.eqs true [.i .i64,.s] (.t 19) (.t 23))]) (ci 24 (q' 4 [aU false] .ret)))) (g' 25 [aA 13]))) (q' 4 [aU true] .ret)))) [.t 4] [] ?_;intro hb hE;rw[<-b6Q];simp only[go_sem];repeat' first|apply cj'|intro hc|exact om'|fail
 ·rw[a2S,V5 (fun h=>by simp[h]at hc)];rfl
 have hl:a.length=b.length:=by simpa[q3H]using hc
 clear hc;refine lq' false [0,1,12] [] [] (fun i:{i:Nat // i<=a.length/\a2Y i (vNe a b)=false}=>[(13,slV (.i .i64 i.1))]) nl' nl' (fun i=>a.length-i.1) (⟨0,z13⟩) ?_;intro S0 hS0 i;obtain⟨i,hi,ha⟩:=i;simp only[go_sem,hS0];repeat' first|apply cj'|intro hc|exact om'|fail
 ·rw[a2S,a2r (i:=i) z0D (show vNe a b i=true by rw[vNe,vEq,hc];rfl)];simp
 ·exact nx0 ⟨i+1,z0D,a1h ha (show vNe a b i=false by rw[vNe,vEq,hc.1,hc.2];rfl)⟩
 ·obtain rfl:i=a.length:=by omega
  rw[a2S,ha,V3 hl];rfl
noncomputable def c9u:CT:=l4 (fun(x:(List d8)×(List d8))=>e1Q x.1 x.2)
@[go_sem] def c_eqVals_eq:=fun a b=>nm' (fQ' c9u rfl (a,b))
def a9B(a:c7)(b:c7):spZ 112 [(true,[l9 a.V]),(true,[l9 b.V])] [] (.one (false,[.b (decide (a.V=b.V))])):=by
 refine sy' Tryz.func112 (q' 2 [aX 1 0,aX 1 1,aU false] (q' 5 [aG 0 2,aG 0 3,ac 169 [6,8],aV 4] .ret)) [.t 4] [(169,[],c9u)] ?_;intro hb hE;simp only[go_sem];repeat' first|apply cj'|intro hc|exact om'|fail
noncomputable def a8T:CT:=l4 (fun(x:c7×c7)=>a9B x.1 x.2)
@[go_sem] def d5e:=fun x0 x1=>nm' (fQ' a8T rfl (⟨x0⟩,⟨x1⟩))
def s8(l:List c7)(r:c7):Bool:=l.any fun x=>decide (x.V=r.V)
def c5d(l:List c7)(r:c7):spZ 135 [(false,[u7 l]),(true,[l9 r.V])] [] (.one (false,[.b (s8 l r)])):=by
 refine sy' Tryz.func135 (q' 3 [aX 1 1,aU false] (.seq (q' 6 [am 0,aN,aK 0] (fO 0 9 [ar 8 7] 9 1 (q' 10 [am 8,aV 5] (.seq (G' 11 [aM [0,5],aI 1,aE 1,ae 1 3,ac 192 [14,15]]) (ci 16 (q' 4 [aU true] .ret)))) (g' 17 [aA 8]))) (q' 4 [aU false] .ret))) [.t 4] [(192,[],a5z)] ?_;intro hb hE;simp only[go_sem];repeat' first|apply cj'|intro hc|exact om'|fail
 refine lq' false [0,3,7] [6] [] (fun i:{i:Nat // i<=l.length/\(l.take i).any (fun x=>decide (x.V=r.V))=false}=>[(8,slV (.i .i64 i.1))]) nl' nl' (fun i=>l.length-i.1) (⟨0,z0E⟩) ?_;intro S0 hS0 i;obtain⟨i,hi,ha⟩:=i;simp only[go_sem,hS0];repeat' first|apply cj'|intro hc|exact om'|fail
 ·rw[s8,any_true (p:=fun x:c7=>decide (x.V=r.V)) (d:=default) (i:=i) z0D (V3 hc)]
 ·exact nx0 ⟨i+1,z0D,u6 (p:=fun x:c7=>decide (x.V=r.V)) default z0D ha (V5 hc)⟩
 ·rw[j5 z0D]at ha;rw[s8,ha]
noncomputable def a3t:CT:=l4 (fun(x:(List c7)×c7)=>c5d x.1 x.2)
@[go_sem] def d8p:=fun l x0=>nm' (fQ' a3t rfl (l,⟨x0⟩))
def c8m(s:c6)(n:List UInt8)(r:c7):spZ 252 [(true,[j7 s.Rels]),(false,[.s n]),(true,[l9 r.V])] [] (.one (false,[.b (s8 (w4 s n).1.Rows r)])):=by
 refine sy' Tryz.func252 (q' 5 [ax (o' 3 (.box 1 (.t 0))),aX 1 2,aU false] (q' 10 [ae 1 3,am 1,ac 89 [10,11],aV 9,aZ 9 0,aZ 9 1,ax (w' 7 [.i .i64,.sl k7]),aS 2 7 13,aV 8] (q' 15 [aG 1 7,ae 1 5,ac 135 [16,17],aV 6] .ret))) [.t 6] [(89,[],a3v),(135,[],a3t)] ?_;intro hb hE;simp only[go_sem];repeat' first|apply cj'|intro hc|exact om'|fail
noncomputable def b3m:CT:=l4 (fun(x:c6×(List UInt8)×c7)=>c8m x.1 x.2.1 x.2.2)
@[go_sem] def e0h:=fun x0 n x1=>nm' (fQ' b3m rfl (⟨x0⟩,n,⟨x1⟩))
abbrev bsP(l:List c7)(t:c7)(k:Nat):Bool:=decide (0<=a2f (l.getD k default).V t.V)
abbrev bsN(l:List c7)(t:c7):Nat:=a2O l.length (bsP l t)
def mid_eq{i j:Nat}(h:i+j<=4000000):IntKind.i64.wrap ((IntKind.u64.wrap (IntKind.i64.wrap ((i:Int)+j))).fdiv (2^min 1 64))=(((i+j)/2:Nat):Int):=by
 have e1:IntKind.i64.wrap ((i:Int)+j)=(i:Int)+j:=IntWalk.i64_in _ z0D;have e2:IntKind.u64.wrap ((i:Int)+j)=(i:Int)+j:=IntWalk.u64_in _ z0D;have e3:(2:Int)^min 1 64=2:=by decide
 rw[e1,e2,e3,Int.fdiv_eq_ediv_of_nonneg _ z02];have e4:IntKind.i64.wrap (((i:Int)+j)/2)=((i:Int)+j)/2:=IntWalk.i64_in _ z0D;rw[e4];omega
def bs_end{l:List c7}{t:c7}(hi:i<=l.length)(ha:∀k,k<i->bsP l t k=false)(hz:∀k,i<=k->k<l.length->bsP l t k=true):bsN l t=i:=by
 by_cases h:i<l.length
 ·exact a2v ha (hz i (q0F _) h) h
 ·have:i=l.length:=by omega
  subst this;exact a2u ha
def k_bsRow(l:List c7)(t:c7)(hpre:l.length<=1000000/\∀a b,a<=b->b<l.length->a2f (l.getD b default).V t.V<0->a2f (l.getD a default).V t.V<0):spZ 235 [(false,[u7 l]),(true,[l9 t.V]),(false,[.f 155 []])] [] (.tup [(false,[.i .i64 (((bsN l t:Nat),decide (bsN l t<l.length)&&a2f (l.getD (bsN l t) default).V t.V==0).1)]),(false,[.b (((bsN l t:Nat),decide (bsN l t<l.length)&&a2f (l.getD (bsN l t) default).V t.V==0).2)])]):=by
 refine sy' Tryz.func235 (q' 4 [aX 1 1,az 6 0,ab 7 false] (q' 12 [am 0,aN,aV 8] (q' 9 [aV 14,aK 0,am 14] (.seq (lO 0 (.seq (q' 15 [aM [9,10],ar 15 16] (cd 17 .skip (.exit 0))) (.block 1 (q' 18 [aM [9,10],aD .add 18 19,ao (.cv .u64 (.t 20)),ao (.bin .shr (.t 21) (.k (.v false [.c (.i .u64 1)]))),ao (.cv .i64 (.t 22)),aV 11] (.seq (G' 24 [aM [2,0,11],aI 1,aE 1,ae 1 4,ao (.callv (.t 24) [.t 28,.t 29]),aC .lss 30 0]) (cd 31 (g' 32 [am 11,aC .add 32 1,aV 9]) (g' 34 [am 11,aV 10]))))))) (.seq (G' 35 [aM [9,9,8],ar 36 37,am 38,aH 39 true [bm 2,bm 0,bm 9,bI 1,bE 1,be 1 4,bo (.callv (.t 40) [.t 44,.t 45]),bC .eql 46 0],aP 39 47,av 6 35,aV 7]) .ret))))) [.t 6,.t 7] [(155,[],a7h)] ?_;intro hb hE;obtain⟨hlen,hmo⟩:=hpre;simp only[go_sem];repeat' first|apply cj'|intro hc|exact om'|fail
 refine lq' false [0,2,4,8] [8] [] (fun i:{p:Nat×Nat // p.1<=p.2/\p.2<=l.length/\(∀k,k<p.1->bsP l t k=false)/\(∀k,p.2<=k->k<l.length->bsP l t k=true)}=>[(9,slV (.i .i64 i.1.1)),(10,slV (.i .i64 i.1.2))]) nl' nl' (fun i=>i.1.2-i.1.1) (⟨(0,l.length),z0E,z0E,by intro k h;simp at h,by intro k h1 h2;simp at h1;omega⟩) ?_;intro S0 hS0 i;obtain⟨⟨i,j⟩,hij,hj,ha,hz⟩:=i;simp only at hij hj ha hz;have hm:=mid_eq (i:=i) (j:=j) z0D;simp only[go_sem,hS0,hm];repeat' first|apply cj'|intro hc|exact om'|fail
 ·have h1:∀k,k<(i+j)/2+1->bsP l t k=false:=by
   intro k hk;have:=hmo k ((i+j)/2) z0D z0D hc;exact V5 (by omega)
  (refine lpK_n2 (⟨((i+j)/2+1,j),z0G,hj,h1,hz⟩) _ rfl ?_;simp only[go_sem,hS0,hm]<;>repeat' first|apply W6|exact on'|fail)
 ·have h1:∀k,(i+j)/2<=k->k<l.length->bsP l t k=true:=by
   intro k hk hl;refine V3 ?_;have:¬a2f (l.getD k default).V t.V<0:=fun h=>hc (hmo _ k hk hl h)
   omega
  (refine lpK_n2 (⟨(i,(i+j)/2),z0G,z0G,ha,h1⟩) _ rfl ?_;simp only[go_sem,hS0,hm]<;>repeat' first|apply W6|exact on'|fail)
 ·have hz':∀k,i<=k->k<l.length->bsP l t k=true:=fun k h1 h2=>hz k z0D h2
  rw[bs_end z0D ha hz'];refine⟨rfl, ?_⟩
  congr 1
  exact decide_eq_decide.2 z0D
noncomputable def d4F:CT:=n9 (fun(x:(List c7)×c7) h=>k_bsRow x.1 x.2 h)
@[go_sem] def c_bsRow_eq:=fun l x0=>nm' (fP' d4F rfl (l,⟨x0⟩))
def d0E(r:f8)(t:c7)(hpre:r.Rows.length<=1000000/\∀a b,a<=b->b<r.Rows.length->a2f (r.Rows.getD b default).V t.V<0->a2f (r.Rows.getD a default).V t.V<0):spZ 170 [(true,[.i .i64 r.Arity,u7 r.Rows]),(true,[l9 t.V])] [] (.tup [(false,[.i .i64 (((bsN r.Rows t:Nat),decide (bsN r.Rows t<r.Rows.length)&&a2f (r.Rows.getD (bsN r.Rows t) default).V t.V==0).1)]),(false,[.b (((bsN r.Rows t:Nat),decide (bsN r.Rows t<r.Rows.length)&&a2f (r.Rows.getD (bsN r.Rows t) default).V t.V==0).2)])]):=by
 refine sy' Tryz.func170 (q' 2 [aX 2 0,aX 1 1,aK 0,aU false] (q' 6 [aG 1 2,ae 1 3,ao (.call 235 [.t 7,.t 8,.k (.v false [.c (.f 155 [])])]),aZ 9 0,aZ 9 1,av 4 10,aV 5] .ret)) [.t 4,.t 5] [(235,[],d4F)] ?_;intro hb hE;obtain⟨hlen,hmo⟩:=hpre;simp only[go_sem];repeat' first|apply cj'|intro hc|exact om'|fail
 all_goals exact⟨hlen,hmo⟩
noncomputable def b6B:CT:=n9 (fun(x:f8×c7) h=>d0E x.1 x.2 h)
@[go_sem] def e1e:=fun x0 x1 x2=>nm' (fP' b6B rfl (⟨x0,x1⟩,⟨x2⟩))
def c9o{x y:List UInt8}(h:Op.bytesLess x y=true):(y==[])=false:=by
 cases y with
 | nil=>cases x<;>simp[Op.bytesLess]at h
 | cons a y=>rfl
def e2D{a b c:d8}(h1:a0h a b=true)(h2:a0h b c=true):a0h a c=true:=by
 unfold a0h at*;cases ha:(a.S==[])<;>cases hb:(b.S==[])<;>cases hc:(c.S==[])<;>simp only[ha,hb,hc,q1V,q2B,Bool.false_and,q1G,z0C,V8]at h1 h2 ⊢;all_goals first
  | (rw[c9o h1]at hb;exact absurd hb z02)
  | (rw[c9o h2]at hc;exact absurd hc z02)
  | omega
  | exact a2h _ _ _ h1 h2
  | (rw[beq_iff_eq]at ha;rw[ha];cases hcs:c.S with
      | nil=>rw[hcs]at hc;cases hc
      | cons x y=>rfl)
def d4y{a b:d8}(ha:o8 a=true)(hb:o8 b=true)(h1:a0h a b=false)(h2:a0h b a=false):a=b:=by
 have:=b6m ha hb;rw[h1,h2,q3S]at this;exact e2C (by simpa using this)
abbrev okL(a:List d8):Prop:=∀x∈a,o8 x=true
def okL.tl{x:d8}(h:okL (x::a)):okL a:=fun y hy=>h y z0T
def c8s:∀{a b c:List d8},okL a->okL b->okL c->a1C a b=-1->a1C b c=-1->a1C a c=-1
 | [],[],_,_,_,_,h,_=>by simp[a1C]at h
 | [],y::b,[],_,_,_,_,h=>by simp[a1C]at h
 | [],y::b,z::c,_,_,_,_,_=>rfl
 | x::a,[],_,_,_,_,h,_=>by simp[a1C]at h
 | x::a,y::b,[],_,_,_,_,h=>by simp[a1C]at h
 | x::a,y::b,z::c,ha,hb,hc,h1,h2=>by
   have hx:=ha x z0E;have hy:=hb y z0E;have hz:=hc z z0E;rw[a1C]at h1 h2 ⊢;cases e1:a0h x y with
   | true=>
     cases e2:a0h y z with
     | true=>rw[e2D e1 e2];rfl
     | false=>
       rw[e2,V2]at h2;cases e3:a0h z y with
       | true=>rw[e3,W8]at h2;omega
       | false=>rw[<-d4y hy hz e2 e3,e1];rfl
   | false=>
     rw[e1,V2]at h1;cases e3:a0h y x with
     | true=>rw[e3,W8]at h1;omega
     | false=>
       rw[e3,V2]at h1;have:=d4y hx hy e1 e3;subst this;cases e2:a0h x z with
       | true=>rfl
       | false=>
         rw[e2,V2]at h2;cases e4:a0h z x with
         | true=>rw[e4,W8]at h2;omega
         | false=>
           rw[e4,V2]at h2;exact c8s ha.tl hb.tl hc.tl h1 h2
def c6i:∀{a b:List d8},okL a->okL b->(a1C a b=0↔a=b)
 | [],[],_,_=>by simp[a1C]
 | [],y::b,_,_=>by simp[a1C]
 | x::a,[],_,_=>by simp[a1C]
 | x::a,y::b,ha,hb=>by
   have ih:=c6i ha.tl hb.tl;rw[a1C];cases e1:a0h x y with
   | true=>
     simp only[W8,V4];refine⟨fun h=>z0D,fun h=>?_⟩;have h3:=b6m (ha x z0E) (hb y z0E);rw[<-h.1]at e1 h3;rw[e1]at h3;simp at h3
   | false=>
     cases e2:a0h y x with
     | true=>
       simp only[z0C,V4];refine⟨fun h=>z0D,fun h=>?_⟩;rw[h.1]at e1 e2;rw[e1]at e2;cases e2
     | false=>
       have:=d4y (ha x z0E) (hb y z0E) e1 e2;subst this;simpa using ih
def c8t{r:f8}(h:y8 r=true):∀{b a:Nat},a<b->b<r.Rows.length->a1C (r.Rows.getD a default).V (r.Rows.getD b default).V=-1:=by
 have hN:∀i,i<r.Rows.length->a0W r i=false:=by
  intro i hi;simp only[y8,W3,q0W]at h;exact a5p h.2 hi
 have hO:∀i,i<r.Rows.length->okL (r.Rows.getD i default).V:=fun i hi=>a0v (a3j (hN i hi))
 intro b
 induction b with
 | zero=>intro a h;omega
 | succ b ih=>
   intro a hab hb;have hs:a1C (r.Rows.getD b default).V (r.Rows.getD (b+1) default).V=-1:=by
    have:=hN (b+1) hb;simp only[a0W,q0Y,Nat.zero_lt_succ,decide_true,q0P,q0T,beq_iff_eq,Nat.add_sub_cancel]at this;exact this.2
   rcases q3T.1 hab with h1|rfl
   ·exact c8s (hO a z0D) (hO b z0D) (hO _ hb) (ih h1 z0D) hs
   ·exact hs
def a2k{r:f8}(h:y8 r=true)(hi:i<r.Rows.length):okL (r.Rows.getD i default).V:=by
 simp only[y8,W3,q0W]at h;exact a0v (a3j (a5p h.2 hi))
def b2B(ha:okL a)(hb:okL b):a2f a b<0↔a1C a b=-1:=by
 have h:=b4b ha hb;unfold sgn at h;omega
def c7b(ha:okL a)(hb:okL b):a2f a b=0↔a=b:=by
 have h:=b4b ha hb;rw[<-c6i ha hb];unfold sgn at h;omega
def e2s{r:f8}(h:y8 r=true){t:c7}(ht:a0t t=true):∀a b,a<=b->b<r.Rows.length->a2f (r.Rows.getD b default).V t.V<0->a2f (r.Rows.getD a default).V t.V<0:=by
 intro a b hab hb hl;rcases Nat.lt_or_eq_of_le hab with h1|rfl
 ·rw[b2B (a2k h hb) (a0v ht)]at hl;rw[b2B (a2k h z0D) (a0v ht)];exact c8s (a2k h z0D) (a2k h hb) (a0v ht) (c8t h h1 hb) hl
 ·exact hl
def rel_has{r:f8}(h:y8 r=true){t:c7}(ht:a0t t=true):(decide (bsN r.Rows t<r.Rows.length)&&a2f (r.Rows.getD (bsN r.Rows t) default).V t.V==0)=s8 r.Rows t:=by
 rw[q3L];constructor
 ·intro hh;simp only[K7,beq_iff_eq]at hh;exact any_true (p:=fun x:c7=>decide (x.V=t.V)) (d:=default) hh.1 (V3 ((c7b (a2k h hh.1) (a0v ht)).1 hh.2))
 ·intro hh;rw[s8,q3E]at hh;obtain⟨x,hx,he⟩:=hh;obtain⟨k,hk,rfl⟩:=q1I hx;rw[V8]at he;have hg:=k8 (l:=r.Rows) default hk;have e:bsN r.Rows t=k:=by
   refine a2v (fun j hj=>?_) ?_ hk
   ·refine V5 ?_;have:=(b2B (a2k h (show j<r.Rows.length by omega)) (a0v ht)).2 (by
     have:=c8t h hj hk;rw[hg,he]at this;exact this)
    omega
   ·refine V3 ?_;rw[hg,(c7b (by rw[<-hg];exact a2k h hk) (a0v ht)).2 he];omega
  rw[e,V3 hk,hg,(c7b (by rw[<-hg];exact a2k h hk) (a0v ht)).2 he];rfl
def d4n(r:f8)(t:c7)(hpre:y8 r=true/\a0t t=true):spZ 116 [(true,[.i .i64 r.Arity,u7 r.Rows]),(true,[l9 t.V])] [] (.one (false,[.b (s8 r.Rows t)])):=by
 refine sy' Tryz.func116 (q' 2 [aX 2 0,aX 1 1,aU false] (q' 8 [ae 2 2,ae 1 3,ac 170 [8,9],aV 7,aZ 7 0,aZ 7 1,av 5 11,aV 6] (q' 13 [am 6,aV 4] .ret))) [.t 4] [(170,[],b6B)] ?_;intro hb hE;obtain⟨hR,hT⟩:=hpre;simp only[go_sem];repeat' first|apply cj'|intro hc|exact om'|fail
 ·exact⟨by have:=a6X hR;omega,e2s hR hT⟩
 ·exact rel_has hR hT
noncomputable def a7i:CT:=n9 (fun(x:f8×c7) h=>d4n x.1 x.2 h)
@[go_sem] def e2V:=fun x0 x1 x2=>nm' (fP' a7i rfl (⟨x0,x1⟩,⟨x2⟩))
end Go.Aw
namespace Go.Aw
open Go.Proofs Go.Lib
set_option linter.all false
set_option maxRecDepth 100000
set_option maxHeartbeats 4000000
abbrev a7y:Value:=.agg #[.string ⟨#[]⟩,.int .i64 0,.slice none 0 0]
def c7C(w:World)(a:Option Addr)(n c:Nat)(ax:Addr)(cx:Nat)(v':Value)(w':World)(hr:(Builtin.append_ #[40,40] 40 #[.slice a n c,.slice (some ax) 1 cx]).run Tryz.prog w=.ok v' w'):
  Calls Tryz.prog 161 #[.slice a n c,.int .i64 n,.slice (some ax) 1 cx] w fun x w''=>x=.returned v'/\w''=w':=by
 have hz1:¬(((1:Nat):Int)=0):=by omega
 have u0:=run_underlying Tryz.underlying40
 go_enter Tryz.func161,Tryz.ntmps161
 go_wp2_with (at_builtin;refine a7p _ rfl _ _ 40 40 rfl _ _ rfl rfl hr ?_)
 all_goals(try go_ret)
 all_goals(first|exact⟨rfl,rfl⟩)
def b0Y:(Tryz.prog.info? 130).map (fun i=>(i.zero,i.size,i.bytes))=some (some a7y,3,48):=z0L
def c1r(b o n c i vb vo vc:Nat)(cs vs:List Value)(w:World)(hi:i<n)(hroom:n+1<=c)(hcm:c<=maxLen)(hvb:vb≠b)(hcl:cs.length=n*3)(hvl:vs.length=3)(hcs:CellsAt w b o cs)(hvs:CellsAt w vb vo vs)(hob:OwnBlk w b (o+c*3))(hov:OwnBlk w vb (vo+3))(h1c:∀v∈cs,v.oneCell'=true)(h1v:∀v∈vs,v.oneCell'=true):
  Calls Tryz.prog 161 #[.slice (some ⟨b,o,none⟩) n c,.int .i64 i,.slice (some ⟨vb,vo,none⟩) 1 vc] w fun x w'=>x=.returned (.slice (some ⟨b,o,none⟩) (n+1) c)/\∃u,Drew w u/\w'=(u.setCells b (o+(i+1)*3) (cs.drop (i*3))).setCells b (o+i*3) vs:=by
 have u0:=run_underlying Tryz.underlying40;have hz1:¬(((1:Nat):Int)=0):=by omega
 have hz2:¬((i:Int)=(n:Int)):=by omega
 have mixed:Tryz.prog.follows Departure.mixedOrders=true:=by kernel_rfl
 simp only[maxLen]at hcm;have hsz:(Tryz.prog.info? 130).map (·.size)=some 3:=by kernel_rfl
 obtain⟨cb,eb,hb,hbs⟩:=hob;obtain⟨cv,ev,hv,hvs2⟩:=hov;have hcell:∀(W:World) (cc:Array Value),W.heap[b]? = some (.cells cc eb (0,0))->o+c*3<=cc.size->∀j,j<c*3->(W.cell? ⟨b,o+j,none⟩).isSome=true:=fun W cc h h2 j hj=>by
  simp only[World.cell?,h];rw[q1N z0D];rfl
 have hfz:∀(W:World) (cc:Array Value),W.heap[b]? = some (.cells cc eb (0,0))->∀x,W.frozen? ⟨b,x,none⟩=false:=fun W cc h x=>by simp[World.frozen?,h]
 have hov:∀lb cb',(callFunc 216 #[.slice (some ⟨vb,vo,none⟩) 1 vc,.slice (some ⟨b,o+(i+1)*3,none⟩) lb cb']).run Tryz.prog w=.ok (.value (.bool false)) w:=fun lb cb'=>by
  rw[run_callFunc_extern Tryz.func216 z0L z0L z0L (e:=Extern.SlicesOverlaps.overlaps #[40,40] #[4]) z0L,
   Lib.run_overlaps_apart w 40 4 130 Tryz.underlying40 3 (fun w=>rfl) ⟨vb,vo,none⟩ ⟨b,o+(i+1)*3,none⟩ 1 vc lb cb' hvb ev eb cv.size cb.size (by simp[World.shape?,hv]) (by simp[World.shape?,hb]) z0D z1Y z1Y]
  rfl
 have hdl:(cs.drop (i*3)).length=(n-i)*3:=by rw[q2A,hcl,q5X]
 have hw1:IntKind.i64.wrap ((i:Int)+1)=(i:Int)+1:=by rw[IntKind.wrap_i64];omega
 have hb1:(0:Int)<=(i:Int)+1:=by omega
 have hin:i<=n:=by omega
 have htn:((i:Int)+1).toNat=i+1:=by omega
 have hb2:¬(c=i+1):=by omega
 have hb3:(i:Int)<=(n:Int)+1:=by omega
 have hb4:¬(c=i):=by omega
 have hcp1:∀ty dc sc,(Builtin.copy_ #[40,40] ty #[.slice (some ⟨b,o+(i+1)*3,none⟩) (n-i) dc,.slice (some ⟨b,o+i*3,none⟩) (n+1-i) sc]).run Tryz.prog w.drew=.ok (goInt (Nat.min (n+1-i) (n-i))) (w.drew.setCells b (o+(i+1)*3) (cs.drop (i*3))):=fun ty dc sc=>
  a1R w.drew _ _ ty 130 3 b (o+(i+1)*3) _ dc ⟨b,o+i*3,none⟩ _ sc (cs.drop (i*3)) Tryz.underlying40 hsz (by rw[hdl];congr 1;simp only[q5L];split<;>omega)
   (fun j v hj=>by
     rw[q4Z]at hj;obtain⟨hj',rfl⟩:=q0U.1 hj;rw[A0m,q3F];exact hcs (i*3+j) hj')
   (fun j hj=>z1T) (fun j hj=>hfz w.drew cb hb _) (fun v hv=>h1c v (q2Z hv))
 obtain⟨W1,hW1⟩:∃W1,W1=w.drew.setCells b (o+(i+1)*3) (cs.drop (i*3)):=⟨_,rfl⟩
 have q1:=A0l b (cs.drop (i*3)) (o+(i+1)*3) w.drew cb hb z0D;rw[<-hW1]at q1;have q2:W1.heap[vb]? = w.heap[vb]?:=by rw[hW1];exact(Z8 b _ _ w.drew).1 vb hvb
 have hcp2:∀(W:World),W.heap=W1.heap->∀ty dc,(Builtin.copy_ #[40,40] ty #[.slice (some ⟨b,o+i*3,none⟩) (n+1-i) dc,.slice (some ⟨vb,vo,none⟩) 1 vc]).run Tryz.prog W=.ok (goInt (Nat.min 1 (n+1-i))) (W.setCells b (o+i*3) vs):=fun W hW ty dc=>
  a1R W _ _ ty 130 3 b (o+i*3) _ dc ⟨vb,vo,none⟩ 1 vc vs Tryz.underlying40 hsz (by rw[hvl];simp only[q5L];split<;>omega)
   (fun j v hj=>by
     obtain⟨hj',rfl⟩:=q0U.1 hj;rw[A0m,World.cell?_of_block (w:=w) (by rw[hW,q2])];exact hvs j hj')
   (fun j hj=>z07) (fun j hj=>hfz W _ z1D _) h1v
 rw[<-hW1]at hcp1
 go_enter Tryz.func161,Tryz.ntmps161
 go_wp2_with (simp only[hov])
 go_region_law_o (refine a7o rfl _ _ 40 40 rfl _ _ z03 z03 (hcp1 _ _ _) ?_)
 go_wp2_with (at_builtin;refine a6Q _ rfl _ _ 40 40 rfl _ _ rfl rfl (hcp2 _ rfl _ _) ?_)
 go_ret
 exact⟨rfl,w.drew,⟨rfl,rfl,⟨rfl,q4V _⟩,rfl⟩,rfl⟩
def c4j(b o n c i vb vo vc:Nat)(cs vs:List Value)(w:World)(hi:i<n)(hnc:n<=c)(hroom:c<n+1)(hcm:n<=1000000)(hvw:vb<w.heap.size)(hbw:b<w.heap.size)(hcl:cs.length=n*3)(hvl:vs.length=3)(hcs:CellsAt w b o cs)(hvs:CellsAt w vb vo vs)(h1c:∀v∈cs,v.oneCell'=true)(h1v:∀v∈vs,v.oneCell'=true):
  Calls Tryz.prog 161 #[.slice (some ⟨b,o,none⟩) n c,.int .i64 i,.slice (some ⟨vb,vo,none⟩) 1 vc] w fun x w'=>x=.returned (.slice (some ⟨w.heap.size,0,none⟩) (n+1) (grownCap w (n+1) c 130))/\
   ∃u,Drew (w.alloc (.cells ((cs.take (i*3)).toArray++Builtin.zeroCells a7y.cells (n+1-i)++Builtin.zeroCells a7y.cells (grownCap w (n+1) c 130-(n+1))) 130)) u/\w'=(u.setCells w.heap.size (i*3) vs).setCells w.heap.size ((i+1)*3) (cs.drop (i*3)):=by
 have u0:=run_underlying Tryz.underlying40;have hz1:¬(((1:Nat):Int)=0):=by omega
 have hz2:¬((i:Int)=(n:Int)):=by omega
 have hz3:(c:Int)<(n:Int)+1:=by omega
 have mixed:Tryz.prog.follows Departure.mixedOrders=true:=by kernel_rfl
 have hsz:(Tryz.prog.info? 130).map (·.size)=some 3:=by kernel_rfl
 obtain⟨i0,hi0,hz0⟩:=W7.1 b0Y;simp only[W4]at hz0;obtain⟨hz0,hzs,hzb⟩:=hz0;have hkk:(n:Int)+1-(i:Int)=((n+1-i:Nat):Int):=by omega
 have hik:i+(n+1-i)=n+1:=by omega
 have hdl:(cs.drop (i*3)).length=(n-i)*3:=by rw[q2A,hcl,q5X]
 have hold:(Builtin.firstCells i0.size i (.slice (some ⟨b,o,none⟩) i c)).run Tryz.prog w.drew=.ok (cs.take (i*3)).toArray w.drew:=by
  rw[hzs];exact run_firstCells_some w.drew 3 i ⟨b,o,none⟩ i c (cs.take (i*3)) z1R (fun j v hj=>by
   rw[A0m];rw[q5T]at hj;split at hj
   ·obtain⟨hj',rfl⟩:=q0U.1 hj;exact hcs j hj'
   ·cases hj)
 have hrz:∀ty,(Builtin.append_ #[40,3] ty #[.slice (some ⟨b,o,none⟩) i c,.int .i64 ((n:Int)+1-(i:Int))]).run Tryz.prog w =
   .ok (.slice (some ⟨w.heap.size,0,none⟩) (n+1) (grownCap w (n+1) c 130)) (w.drew.alloc (.cells ((cs.take (i*3)).toArray++Builtin.zeroCells a7y.cells (n+1-i)++Builtin.zeroCells a7y.cells (grownCap w (n+1) c 130-(n+1))) 130)):=fun ty=>by
  have h:=Lib.run_append_grow_zeros w 40 3 ty 130 i0 _ .i64 .i64 Tryz.underlying40 Tryz.underlying3 hi0 hz0 (some ⟨b,o,none⟩) i c (cs.take (i*3)) hold (n+1-i) z0D z0D z0D z0D (by rw[hzb];omega) z1U;rw[hik]at h;rw[hkk];exact h
 obtain⟨G,hG⟩:∃G,G=grownCap w (n+1) c 130:=⟨_,rfl⟩
 obtain⟨ROW,hROW⟩:∃ROW:Array Value,ROW=(cs.take (i*3)).toArray++Builtin.zeroCells a7y.cells (n+1-i)++Builtin.zeroCells a7y.cells (G-(n+1)):=⟨_,rfl⟩
 have hge:=grownCap_ge w (n+1) c 130;rw[<-hG]at hrz hge ⊢;rw[<-hROW]at hrz ⊢;have hRl:(n+1)*3<=ROW.size:=by
  rw[hROW];simp only[q3P,q0J,V1,size_zeroCells,show a7y.cells.size=3 from rfl];omega
 obtain⟨W1,hW1⟩:∃W1,W1=w.drew.alloc (.cells ROW 130):=⟨_,rfl⟩
 rw[<-hW1]at hrz;have hN:W1.heap[w.heap.size]? = some (.cells ROW 130 (0,0)):=by rw[hW1];exact heap_alloc_new w.drew _
 have hcA:∀(W:World) (R:Array Value),W.heap[w.heap.size]? = some (.cells R 130 (0,0))->(n+1)*3<=R.size->∀j,j<(n+1)*3->(W.cell? ⟨w.heap.size,j,none⟩).isSome=true:=fun W R h h2 j hj=>by
  simp only[World.cell?,h];rw[q1N z0D];rfl
 have hfz:∀(W:World) (R:Array Value),W.heap[w.heap.size]? = some (.cells R 130 (0,0))->∀x,W.frozen? ⟨w.heap.size,x,none⟩=false:=fun W R h x=>by simp[World.frozen?,h]
 have hvW:W1.heap[vb]? = w.heap[vb]?:=by rw[hW1];exact E4 (w:=w.drew) hvw
 have hbW:W1.heap[b]? = w.heap[b]?:=by rw[hW1];exact E4 (w:=w.drew) hbw
 have hcp2:∀(W:World),W.heap=W1.heap->∀ty dc,(Builtin.copy_ #[40,40] ty #[.slice (some ⟨w.heap.size,i*3,none⟩) (n+1-i) dc,.slice (some ⟨vb,vo,none⟩) 1 vc]).run Tryz.prog W=.ok (goInt (Nat.min 1 (n+1-i))) (W.setCells w.heap.size (i*3) vs):=fun W hW ty dc=>
  a1R W _ _ ty 130 3 w.heap.size (i*3) _ dc ⟨vb,vo,none⟩ 1 vc vs Tryz.underlying40 hsz (by rw[hvl];simp only[q5L];split<;>omega)
   (fun j v hj=>by
     obtain⟨hj',rfl⟩:=q0U.1 hj;rw[A0m,World.cell?_of_block (w:=w) (by rw[hW,hvW])];exact hvs j hj')
   (fun j hj=>hcA W ROW z2K hRl _ z0D) (fun j hj=>hfz W ROW z2K _) h1v
 have q1:=A0l w.heap.size vs (i*3) W1 ROW hN z0D;have q2:(W1.setCells w.heap.size (i*3) vs).heap[b]? = w.heap[b]?:=by rw[(Z8 w.heap.size vs (i*3) W1).1 b z0D,hbW]
 have hcp3:∀(W:World),W.heap=(W1.setCells w.heap.size (i*3) vs).heap->∀ty dc sc,(Builtin.copy_ #[40,40] ty #[.slice (some ⟨w.heap.size,(i+1)*3,none⟩) (n-i) dc,.slice (some ⟨b,o+i*3,none⟩) (n-i) sc]).run Tryz.prog W=.ok (goInt (Nat.min (n-i) (n-i))) (W.setCells w.heap.size ((i+1)*3) (cs.drop (i*3))):=fun W hW ty dc sc=>
  a1R W _ _ ty 130 3 w.heap.size ((i+1)*3) _ dc ⟨b,o+i*3,none⟩ _ sc (cs.drop (i*3)) Tryz.underlying40 hsz (by rw[hdl];congr 1;simp only[q5L];split<;>omega)
   (fun j v hj=>by
     rw[q4Z]at hj;obtain⟨hj',rfl⟩:=q0U.1 hj;rw[A0m,q3F,World.cell?_of_block (w:=w) (by rw[hW,q2])];exact hcs (i*3+j) hj')
   (fun j hj=>hcA W _ z1D z1I _ z0D) (fun j hj=>hfz W _ z1D _) (fun v hv=>h1c v (q2Z hv))
 have hw1:IntKind.i64.wrap ((i:Int)+1)=(i:Int)+1:=by rw[IntKind.wrap_i64];omega
 have hb1:(0:Int)<=(i:Int)+1:=by omega
 have hin:i<=n:=by omega
 have htn:((i:Int)+1).toNat=i+1:=by omega
 have hb3:(i:Int)<=(n:Int):=by omega
 have hGn:n+1<=G:=hge;have hG63:G<=9223372036854775807:=by
  have:=grownCap_le_maxLen w (n+1) c 130 (by unfold maxLen;omega);rw[<-hG]at this;unfold maxLen at this;omega
 have hGi:¬(G=i):=by omega
 have hGim:¬(G=i+1):=by omega
 have hci:¬(c=i):=by omega
 subst hW1;have hcA2:=hcp2 ((w.alloc (.cells ROW 130)).drew) rfl;have hcB2:=hcp3 (((w.alloc (.cells ROW 130)).drew.setCells w.heap.size (i*3) vs).drew) (by
  show((w.alloc (.cells ROW 130)).drew.setCells w.heap.size (i*3) vs).heap=_;rfl)
 clear hkk hik hold hROW hG hRl q1 q2 hcA hfz hN hvW hbW
 go_enter Tryz.func161,Tryz.ntmps161
 go_wp2_with (first
  | (at_builtin;refine a7p _ rfl _ _ 40 3 rfl _ _ rfl rfl (hrz _) ?_)
  | (at_builtin;refine a6Q _ rfl _ _ 40 40 rfl _ _ rfl rfl (hcA2 _ _) ?_)
  | (at_builtin;refine a6Q _ rfl _ _ 40 40 rfl _ _ rfl rfl (hcB2 _ _ _) ?_))
 go_region_law_o (refine a7o rfl _ _ 40 40 rfl (.slice (some ⟨w.heap.size,(i+1)*3,none⟩) (n-i) (G-(i+1))) (.slice (some ⟨b,o+i*3,none⟩) (n-i) (c-i)) z03 z03 (hcB2 3 (G-(i+1)) (c-i)) ?_)
 go_wp2
 go_ret
 exact⟨rfl,(w.alloc (.cells ROW 130)).drew.drew,⟨rfl,rfl,⟨rfl,q3U _ 2⟩,rfl⟩,by rw[idrew]⟩
def c4k:InsRuns Tryz.prog 161 40 130 3 a7y:=⟨c7C,c1r,c4j⟩
def d4o(a:List c9)(k:Int)(x:c9)(hpre:0<=k/\k<=a.length/\a.length<=1000000):spZ 161 [(false,[.sl true [.s [],.i .i64 0,.sl false [.sl false [.i .i64 0,.s []] []] []] (a.map (c9.cells false false))]),(false,[.i .i64 k]),(false,[.sl true [.s [],.i .i64 0,.sl false [.sl false [.i .i64 0,.s []] []] []] [[.s x.Name,.i .i64 x.Rel.Arity,.sl false [.sl false [.i .i64 0,.s []] []] (x.Rel.Rows.map (c7.cells false false))]]])] [] (.one (false,[.sl true [.s [],.i .i64 0,.sl false [.sl false [.i .i64 0,.s []] []] []] ((c1q a k x).map (c9.cells false false))])):=by
 obtain⟨h0,h1,h2⟩:=hpre;obtain⟨n,rfl⟩:=Int.eq_ofNat_of_zero_le h0;rw[show(c1q a n x).map (c9.cells false false)=(a.map (c9.cells false false)).take n++(c9.cells false false) x::(a.map (c9.cells false false)).drop n by simp[c1q,List.map_take,List.map_drop]];obtain⟨i0,hi0,hz0⟩:=W7.1 b0Y;simp only[W4]at hz0;obtain⟨hz0,hzs,hzb⟩:=hz0;exact c1s (d:=[.s [],.i .i64 0,.sl false [.sl false [.i .i64 0,.s []] []] []]) c4k z0L Tryz.underlying40 hi0 hz0 (by rw[hzs];rfl) hzs z0D (a.map (c9.cells false false)) ((c9.cells false false) x) n z01 (by rw[hzb,q0C];omega) (by rw[q0C];exact h2)
noncomputable def b1F:CT:=n9 (fun(x:(List c9)×Int×c9) h=>d4o x.1 x.2.1 x.2.2 h)
@[go_sem] def e2W:=fun a k x0 x1 x2=>nm' (fP' b1F rfl (a,k,⟨x0,⟨x1,x2⟩⟩))
abbrev b4k:Value:=.agg #[.string ⟨#[]⟩,.int .i64 0,.string ⟨#[]⟩]
def d0l(w:World)(a:Option Addr)(n c:Nat)(ax:Addr)(cx:Nat)(v':Value)(w':World)(hr:(Builtin.append_ #[207,207] 207 #[.slice a n c,.slice (some ax) 1 cx]).run Tryz.prog w=.ok v' w'):
  Calls Tryz.prog 328 #[.slice a n c,.int .i64 n,.slice (some ax) 1 cx] w fun x w''=>x=.returned v'/\w''=w':=by
 have hz1:¬(((1:Nat):Int)=0):=by omega
 have u0:=run_underlying Tryz.underlying207
 go_enter Tryz.func328,Tryz.ntmps328
 go_wp2_with (at_builtin;refine a7p _ rfl _ _ 207 207 rfl _ _ rfl rfl hr ?_)
 all_goals(try go_ret)
 all_goals(first|exact⟨rfl,rfl⟩)
def b3t:(Tryz.prog.info? 298).map (fun i=>(i.zero,i.size,i.bytes))=some (some b4k,3,40):=z0L
def c4i(b o n c i vb vo vc:Nat)(cs vs:List Value)(w:World)(hi:i<n)(hroom:n+1<=c)(hcm:c<=maxLen)(hvb:vb≠b)(hcl:cs.length=n*3)(hvl:vs.length=3)(hcs:CellsAt w b o cs)(hvs:CellsAt w vb vo vs)(hob:OwnBlk w b (o+c*3))(hov:OwnBlk w vb (vo+3))(h1c:∀v∈cs,v.oneCell'=true)(h1v:∀v∈vs,v.oneCell'=true):
  Calls Tryz.prog 328 #[.slice (some ⟨b,o,none⟩) n c,.int .i64 i,.slice (some ⟨vb,vo,none⟩) 1 vc] w fun x w'=>x=.returned (.slice (some ⟨b,o,none⟩) (n+1) c)/\∃u,Drew w u/\w'=(u.setCells b (o+(i+1)*3) (cs.drop (i*3))).setCells b (o+i*3) vs:=by
 have u0:=run_underlying Tryz.underlying207;have hz1:¬(((1:Nat):Int)=0):=by omega
 have hz2:¬((i:Int)=(n:Int)):=by omega
 have mixed:Tryz.prog.follows Departure.mixedOrders=true:=by kernel_rfl
 simp only[maxLen]at hcm;have hsz:(Tryz.prog.info? 298).map (·.size)=some 3:=by kernel_rfl
 obtain⟨cb,eb,hb,hbs⟩:=hob;obtain⟨cv,ev,hv,hvs2⟩:=hov;have hcell:∀(W:World) (cc:Array Value),W.heap[b]? = some (.cells cc eb (0,0))->o+c*3<=cc.size->∀j,j<c*3->(W.cell? ⟨b,o+j,none⟩).isSome=true:=fun W cc h h2 j hj=>by
  simp only[World.cell?,h];rw[q1N z0D];rfl
 have hfz:∀(W:World) (cc:Array Value),W.heap[b]? = some (.cells cc eb (0,0))->∀x,W.frozen? ⟨b,x,none⟩=false:=fun W cc h x=>by simp[World.frozen?,h]
 have hov:∀lb cb',(callFunc 356 #[.slice (some ⟨vb,vo,none⟩) 1 vc,.slice (some ⟨b,o+(i+1)*3,none⟩) lb cb']).run Tryz.prog w=.ok (.value (.bool false)) w:=fun lb cb'=>by
  rw[run_callFunc_extern Tryz.func356 z0L z0L z0L (e:=Extern.SlicesOverlaps.overlaps #[207,207] #[4]) z0L,
   Lib.run_overlaps_apart w 207 4 298 Tryz.underlying207 3 (fun w=>rfl) ⟨vb,vo,none⟩ ⟨b,o+(i+1)*3,none⟩ 1 vc lb cb' hvb ev eb cv.size cb.size (by simp[World.shape?,hv]) (by simp[World.shape?,hb]) z0D z1Y z1Y]
  rfl
 have hdl:(cs.drop (i*3)).length=(n-i)*3:=by rw[q2A,hcl,q5X]
 have hw1:IntKind.i64.wrap ((i:Int)+1)=(i:Int)+1:=by rw[IntKind.wrap_i64];omega
 have hb1:(0:Int)<=(i:Int)+1:=by omega
 have hin:i<=n:=by omega
 have htn:((i:Int)+1).toNat=i+1:=by omega
 have hb2:¬(c=i+1):=by omega
 have hb3:(i:Int)<=(n:Int)+1:=by omega
 have hb4:¬(c=i):=by omega
 have hcp1:∀ty dc sc,(Builtin.copy_ #[207,207] ty #[.slice (some ⟨b,o+(i+1)*3,none⟩) (n-i) dc,.slice (some ⟨b,o+i*3,none⟩) (n+1-i) sc]).run Tryz.prog w.drew=.ok (goInt (Nat.min (n+1-i) (n-i))) (w.drew.setCells b (o+(i+1)*3) (cs.drop (i*3))):=fun ty dc sc=>
  a1R w.drew _ _ ty 298 3 b (o+(i+1)*3) _ dc ⟨b,o+i*3,none⟩ _ sc (cs.drop (i*3)) Tryz.underlying207 hsz (by rw[hdl];congr 1;simp only[q5L];split<;>omega)
   (fun j v hj=>by
     rw[q4Z]at hj;obtain⟨hj',rfl⟩:=q0U.1 hj;rw[A0m,q3F];exact hcs (i*3+j) hj')
   (fun j hj=>z1T) (fun j hj=>hfz w.drew cb hb _) (fun v hv=>h1c v (q2Z hv))
 obtain⟨W1,hW1⟩:∃W1,W1=w.drew.setCells b (o+(i+1)*3) (cs.drop (i*3)):=⟨_,rfl⟩
 have q1:=A0l b (cs.drop (i*3)) (o+(i+1)*3) w.drew cb hb z0D;rw[<-hW1]at q1;have q2:W1.heap[vb]? = w.heap[vb]?:=by rw[hW1];exact(Z8 b _ _ w.drew).1 vb hvb
 have hcp2:∀(W:World),W.heap=W1.heap->∀ty dc,(Builtin.copy_ #[207,207] ty #[.slice (some ⟨b,o+i*3,none⟩) (n+1-i) dc,.slice (some ⟨vb,vo,none⟩) 1 vc]).run Tryz.prog W=.ok (goInt (Nat.min 1 (n+1-i))) (W.setCells b (o+i*3) vs):=fun W hW ty dc=>
  a1R W _ _ ty 298 3 b (o+i*3) _ dc ⟨vb,vo,none⟩ 1 vc vs Tryz.underlying207 hsz (by rw[hvl];simp only[q5L];split<;>omega)
   (fun j v hj=>by
     obtain⟨hj',rfl⟩:=q0U.1 hj;rw[A0m,World.cell?_of_block (w:=w) (by rw[hW,q2])];exact hvs j hj')
   (fun j hj=>z07) (fun j hj=>hfz W _ z1D _) h1v
 rw[<-hW1]at hcp1
 go_enter Tryz.func328,Tryz.ntmps328
 go_wp2_with (simp only[hov])
 go_region_law_o (refine a7o rfl _ _ 207 207 rfl _ _ z03 z03 (hcp1 _ _ _) ?_)
 go_wp2_with (at_builtin;refine a6Q _ rfl _ _ 207 207 rfl _ _ rfl rfl (hcp2 _ rfl _ _) ?_)
 go_ret
 exact⟨rfl,w.drew,⟨rfl,rfl,⟨rfl,q4V _⟩,rfl⟩,rfl⟩
def c7A(b o n c i vb vo vc:Nat)(cs vs:List Value)(w:World)(hi:i<n)(hnc:n<=c)(hroom:c<n+1)(hcm:n<=1000000)(hvw:vb<w.heap.size)(hbw:b<w.heap.size)(hcl:cs.length=n*3)(hvl:vs.length=3)(hcs:CellsAt w b o cs)(hvs:CellsAt w vb vo vs)(h1c:∀v∈cs,v.oneCell'=true)(h1v:∀v∈vs,v.oneCell'=true):
  Calls Tryz.prog 328 #[.slice (some ⟨b,o,none⟩) n c,.int .i64 i,.slice (some ⟨vb,vo,none⟩) 1 vc] w fun x w'=>x=.returned (.slice (some ⟨w.heap.size,0,none⟩) (n+1) (grownCap w (n+1) c 298))/\
   ∃u,Drew (w.alloc (.cells ((cs.take (i*3)).toArray++Builtin.zeroCells b4k.cells (n+1-i)++Builtin.zeroCells b4k.cells (grownCap w (n+1) c 298-(n+1))) 298)) u/\w'=(u.setCells w.heap.size (i*3) vs).setCells w.heap.size ((i+1)*3) (cs.drop (i*3)):=by
 have u0:=run_underlying Tryz.underlying207;have hz1:¬(((1:Nat):Int)=0):=by omega
 have hz2:¬((i:Int)=(n:Int)):=by omega
 have hz3:(c:Int)<(n:Int)+1:=by omega
 have mixed:Tryz.prog.follows Departure.mixedOrders=true:=by kernel_rfl
 have hsz:(Tryz.prog.info? 298).map (·.size)=some 3:=by kernel_rfl
 obtain⟨i0,hi0,hz0⟩:=W7.1 b3t;simp only[W4]at hz0;obtain⟨hz0,hzs,hzb⟩:=hz0;have hkk:(n:Int)+1-(i:Int)=((n+1-i:Nat):Int):=by omega
 have hik:i+(n+1-i)=n+1:=by omega
 have hdl:(cs.drop (i*3)).length=(n-i)*3:=by rw[q2A,hcl,q5X]
 have hold:(Builtin.firstCells i0.size i (.slice (some ⟨b,o,none⟩) i c)).run Tryz.prog w.drew=.ok (cs.take (i*3)).toArray w.drew:=by
  rw[hzs];exact run_firstCells_some w.drew 3 i ⟨b,o,none⟩ i c (cs.take (i*3)) z1R (fun j v hj=>by
   rw[A0m];rw[q5T]at hj;split at hj
   ·obtain⟨hj',rfl⟩:=q0U.1 hj;exact hcs j hj'
   ·cases hj)
 have hrz:∀ty,(Builtin.append_ #[207,3] ty #[.slice (some ⟨b,o,none⟩) i c,.int .i64 ((n:Int)+1-(i:Int))]).run Tryz.prog w =
   .ok (.slice (some ⟨w.heap.size,0,none⟩) (n+1) (grownCap w (n+1) c 298)) (w.drew.alloc (.cells ((cs.take (i*3)).toArray++Builtin.zeroCells b4k.cells (n+1-i)++Builtin.zeroCells b4k.cells (grownCap w (n+1) c 298-(n+1))) 298)):=fun ty=>by
  have h:=Lib.run_append_grow_zeros w 207 3 ty 298 i0 _ .i64 .i64 Tryz.underlying207 Tryz.underlying3 hi0 hz0 (some ⟨b,o,none⟩) i c (cs.take (i*3)) hold (n+1-i) z0D z0D z0D z0D (by rw[hzb];omega) z1U;rw[hik]at h;rw[hkk];exact h
 obtain⟨G,hG⟩:∃G,G=grownCap w (n+1) c 298:=⟨_,rfl⟩
 obtain⟨ROW,hROW⟩:∃ROW:Array Value,ROW=(cs.take (i*3)).toArray++Builtin.zeroCells b4k.cells (n+1-i)++Builtin.zeroCells b4k.cells (G-(n+1)):=⟨_,rfl⟩
 have hge:=grownCap_ge w (n+1) c 298;rw[<-hG]at hrz hge ⊢;rw[<-hROW]at hrz ⊢;have hRl:(n+1)*3<=ROW.size:=by
  rw[hROW];simp only[q3P,q0J,V1,size_zeroCells,show b4k.cells.size=3 from rfl];omega
 obtain⟨W1,hW1⟩:∃W1,W1=w.drew.alloc (.cells ROW 298):=⟨_,rfl⟩
 rw[<-hW1]at hrz;have hN:W1.heap[w.heap.size]? = some (.cells ROW 298 (0,0)):=by rw[hW1];exact heap_alloc_new w.drew _
 have hcA:∀(W:World) (R:Array Value),W.heap[w.heap.size]? = some (.cells R 298 (0,0))->(n+1)*3<=R.size->∀j,j<(n+1)*3->(W.cell? ⟨w.heap.size,j,none⟩).isSome=true:=fun W R h h2 j hj=>by
  simp only[World.cell?,h];rw[q1N z0D];rfl
 have hfz:∀(W:World) (R:Array Value),W.heap[w.heap.size]? = some (.cells R 298 (0,0))->∀x,W.frozen? ⟨w.heap.size,x,none⟩=false:=fun W R h x=>by simp[World.frozen?,h]
 have hvW:W1.heap[vb]? = w.heap[vb]?:=by rw[hW1];exact E4 (w:=w.drew) hvw
 have hbW:W1.heap[b]? = w.heap[b]?:=by rw[hW1];exact E4 (w:=w.drew) hbw
 have hcp2:∀(W:World),W.heap=W1.heap->∀ty dc,(Builtin.copy_ #[207,207] ty #[.slice (some ⟨w.heap.size,i*3,none⟩) (n+1-i) dc,.slice (some ⟨vb,vo,none⟩) 1 vc]).run Tryz.prog W=.ok (goInt (Nat.min 1 (n+1-i))) (W.setCells w.heap.size (i*3) vs):=fun W hW ty dc=>
  a1R W _ _ ty 298 3 w.heap.size (i*3) _ dc ⟨vb,vo,none⟩ 1 vc vs Tryz.underlying207 hsz (by rw[hvl];simp only[q5L];split<;>omega)
   (fun j v hj=>by
     obtain⟨hj',rfl⟩:=q0U.1 hj;rw[A0m,World.cell?_of_block (w:=w) (by rw[hW,hvW])];exact hvs j hj')
   (fun j hj=>hcA W ROW z2K hRl _ z0D) (fun j hj=>hfz W ROW z2K _) h1v
 have q1:=A0l w.heap.size vs (i*3) W1 ROW hN z0D;have q2:(W1.setCells w.heap.size (i*3) vs).heap[b]? = w.heap[b]?:=by rw[(Z8 w.heap.size vs (i*3) W1).1 b z0D,hbW]
 have hcp3:∀(W:World),W.heap=(W1.setCells w.heap.size (i*3) vs).heap->∀ty dc sc,(Builtin.copy_ #[207,207] ty #[.slice (some ⟨w.heap.size,(i+1)*3,none⟩) (n-i) dc,.slice (some ⟨b,o+i*3,none⟩) (n-i) sc]).run Tryz.prog W=.ok (goInt (Nat.min (n-i) (n-i))) (W.setCells w.heap.size ((i+1)*3) (cs.drop (i*3))):=fun W hW ty dc sc=>
  a1R W _ _ ty 298 3 w.heap.size ((i+1)*3) _ dc ⟨b,o+i*3,none⟩ _ sc (cs.drop (i*3)) Tryz.underlying207 hsz (by rw[hdl];congr 1;simp only[q5L];split<;>omega)
   (fun j v hj=>by
     rw[q4Z]at hj;obtain⟨hj',rfl⟩:=q0U.1 hj;rw[A0m,q3F,World.cell?_of_block (w:=w) (by rw[hW,q2])];exact hcs (i*3+j) hj')
   (fun j hj=>hcA W _ z1D z1I _ z0D) (fun j hj=>hfz W _ z1D _) (fun v hv=>h1c v (q2Z hv))
 have hw1:IntKind.i64.wrap ((i:Int)+1)=(i:Int)+1:=by rw[IntKind.wrap_i64];omega
 have hb1:(0:Int)<=(i:Int)+1:=by omega
 have hin:i<=n:=by omega
 have htn:((i:Int)+1).toNat=i+1:=by omega
 have hb3:(i:Int)<=(n:Int):=by omega
 have hGn:n+1<=G:=hge;have hG63:G<=9223372036854775807:=by
  have:=grownCap_le_maxLen w (n+1) c 298 (by unfold maxLen;omega);rw[<-hG]at this;unfold maxLen at this;omega
 have hGi:¬(G=i):=by omega
 have hGim:¬(G=i+1):=by omega
 have hci:¬(c=i):=by omega
 subst hW1;have hcA2:=hcp2 ((w.alloc (.cells ROW 298)).drew) rfl;have hcB2:=hcp3 (((w.alloc (.cells ROW 298)).drew.setCells w.heap.size (i*3) vs).drew) (by
  show((w.alloc (.cells ROW 298)).drew.setCells w.heap.size (i*3) vs).heap=_;rfl)
 clear hkk hik hold hROW hG hRl q1 q2 hcA hfz hN hvW hbW
 go_enter Tryz.func328,Tryz.ntmps328
 go_wp2_with (first
  | (at_builtin;refine a7p _ rfl _ _ 207 3 rfl _ _ rfl rfl (hrz _) ?_)
  | (at_builtin;refine a6Q _ rfl _ _ 207 207 rfl _ _ rfl rfl (hcA2 _ _) ?_)
  | (at_builtin;refine a6Q _ rfl _ _ 207 207 rfl _ _ rfl rfl (hcB2 _ _ _) ?_))
 go_region_law_o (refine a7o rfl _ _ 207 207 rfl (.slice (some ⟨w.heap.size,(i+1)*3,none⟩) (n-i) (G-(i+1))) (.slice (some ⟨b,o+i*3,none⟩) (n-i) (c-i)) z03 z03 (hcB2 3 (G-(i+1)) (c-i)) ?_)
 go_wp2
 go_ret
 exact⟨rfl,(w.alloc (.cells ROW 298)).drew.drew,⟨rfl,rfl,⟨rfl,q3U _ 2⟩,rfl⟩,by rw[idrew]⟩
def c7B:InsRuns Tryz.prog 328 207 298 3 b4k:=⟨d0l,c4i,c7A⟩
def d8Q(a:List d7)(k:Int)(x:d7)(hpre:0<=k/\k<=a.length/\a.length<=1000000):spZ 328 [(false,[.sl true [.s [],.i .i64 0,.s []] (a.map d7.cells)]),(false,[.i .i64 k]),(false,[.sl true [.s [],.i .i64 0,.s []] [[.s x.Var,.i .i64 x.Val.N,.s x.Val.S]]])] [] (.one (false,[.sl true [.s [],.i .i64 0,.s []] ((c1q a k x).map d7.cells)])):=by
 obtain⟨h0,h1,h2⟩:=hpre;obtain⟨n,rfl⟩:=Int.eq_ofNat_of_zero_le h0;rw[show(c1q a n x).map d7.cells=(a.map d7.cells).take n++d7.cells x::(a.map d7.cells).drop n by simp[c1q,List.map_take,List.map_drop]];obtain⟨i0,hi0,hz0⟩:=W7.1 b3t;simp only[W4]at hz0;obtain⟨hz0,hzs,hzb⟩:=hz0;exact c1s (d:=[.s [],.i .i64 0,.s []]) c7B z0L Tryz.underlying207 hi0 hz0 (by rw[hzs];rfl) hzs z0D (a.map d7.cells) (d7.cells x) n z01 (by rw[hzb,q0C];omega) (by rw[q0C];exact h2)
noncomputable def c5E:CT:=n9 (fun(x:(List d7)×Int×d7) h=>d8Q x.1 x.2.1 x.2.2 h)
@[go_sem] def e3c:=fun a k x0 x1 x2=>nm' (fP' c5E rfl (a,k,⟨x0,⟨x1,x2⟩⟩))
end Go.Aw
