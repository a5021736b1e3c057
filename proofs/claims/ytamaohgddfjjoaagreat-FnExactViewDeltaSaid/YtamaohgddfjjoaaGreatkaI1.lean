/- Levels: the program's. No condition. -/
import Derived.Test.YtamaohgddfjjoaaGreatkaT13
import Derived.Test.YtamaohgddfjjoaaGreatkBx11ka
namespace Go.Aw
set_option maxHeartbeats 4000000
open Go.Proofs
attribute [local irreducible] aft blk lpK retK AW A0d
set_option linter.all false
set_option maxRecDepth 100000
def a3A(l:List d9)(v:List UInt8):Int:=((l.find? fun x=>x.Name==v).map d9.N).getD 0
def a1B(l:List d9)(v:List UInt8):Int:=((l.find? fun x=>x.Name==v).map d9.N).getD (-1)
variable{x:Int}{g:Lev}{h v:List UInt8}{a b:List d4}{i:Nat}
def b4i{p:c6}(g:Lev):(v∈vwS p->(lvl p g).find? (fun x=>x.Name==v)=some ⟨v,g v⟩)/\(¬v∈vwS p->(lvl p g).find? (fun x=>x.Name==v)=none):=by
 unfold lvl;generalize vwS p=V
 induction V with
 | nil=>exact⟨fun h=>by simp at h,fun _=>rfl⟩
 | cons x V ih=>
   refine⟨fun h=>?_,fun h=>?_⟩
   ·by_cases e:x=v
    ·subst e;simp
    ·have hv:v∈V:=by
      rcases V9.1 h with h|h
      ·exact absurd h.symm e
      ·exact h
     rw[q0E,List.find?_cons_of_neg z2H];exact ih.1 hv
   ·simp only[V9,not_or]at h;rw[q0E,List.find?_cons_of_neg (by simpa using fun e=>h.1 e.symm)];exact ih.2 h.2
def a6W{p:c6}(g:Lev)(h:v∈vwS p):a3A (lvl p g) v=g v:=by rw[a3A,(b4i g).1 h];rfl
def c5Y{p:c6}(g:Lev)(h:v∈vwS p):a1B (lvl p g) v=g v:=by rw[a1B,(b4i g).1 h];rfl
def d0H{p:c6}(g:Lev)(h:¬v∈vwS p):a1B (lvl p g) v=-1:=by rw[a1B,(b4i g).2 h];rfl
def e1w{p:c6}(g:Lev)(h:¬v∈vwS p):a3A (lvl p g) v=0:=by rw[a3A,(b4i g).2 h];rfl
def lvl_idx{p:c6}(hv:h∈vwS p):∃m,m<(vwS p).length/\(vwS p).getD m []=h/\(∀g,a1a (fun y:d9=>y.Name==h) (lvl p g)=(m:Int))/\(∀g,(lvl p g).getD m default=⟨h,g h⟩)/\∀g x,(lvl p g).set m ⟨h,x⟩=lvl p (upd g h x):=by
 obtain⟨m,hm,e⟩:=q1H hv;have e0:(vwS p).getD m []=h:=by rw[j7 [] hm,e]
 have hg:∀g,(lvl p g).getD m default=⟨h,g h⟩:=fun g=>by rw[d0N p g hm,e0]
 refine⟨m,hm,e0,fun g=>?_,hg,fun g x=>?_⟩
 ·refine w9 (d:=default) (by rw[a7z];exact hm) ?_ (by rw[hg];simp);rw[q2R];intro y hy;obtain⟨j,hj,rfl⟩:=q2V.1 hy;have hj2:j<(vwS p).length:=by rw[a7z]at hj;omega
  have hne:(vwS p)[j]≠h:=fun e2=>by
   have:=(List.getElem_inj (b6I p)).1 (e2.trans e.symm);omega
  simpa[lvl]using hne
 ·have:=d6f p g hm x;rw[e0]at this;exact this
def d8R{p:c6}(hd:∀j,j<p.Decls.length->v6 p j=false):(vwN p).Nodup:=by
 have h1:(p.Decls.map e7.Name).Nodup:=by
  rw[List.nodup_iff_pairwise_ne,q3R,q2N];intro i j hi hj hij;have:=a7A hd hj (j:=i) hij;rw[j7 default hi,j7 default hj]at this;exact this
 exact h1.sublist (List.filter_sublist.map _)
def c8A{p:c6}(h:y6 p=true):(vwS p).length<=16:=by
 have h1:=a0M sLt (vwN p) [];have h2:=b5D (fun d:e7=>d.Kind==3) e7.Name p.Decls;simp only[y6,K7]at h;simp only[q1Z]at h1;rw[vwS];show _<=16;have h3:(vwN p).length<=p.Decls.length:=h2;omega
def c1Z(l:List d9)(v:List UInt8):spZ 255 [(false,[b0f l]),(false,[.s v])] [] (.one (false,[.i .i64 (a3A l v)])):=by
 refine sy' Tryz.func255 (q' 4 [aK 0] (.seq (q' 7 [am 0,aN,aK 0] (fO 0 10 [ar 9 8] 10 1 (q' 11 [ai 2 7 9,aE 2,ax (w' 6 [.s,.i .i64]),aS 2 6 12] (q' 13 [aG 0 6,am 1,aD .eql 14 15] (ci 16 (q' 17 [aG 1 6,aV 4] .ret)))) (g' 19 [aA 9]))) (q' 4 [aK 0] .ret))) [.t 4] [] ?_;intro hb hE;simp only[go_sem];repeat' first|apply cj'|intro hc|exact om'|fail
 refine lq' false [1,7,8] [] [] (fun i:{i:Nat // i<=l.length/\(l.take i).any (fun d=>d.Name==v)=false}=>[(9,slV (.i .i64 i.1))]) nl' nl' (fun i=>l.length-i.1) (⟨0,z0D⟩) ?_;intro S0 hS0 i;obtain⟨i,hi,ha⟩:=i;simp only[go_sem,hS0];repeat' first|apply cj'|intro hc|exact om'|fail
 ·rw[a3A,c7k (d:=default) (i:=i) z0C ha hc];rfl
 ·exact nx0 ⟨i+1,z0C,t7 (p:=fun d:d9=>d.Name==v) default z0C ha hc⟩
 ·rw[a3A,b0e z0J];rfl
noncomputable def a9b:CT:=j8 (fun(x:(List d9)×(List UInt8))=>c1Z x.1 x.2)
@[go_sem] def d4U:=fun l v=>nm' (fQ' a9b rfl (l,v))
def b8y(x:d9)(r:c8):spZ 254 [(true,[.s x.Name,.i .i64 x.N]),(false,[.p [.i .i64 r.Kind,.s r.Head.Name,l8 r.Head.Args,a0g r.Body]])] [] (.one (false,[.b (x.Name==r.Head.Name)])):=by
 refine sy' Tryz.func254 (q' 2 [aX 2 0,aU false] (q' 4 [aG 0 2,af 1 1,aG 0 6,aD .eql 5 8,aV 3] .ret)) [.t 3] [] ?_;intro hb hE;simp only[go_sem];repeat' first|apply cj'|intro hc|exact om'|fail
 all_goals(first|rfl)
noncomputable def a7J:CT:=j8 (fun(x:d9×c8)=>b8y x.1 x.2)
@[go_sem] def d2R:=fun x0 x1 x2 x3 x4 x5=>nm' (fQ' a7J rfl (⟨x0,x1⟩,⟨x2,⟨x3,x4⟩,x5⟩))
def c7E(l:List d9)(r:c8):spZ 253 [(false,[b0f l]),(false,[.f 254 [.p [.i .i64 r.Kind,.s r.Head.Name,l8 r.Head.Args,a0g r.Body]]])] [] (.one (false,[.i .i64 (a1a (fun y:d9=>y.Name==r.Head.Name) l)])):=by
 refine sy' Tryz.func253 (q' 4 [aK 0] (.seq (q' 6 [am 0,aN,aK 0] (fO 0 9 [ar 8 7] 9 1 (q' 10 [am 8,aV 5] (q' 11 [aM [1,0,5],aI 2,aE 2,ao (.callv (.t 11) [.t 15])] (ci 16 (q' 17 [am 5,aV 4] .ret)))) (g' 18 [aA 8]))) (q' 4 [ao (.mov (.k (.v false [.c (.i .i64 (-1))])))] .ret))) [.t 4] [(254,[],a7J)] ?_;intro hb hE;simp only[go_sem];repeat' first|apply cj'|intro hc|exact om'|fail
 refine lq' false [0,1,7] [] [] (fun i:{i:Nat // i<=l.length/\(l.take i).any (fun y:d9=>y.Name==r.Head.Name)=false}=>[(8,slV (.i .i64 i.1))]) nl' nl' (fun i=>l.length-i.1) (⟨0,z0D⟩) ?_;intro S0 hS0 i;obtain⟨i,hi,ha⟩:=i;simp only[go_sem,hS0];repeat' first|apply cj'|intro hc|exact om'|fail
 ·exact(w9 (p:=fun y:d9=>y.Name==r.Head.Name) (d:=default) z0C ha z0G).symm
 ·exact nx0 ⟨i+1,z0C,t7 (p:=fun y:d9=>y.Name==r.Head.Name) default z0C ha z0G⟩
 ·exact(w8 z0J).symm
noncomputable def b2Y:CT:=j8 (fun(x:(List d9)×c8)=>c7E x.1 x.2)
@[go_sem] def d8W:=fun l x0 x1 x2 x3=>nm' (fQ' b2Y rfl (l,⟨x0,⟨x1,x2⟩,x3⟩))
def c9Y(l:List e7):List d9:=(l.filter fun d=>d.Kind==3).map fun d=>⟨d.Name,0⟩
def e0N(l:List e7):(c9Y l).length<=l.length:=b5D _ _ _
def d8c{p:c6}(hd:∀j,j<p.Decls.length->v6 p j=false):c8t (c9Y p.Decls)=lvl p fun _=>0:=by
 have e:c9Y p.Decls=(vwN p).map fun v=>(⟨v,0⟩:d9):=by rw[vwN,q4L];rfl
 rw[e,d1f (d8R hd)];rfl
def b0i{p:c6}{g3:Lev}{r:c8}{l:d7}{j:Nat}(hr:r∈p.Rules)(hv:r.Head.Name∈vwS p)(hl:l∈r.Body)(hk:l.Kind≠3)(hb:l.Atom.Name∈vwS p)(hL:Low p g3)(ho:∀v∈vwS p,v≠r.Head.Name->g3 v<=(vwS p).length)(hh:g3 r.Head.Name<=(vwS p).length+j)(hj:j<=300)(hx:x=g3 l.Atom.Name+a9S l)(hlt:g3 r.Head.Name<x)(hM:a3C p g3<=a3C p g):
  Low p (upd g3 r.Head.Name x)/\(∀v∈vwS p,v≠r.Head.Name->upd g3 r.Head.Name x v<=(vwS p).length)/\upd g3 r.Head.Name x r.Head.Name<=(vwS p).length+(j+1:Nat)/\a3C p (upd g3 r.Head.Name x)<a3C p g:=by
 have hn:a9S l<=1:=by unfold a9S;split<;>omega
 have hb2:g3 l.Atom.Name<=(vwS p).length+j:=by
  by_cases e:l.Atom.Name=r.Head.Name
  ·rw[e];exact hh
  ·have:=ho _ hb e;omega
 refine⟨by rw[hx];exact hL.up hr hv hl hk hb,fun v hv2 hne=>?_, ?_, ?_⟩
 ·rw[upd,if_neg hne];exact ho v hv2 hne
 ·rw[upd,if_pos rfl];omega
 ·have:=lsum_lt (g:=g3) (n:=x) hv hlt z0C;omega
def c6c{p:c6}{l:d7}(hk:(l.Kind==3)=true):a3B p g h l:=fun h=>absurd (by simpa using hk) h
def c6d{p:c6}{l:d7}(hk:¬l.Atom.Name∈vwS p):a3B p g h l:=fun _ h=>absurd h hk
def d4j{p:c6}{l:d7}(hx:x=g l.Atom.Name+a9S l)(hn:¬g h<x):a3B p g h l:=fun _ _=>z0C
def c2W{l:d7}(h:(l.Kind==2)=true):a9S l=1:=by rw[a9S,if_pos z01]
def c8n{l:d7}(h:(l.Kind==2)=false):a9S l=0:=by rw[a9S,if_neg z01]
def c4v(p:c6):spZ 199 [(true,[m9 p.Decls,m7 p.Rules])] [] (.tup [(false,[kTLevel ((i9 p).1)]),(false,[.b ((i9 p).2)])]):=by
 refine sy' Tryz.func199 (q' 1 [aX 2 0,ao (.mov (.k (.v false [.nl a0U]))),aU false] (.seq (q' 14 [ae 2 1,ac 201 [14],aO 15] (ci 16 (q' 2 [ao (.mov (.k (.v false [.nl a0U]))),aU false] .ret))) (q' 17 [ao (.bsl 2 0 [.s,.i .i64] []),aV 4] (.seq (q' 18 [aG 0 1,aN,aK 0] (fO 0 22 [ar 21 20] 22 1 (q' 23 [ai 3 19 21,aE 3,ax (w' 6 [.i .i64,.s,.i .i64]),aS 3 6 24] (q' 25 [aG 0 6,aC .eql 26 3] (ci 27 (g' 28 [am 4,aG 1 6,ao (.bld [.s,.i .i64] [(0,1,.t 30)]),ao (.bsl 2 1 [.s,.i .i64] [(0,.t 31)]),ao (.app 2 24 [.s,.i .i64] (.t 28) (.t 32)),aV 4])))) (g' 34 [aA 21]))) (q' 35 [am 4,ao (.call 249 [.t 35,.k (.v false [.c (.f 250 [])])])] (.seq (q' 7 [aU true] (lO 2 (.seq (q' 37 [am 7] (cd 37 .skip (.exit 2))) (.block 3 (q' 7 [aU false] (q' 38 [aG 1 1,aN,aK 0] (fO 4 42 [ar 41 40] 42 5 (q' 43 [ai 4 39 41,aE 4,ax (w' 9 [.i .i64,.s,.sl j5,.sl b4A]),aS 4 9 44] (.seq (q' 45 [ae 2 1,ae 4 9,ac 252 [45,46],aO 47] (ci 48 (.exit 5))) (q' 49 [am 4,ao (.mf 254 [.t 9]),ac 253 [49,50],aV 10] (.seq (q' 52 [aG 3 9,aN,aK 0] (fO 6 56 [ar 55 54] 56 7 (q' 57 [ai 10 53 55,aE 10,ax (w' 12 [.i .i64,.s,.sl j5,.i .i64,.s,.i .i64,.s,.s,.i .i64,.s]),aS 10 12 58] (.seq (q' 59 [aG 0 12,aC .eql 60 3,am 61,aH 62 false [be 2 1,bf 1 12,bF 0,bL,bc 143 [63,66],bC .neq 67 3],aQ 62 68] (ci 69 (.exit 7))) (q' 70 [am 4,af 1 12,aG 0 71,ac 255 [70,73],aV 13] (.seq (q' 75 [aG 0 12,aC .eql 76 2] (ci 77 (g' 78 [aB 13]))) (q' 80 [aM [4,10],aI 2,aG 1 82,am 13,ar 84 85] (ci 86 (q' 87 [aM [4,10,13],ai 2 87 88,aF 1,aS 1 91 89] (g' 7 [aU true])))))))) (g' 92 [aA 55]))) (q' 93 [aM [4,10],aI 2,aG 1 95,am 4,aN,aD .gtr 97 99] (ci 100 (q' 2 [ao (.mov (.k (.v false [.nl a0U]))),aU false] .ret))))))) (g' 101 [aA 41])))))))) (q' 102 [am 4,aV 2,ab 3 true] .ret))))))) [.t 2,.t 3] [(201,[],a2E),(249,[0],c5N),(252,[],a2D),(253,[],b2Y),(143,[],a0V),(255,[],a9b)] ?_;intro hb hE;simp only[go_sem];repeat' first|apply cj'|intro hc|exact om'|fail
 ·rw[i9,hc];exact⟨rfl,rfl⟩
 have hN:((n7 p).1==0)=true:=hc;have hok:=a4V (by simpa using hN);obtain⟨hB,hD,hRb⟩:=hok;have hdl:p.Decls.length<=16:=by
  have:=hB;simp only[y6,K7]at this;omega
 have hvl:=c8A hB;clear hc;refine lk' false [(false,4,0,100008)] [1,19,20] [2] [] (fun i:{i:Nat // i<=p.Decls.length}=>[(4,.v false [.ow 100008]),(21,slV (.i .i64 i.1))]) nl' (fun i=>[(100008,a0U,(c9Y (p.Decls.take i.1)).map d9.cells)]) (fun i=>p.Decls.length-i.1) (⟨0,z0D⟩) ?_;intro S0 hS0 i;obtain⟨i,hi⟩:=i;have hl:=e0N (p.Decls.take i);rw[V1]at hl;simp only[go_sem,hS0];repeat' first|apply cj'|intro hc|exact om'|fail
 ·(refine lpK_n2 (⟨i+1,z0C⟩) _ z0E ?_;simp only[go_sem,hS0]<;>repeat' first|apply W6|exact on'|fail)
  rw[show c9Y (p.Decls.take (i+1))=c9Y (p.Decls.take i)++[⟨(p.Decls.getD i default).Name,0⟩]from b1U (p:=fun d:e7=>d.Kind==3) (fun d:e7=>(⟨d.Name,0⟩:d9)) default z0C hc];first|done|(rw[q1F];rfl)|trace_state
 ·(refine lpK_n2 (⟨i+1,z0C⟩) _ z0E ?_;simp only[go_sem,hS0]<;>repeat' first|apply W6|exact on'|fail)
  rw[show c9Y (p.Decls.take (i+1))=c9Y (p.Decls.take i)from c1t (p:=fun d:e7=>d.Kind==3) (fun d:e7=>(⟨d.Name,0⟩:d9)) default z0C hc]
 rw[i4 z0C,d8c hD];clear hc hl hi;refine lq' false [1,4] [2] [] (fun i:{q:Bool×Lev // Low p q.2/\(∀v∈vwS p,q.2 v<=(vwS p).length)/\(q.1=false->Fx p q.2)}=>[(7,slV (.b i.1.1))]) nl' (fun i=>[(100008,a0U,(lvl p i.1.2).map d9.cells)]) (fun i=>2*a3C p i.1.2+(bif i.1.1 then 1 else 0)) (⟨(true,fun _=>0),Low.zero p,fun v _=>z0F,by intro h;cases h⟩) ?_;intro S1 hS1 i;obtain⟨⟨ag,g⟩,hL,hle,hF⟩:=i;simp only at hL hle hF;simp only[go_sem,hS0,hS1];repeat' first|apply cj'|intro hc|exact om'|fail
 ·have hag:=hc;clear hc;refine lq' false [1,4,39,40] [2] [] (fun i:{q:Nat×Bool×Lev // q.1<=p.Rules.length/\Low p q.2.2/\(∀v∈vwS p,q.2.2 v<=(vwS p).length)/\(q.2.1=false->q.2.2=g/\∀r∈p.Rules.take q.1,a0Q p g r)/\(q.2.1=true->a3C p q.2.2<a3C p g)}=>[(7,slV (.b i.1.2.1)),(41,slV (.i .i64 i.1.1))]) nl' (fun i=>[(100008,a0U,(lvl p i.1.2.2).map d9.cells)]) (fun i=>p.Rules.length-i.1.1) (⟨(0,false,g),z0D,hL,hle,fun _=>⟨rfl,z0D⟩,by intro h;cases h⟩) ?_;intro S2 hS2 i;obtain⟨⟨n,ag2,g2⟩,hn,hL2,hle2,hF2,hM2⟩:=i;simp only at hn hL2 hle2 hF2 hM2;simp only[go_sem,hS0,hS1,hS2];repeat' first|apply cj'|intro hc|exact om'|fail
  ·have h3:ag2=false->g2=g/\∀r∈p.Rules.take (n+1),a0Q p g r:=fun h=>by
    refine⟨(hF2 h).1,fun r hr=>?_⟩;rw[j3 default z0C,W9,q0A]at hr;rcases hr with hr|rfl
    ·exact(hF2 h).2 r hr
    ·intro hv;have hk3:=(a2s hD).2 hv;have hk1:=c1x hRb z0C hk3;rw[hk1,hk3]at hc;exact absurd hc (by decide)
   (refine lpK_n2 (⟨(n+1,ag2,g2),z0F,hL2,hle2,h3,hM2⟩) _ rfl ?_;simp only[go_sem,hS0,hS1,hS2]<;>repeat' first|apply W6|exact on'|fail)
  ·have hk:=hc;have hnl:n<p.Rules.length:=by omega
   clear hc;have hb8:=c9o hB hnl;have hv:(p.Rules.getD n default).Head.Name∈vwS p:=(a2s hD).1 (by simpa using hk.2);obtain⟨m,hm,hme,hix,hgm,hsm⟩:=lvl_idx hv;have hll:=a7z p;refine lq' false [1,4,10,39,40,41,53,54] [2] [] (fun i:{q:Nat×Bool×Lev // q.1<=(p.Rules.getD n default).Body.length/\Low p q.2.2/\(∀v∈vwS p,v≠(p.Rules.getD n default).Head.Name->q.2.2 v<=(vwS p).length)/\q.2.2 (p.Rules.getD n default).Head.Name<=(vwS p).length+(q.1:Nat)/\(q.2.1=false->q.2.2=g/\(∀r∈p.Rules.take n,a0Q p g r)/\∀l∈(p.Rules.getD n default).Body.take q.1,a3B p g (p.Rules.getD n default).Head.Name l)/\(q.2.1=true->a3C p q.2.2<a3C p g)}=>[(7,slV (.b i.1.2.1)),(55,slV (.i .i64 i.1.1))]) nl' (fun i=>[(100008,a0U,(lvl p i.1.2.2).map d9.cells)]) (fun i=>(p.Rules.getD n default).Body.length-i.1.1) (⟨(0,ag2,g2),z0D,hL2,fun v hv2 _=>hle2 v hv2,by simp only;have:=hle2 _ hv;omega,fun h=>⟨(hF2 h).1,(hF2 h).2,z0D⟩,hM2⟩) ?_;intro S3 hS3 i;obtain⟨⟨j,ag3,g3⟩,hj,hL3,ho3,hh3,hF3,hM3⟩:=i;simp only at hj hL3 ho3 hh3 hF3 hM3;have hLb:∀v,0<=a3A (lvl p g3) v/\a3A (lvl p g3) v<=40:=fun v=>by
    by_cases e:v∈vwS p
    ·rw[a6W g3 e];refine⟨hL3.ge v, ?_⟩;by_cases e2:v=(p.Rules.getD n default).Head.Name
     ·rw[e2];omega
     ·have:=ho3 v e e2;omega
    ·rw[e1w g3 e];omega
   have hw:∀v,IntKind.i64.wrap (a3A (lvl p g3) v+1)=a3A (lvl p g3) v+1:=fun v=>by have:=hLb v;exact w64 z0C z0C (by omega)
   simp only[go_sem,hS0,hS1,hS2,hix,hgm,hsm,hll,hS3,hw];repeat' first|apply cj'|intro hc|exact om'|fail
   ·have h3:ag3=false->g3=g/\(∀r∈p.Rules.take n,a0Q p g r)/\∀l∈(p.Rules.getD n default).Body.take (j+1),a3B p g (p.Rules.getD n default).Head.Name l:=fun h=>by
     refine⟨(hF3 h).1,(hF3 h).2.1,fun l hl=>?_⟩;rw[j3 default z0C,W9,q0A]at hl;rcases hl with hl|rfl
     ·exact(hF3 h).2.2 l hl
     ·rcases hc with hc|hc
      ·exact c6c hc
      ·refine c6d fun hv3=>?_
       rw[(a2s hD).2 hv3]at hc;exact absurd hc (by decide)
    (refine lpK_n2 (⟨(j+1,ag3,g3),z0F,hL3,ho3,z0F,h3,hM3⟩) _ rfl ?_;simp only[go_sem,hS0,hS1,hS2,hix,hgm,hsm,hll,hS3,hw]<;>repeat' first|apply W6|exact on'|fail)
   ·have hq:(((p.Rules.getD n default).Body.getD j default).Kind==3)=false/\(a0H p ((p.Rules.getD n default).Body.getD j default).Atom.Name != 3)=false:=by assumption
    have hq2:(((p.Rules.getD n default).Body.getD j default).Kind==2)=true:=by assumption
    have hvv:((p.Rules.getD n default).Body.getD j default).Atom.Name∈vwS p:=(a2s hD).1 z10;have hjl:j<(p.Rules.getD n default).Body.length:=by omega
    have hrm:p.Rules.getD n default∈p.Rules:=A3w hnl;have hlm:((p.Rules.getD n default).Body.getD j default)∈(p.Rules.getD n default).Body:=A3w hjl;have hkk:((p.Rules.getD n default).Body.getD j default).Kind≠3:=fun e=>by have:=hq.1;rw[e]at this;exact absurd this (by decide)
    have e:a3A (lvl p g3) ((p.Rules.getD n default).Body.getD j default).Atom.Name+1=g3 ((p.Rules.getD n default).Body.getD j default).Atom.Name+a9S ((p.Rules.getD n default).Body.getD j default):=by rw[a6W g3 hvv,c2W hq2]
    have hMM:a3C p g3<=a3C p g:=by
     cases hag3:ag3 with
     | true=>exact Nat.le_of_lt (hM3 hag3)
     | false=>rw[(hF3 hag3).1];exact q0C _
    have R:=b0i hrm hv hlm hkk hvv hL3 ho3 hh3 z0C e hc hMM
    (refine lpK_n2 (⟨(j+1,true,upd g3 (p.Rules.getD n default).Head.Name (a3A (lvl p g3) ((p.Rules.getD n default).Body.getD j default).Atom.Name+1)),z0F,R.1,R.2.1,R.2.2.1,fun h=>(by cases h),fun _=>R.2.2.2⟩) _ rfl ?_;simp only[go_sem,hS0,hS1,hS2,hix,hgm,hsm,hll,hS3,hw]<;>repeat' first|apply W6|exact on'|fail)
   ·have hq:(((p.Rules.getD n default).Body.getD j default).Kind==3)=false/\(a0H p ((p.Rules.getD n default).Body.getD j default).Atom.Name != 3)=false:=by assumption
    have hq2:(((p.Rules.getD n default).Body.getD j default).Kind==2)=true:=by assumption
    have hvv:((p.Rules.getD n default).Body.getD j default).Atom.Name∈vwS p:=(a2s hD).1 z10;have hjl:j<(p.Rules.getD n default).Body.length:=by omega
    have hrm:p.Rules.getD n default∈p.Rules:=A3w hnl;have hlm:((p.Rules.getD n default).Body.getD j default)∈(p.Rules.getD n default).Body:=A3w hjl;have e:a3A (lvl p g3) ((p.Rules.getD n default).Body.getD j default).Atom.Name+1=g3 ((p.Rules.getD n default).Body.getD j default).Atom.Name+a9S ((p.Rules.getD n default).Body.getD j default):=by rw[a6W g3 hvv,c2W hq2]
    have h3:ag3=false->g3=g/\(∀r∈p.Rules.take n,a0Q p g r)/\∀l∈(p.Rules.getD n default).Body.take (j+1),a3B p g (p.Rules.getD n default).Head.Name l:=fun h=>by
     refine⟨(hF3 h).1,(hF3 h).2.1,fun l hl=>?_⟩;rw[j3 default z0C,W9,q0A]at hl;rcases hl with hl|rfl
     ·exact(hF3 h).2.2 l hl
     ·have:=(hF3 h).1;rw[<-this];exact d4j e hc
    (refine lpK_n2 (⟨(j+1,ag3,g3),z0F,hL3,ho3,z0F,h3,hM3⟩) _ rfl ?_;simp only[go_sem,hS0,hS1,hS2,hix,hgm,hsm,hll,hS3,hw]<;>repeat' first|apply W6|exact on'|fail)
   ·have hq:(((p.Rules.getD n default).Body.getD j default).Kind==3)=false/\(a0H p ((p.Rules.getD n default).Body.getD j default).Atom.Name != 3)=false:=by assumption
    have hq2:(((p.Rules.getD n default).Body.getD j default).Kind==2)=false:=by assumption
    have hvv:((p.Rules.getD n default).Body.getD j default).Atom.Name∈vwS p:=(a2s hD).1 z10;have hjl:j<(p.Rules.getD n default).Body.length:=by omega
    have hrm:p.Rules.getD n default∈p.Rules:=A3w hnl;have hlm:((p.Rules.getD n default).Body.getD j default)∈(p.Rules.getD n default).Body:=A3w hjl;have hkk:((p.Rules.getD n default).Body.getD j default).Kind≠3:=fun e=>by have:=hq.1;rw[e]at this;exact absurd this (by decide)
    have e:a3A (lvl p g3) ((p.Rules.getD n default).Body.getD j default).Atom.Name=g3 ((p.Rules.getD n default).Body.getD j default).Atom.Name+a9S ((p.Rules.getD n default).Body.getD j default):=by rw[a6W g3 hvv,c8n hq2];omega
    have hMM:a3C p g3<=a3C p g:=by
     cases hag3:ag3 with
     | true=>exact Nat.le_of_lt (hM3 hag3)
     | false=>rw[(hF3 hag3).1];exact q0C _
    have R:=b0i hrm hv hlm hkk hvv hL3 ho3 hh3 z0C e hc hMM
    (refine lpK_n2 (⟨(j+1,true,upd g3 (p.Rules.getD n default).Head.Name (a3A (lvl p g3) ((p.Rules.getD n default).Body.getD j default).Atom.Name)),z0F,R.1,R.2.1,R.2.2.1,fun h=>(by cases h),fun _=>R.2.2.2⟩) _ rfl ?_;simp only[go_sem,hS0,hS1,hS2,hix,hgm,hsm,hll,hS3,hw]<;>repeat' first|apply W6|exact on'|fail)
   ·have hq:(((p.Rules.getD n default).Body.getD j default).Kind==3)=false/\(a0H p ((p.Rules.getD n default).Body.getD j default).Atom.Name != 3)=false:=by assumption
    have hq2:(((p.Rules.getD n default).Body.getD j default).Kind==2)=false:=by assumption
    have hvv:((p.Rules.getD n default).Body.getD j default).Atom.Name∈vwS p:=(a2s hD).1 z10;have hjl:j<(p.Rules.getD n default).Body.length:=by omega
    have hrm:p.Rules.getD n default∈p.Rules:=A3w hnl;have hlm:((p.Rules.getD n default).Body.getD j default)∈(p.Rules.getD n default).Body:=A3w hjl;have e:a3A (lvl p g3) ((p.Rules.getD n default).Body.getD j default).Atom.Name=g3 ((p.Rules.getD n default).Body.getD j default).Atom.Name+a9S ((p.Rules.getD n default).Body.getD j default):=by rw[a6W g3 hvv,c8n hq2];omega
    have h3:ag3=false->g3=g/\(∀r∈p.Rules.take n,a0Q p g r)/\∀l∈(p.Rules.getD n default).Body.take (j+1),a3B p g (p.Rules.getD n default).Head.Name l:=fun h=>by
     refine⟨(hF3 h).1,(hF3 h).2.1,fun l hl=>?_⟩;rw[j3 default z0C,W9,q0A]at hl;rcases hl with hl|rfl
     ·exact(hF3 h).2.2 l hl
     ·have:=(hF3 h).1;rw[<-this];exact d4j e hc
    (refine lpK_n2 (⟨(j+1,ag3,g3),z0F,hL3,ho3,z0F,h3,hM3⟩) _ rfl ?_;simp only[go_sem,hS0,hS1,hS2,hix,hgm,hsm,hll,hS3,hw]<;>repeat' first|apply W6|exact on'|fail)
   ·rw[c6b hL3 hv hc];exact⟨rfl,rfl⟩
   ·have h1:∀v∈vwS p,g3 v<=(vwS p).length:=fun v hv2=>by
     by_cases e:v=(p.Rules.getD n default).Head.Name
     ·rw[e];omega
     ·exact ho3 v hv2 e
    have h3:ag3=false->g3=g/\∀r∈p.Rules.take (n+1),a0Q p g r:=fun h=>by
     refine⟨(hF3 h).1,fun r hr=>?_⟩;rw[j3 default z0C,W9,q0A]at hr;rcases hr with hr|rfl
     ·exact(hF3 h).2.1 r hr
     ·intro _ l hl;refine(hF3 h).2.2 l ?_;rw[i4 z0C];exact hl
    (refine lpK_n2 (⟨(n+1,ag3,g3),z0F,hL3,h1,h3,hM3⟩) _ rfl ?_;simp only[go_sem,hS0,hS1,hS2,hix,hgm,hsm,hll,hS3,hw]<;>repeat' first|apply W6|exact on'|fail)
  ·have h3:ag2=false->Fx p g2:=fun h=>by
    have h5:=hF2 h;rw[i4 z0C]at h5;rw[h5.1];exact h5.2
   have hmm:ag2=false->g2=g:=fun h=>(hF2 h).1
   (refine lpK_n2 (⟨(ag2,g2),hL2,hle2,h3⟩) _ rfl ?_;simp only[go_sem,hS0,hS1,hS2]<;>repeat' first|apply W6|exact on'|fail)
   cases hag2:ag2 with
   | false=>rw[hmm hag2,hag];simp only[z0B];omega
   | true=>have:=hM2 hag2;rw[hag];simp only[W8];omega
 ·rw[c2P hN ⟨hF hc,hL,hle⟩];exact⟨rfl,rfl⟩
noncomputable def a5F:CT:=j8 (fun(x:c6)=>c4v x)
@[go_sem] def d6Z:=fun x0 x1=>nm' (fQ' a5F rfl ⟨x0,x1⟩)
def a1Z(p:c6)(k:Int):List e7:=p.Decls.filter fun d=>d.Kind==k
@[go_sem] def l12Set_nil(l:List c9)(n:List UInt8)(a:Int):a5W [(true,[i6 l]),(false,[.s n]),(true,[.i .i64 a,.sl false i5 []])]=some (((∀x∈l,x.Rel.Rows=[])/\True)/\l.length<=1000,[],.one (true,[i6 (a2e l n ⟨n,⟨a,[]⟩⟩)])):=by
 have h:=b5v l n a [];simpa using h
def b6Z(l:List e7)(d:e7):a0h (l++[d])=a2e (a0h l) d.Name ⟨d.Name,⟨d.Arity,[]⟩⟩:=by rw[a0h,q3A];rfl
@[go_sem] def emptyN_nil:a0h []=[]:=rfl
def b9f(p:c6)(k:Int)(hpre:p.Decls.length<=16):spZ 128 [(true,[m9 p.Decls,m7 p.Rules]),(false,[.i .i64 k])] [] (.one (true,[i6 ((⟨a0h (a1Z p k)⟩:c4).Rels)])):=by
 refine sx' false true none Tryz.func128 (q' 2 [aX 2 0,ax (w' 4 [.sl i7])] (q' 5 [ax (o' 8 (.bld [.sl i7] [])),aw [.sl i7],aS 1 5 8] (.seq (q' 9 [aG 0 2,aN,aK 0] (fO 0 13 [ar 12 11] 13 1 (q' 14 [ai 3 10 12,aE 3,ax (w' 7 [.i .i64,.s,.i .i64]),aS 3 7 15] (q' 16 [aG 0 7,am 1,aD .eql 17 18] (ci 19 (g' 20 [ae 1 5,aG 1 7,aG 2 7,ao (.bld [.i .i64,.sl i5] [(0,1,.t 24)]),ac 108 [20,22,25],aS 1 5 26])))) (g' 27 [aA 12]))) (q' 28 [ae 1 5,aS 1 4 28] .ret)))) [.c 4 true 1] [(108,[],a5W)] ?_;intro hb hE;simp only[go_sem];repeat' first|apply cj'|intro hc|exact om'|fail
 refine b9r false [(true,10,0,200020)] ?_;refine a7h 200020 ?_;refine lq' false [1,4,5,10,11] [8] [] (fun i:{i:Nat // i<=p.Decls.length}=>[(12,slV (.i .i64 i.1))]) (fun i=>[(10,[.c (i6 (a0h ((p.Decls.take i.1).filter fun d=>d.Kind==k)))])]) nl' (fun i=>p.Decls.length-i.1) (⟨0,z0D⟩) ?_;intro S0 hS0 i;obtain⟨i,hi⟩:=i;have h1:=b1R ((p.Decls.take i).filter fun d=>d.Kind==k);have h2:=q1X (fun d:e7=>d.Kind==k) (p.Decls.take i);have h3:=d0a ((p.Decls.take i).filter fun d=>d.Kind==k);rw[V1]at h2;simp only[go_sem,hS0];repeat' first|apply cj'|intro hc|exact om'|fail
 all_goals first
  | omega
  | exact h3
  | exact⟨h3,z0C⟩
  | ((refine lpK_n2 (⟨i+1,z0C⟩) _ rfl ?_;simp only[go_sem,hS0]<;>repeat' first|apply W6|exact on'|fail);rw[f_yes (p:=fun d:e7=>d.Kind==k) default z0C hc,b6Z];done)
  | ((refine lpK_n2 (⟨i+1,z0C⟩) _ rfl ?_;simp only[go_sem,hS0]<;>repeat' first|apply W6|exact on'|fail);rw[f_no (p:=fun d:e7=>d.Kind==k) default z0C hc];done)
  | (rw[i4 z0C];rfl)
  | trace_state
noncomputable def a3P:CT:=k8 (fun(x:c6×Int) h=>b9f x.1 x.2 h)
@[go_sem] def d3x:=fun x0 x1 k=>nm' (fP' a3P rfl (⟨x0,x1⟩,k))
def c8h(l:List d9)(v:List UInt8):spZ 196 [(false,[b0f l]),(false,[.s v])] [] (.one (false,[.i .i64 (a1B l v)])):=by
 refine sy' Tryz.func196 (q' 4 [aK 0] (.seq (q' 6 [am 0,aN,aK 0] (fO 0 9 [ar 8 7] 9 1 (q' 10 [am 8,aV 5] (q' 11 [aM [0,5],aI 2,aG 0 13,am 1,aD .eql 15 16] (ci 17 (q' 18 [aM [0,5],aI 2,aG 1 20,aV 4] .ret)))) (g' 23 [aA 8]))) (q' 4 [ao (.mov (.k (.v false [.c (.i .i64 (-1))])))] .ret))) [.t 4] [] ?_;intro hb hE;simp only[go_sem];repeat' first|apply cj'|intro hc|exact om'|fail
 refine lq' false [0,1,7] [] [] (fun i:{i:Nat // i<=l.length/\(l.take i).any (fun d=>d.Name==v)=false}=>[(8,slV (.i .i64 i.1))]) nl' nl' (fun i=>l.length-i.1) (⟨0,z0D⟩) ?_;intro S0 hS0 i;obtain⟨i,hi,ha⟩:=i;simp only[go_sem,hS0];repeat' first|apply cj'|intro hc|exact om'|fail
 ·rw[a1B,c7k (d:=default) (i:=i) z0C ha hc];rfl
 ·exact nx0 ⟨i+1,z0C,t7 (p:=fun d:d9=>d.Name==v) default z0C ha hc⟩
 ·rw[a1B,b0e z0J];rfl
noncomputable def b3w:CT:=j8 (fun(x:(List d9)×(List UInt8))=>c8h x.1 x.2)
@[go_sem] def d9F:=fun l v=>nm' (fQ' b3w rfl (l,v))
def relL(l:List c9):List d9:=l.map fun x=>⟨x.Name,0⟩
def e1K(p:c6):relL (a0h (a1Z p 3))=lvl p fun _=>0:=by
 have h:=a7u (a1Z p 3);have e:relL (a0h (a1Z p 3))=((a0h (a1Z p 3)).map c9.Name).map fun v=>(⟨v,0⟩:d9):=by rw[q4L];rfl
 rw[e,h];rfl
def d8w(p:c6)(k:Int):(a0h (a1Z p k)).length<=p.Decls.length:=by
 have h1:=b1R (a1Z p k);have h2:=q1X (fun d:e7=>d.Kind==k) p.Decls;exact q2X h1 h2
def vw_at{p:c6}{n:Nat}(hn:n<(vwS p).length):(vwS p).getD n []∈vwS p/\(∀g,(lvl p g).getD n default=⟨(vwS p).getD n [],g ((vwS p).getD n [])⟩)/\∀g x,(lvl p g).set n ⟨(vwS p).getD n [],x⟩=lvl p (upd g ((vwS p).getD n []) x):=
 ⟨A3w hn,fun g=>d0N p g hn,fun g x=>d6f p g hn x⟩
def c8k{p:c6}{l:d7}{x:Int}(h0:∀v,0<=g v)(hx:((l.Kind==2&&decide (0<=a1B (lvl p g) l.Atom.Name))=true/\x=a1B (lvl p g) l.Atom.Name+1)\/((l.Kind==2&&decide (0<=a1B (lvl p g) l.Atom.Name))=false/\x=a1B (lvl p g) l.Atom.Name)):(l.Atom.Name∈vwS p/\x=g l.Atom.Name+a9S l)\/(¬l.Atom.Name∈vwS p/\x=-1):=by
 by_cases e:l.Atom.Name∈vwS p
 ·refine .inl ⟨e, ?_⟩;rw[c5Y g e,V0 (h0 l.Atom.Name),q1L]at hx;rcases hx with⟨h1,h2⟩|⟨h1,h2⟩
  ·rw[c2W h1];exact h2
  ·rw[c8n h1];omega
 ·refine .inr ⟨e, ?_⟩;rw[d0H g e,show decide ((0:Int)<=-1)=false from rfl,q2J]at hx;rcases hx with⟨h1,h2⟩|⟨h1,h2⟩
  ·cases h1
  ·exact h2
def d0I{p:c6}{l:d7}(h0:∀v,0<=g v)(hx:((l.Kind==2&&decide (0<=a1B (lvl p g) l.Atom.Name))=true/\x=a1B (lvl p g) l.Atom.Name+1)\/((l.Kind==2&&decide (0<=a1B (lvl p g) l.Atom.Name))=false/\x=a1B (lvl p g) l.Atom.Name))(hc:(l.Kind != 3&&decide (g h<x))=false):a3B p g h l:=by
 by_cases hk:(l.Kind==3)=true
 ·exact c6c hk
 ·have hn:¬g h<x:=by
   rw[bne,(by simpa using hk:(l.Kind==3)=false),q3M,q0Z]at hc;exact of_decide_eq_false hc
  rcases c8k h0 hx with⟨h1,h2⟩|⟨h1,h2⟩
  ·exact d4j h2 hn
  ·exact c6d h1
def d0K{p:c6}{b:List d7}{j:Nat}(hj:j<b.length)(h1:∀l∈b.take j,a3B p g h l)(h2:a3B p g h (b.getD j default)):∀l∈b.take (j+1),a3B p g h l:=fun l hl=>by
 rw[j3 default hj,W9,q0A]at hl;rcases hl with hl|rfl
 ·exact h1 l hl
 ·exact h2
def c5f(p:c6):spZ 131 [(true,[m9 p.Decls,m7 p.Rules])] [] (.tup [(false,[b0f ((i9 p).1)]),(false,[.b ((i9 p).2)])]):=by
 refine sx' false true none Tryz.func131 (q' 1 [aX 2 0,ao (.mov (.k (.v false [.nl a0U]))),aU false] (q' 16 [ae 2 1,ac 193 [16],aV 15,aZ 15 0,aZ 15 1,av 4 18,aV 5] (.seq (q' 20 [am 4,aC .neq 20 0] (ci 21 (q' 2 [ao (.mov (.k (.v false [.nl a0U]))),aU false] .ret))) (q' 22 [ao (.bsl 2 0 [.s,.i .i64] []),aV 6] (.seq (q' 23 [ae 2 1,ao (.call 128 [.t 23,.k (.v false [.c (.i .i64 3)])]),ao (.fl false 0 1 (.t 24)),aN,aK 0] (fO 0 28 [ar 27 26] 28 1 (q' 29 [ai 3 25 27,aE 3,ax (w' 8 [.s,.i .i64,.sl i5]),aS 3 8 30] (g' 31 [am 6,aG 0 8,ao (.bld [.s,.i .i64] [(0,1,.t 33)]),ao (.bsl 2 1 [.s,.i .i64] [(0,.t 34)]),ao (.app 2 24 [.s,.i .i64] (.t 31) (.t 35)),aV 6])) (g' 37 [aA 27]))) (.seq (q' 9 [aU true] (lO 2 (.seq (q' 38 [am 9] (cd 38 .skip (.exit 2))) (.block 3 (q' 9 [aU false] (q' 39 [am 6,aN,aK 0] (fO 4 42 [ar 41 40] 42 5 (q' 43 [am 41,aV 10] (.seq (q' 44 [aG 1 1,aN,aK 0] (fO 6 48 [ar 47 46] 48 7 (q' 49 [am 47,aV 11] (q' 50 [aG 1 1,am 11,aI 4,aE 4,ax (w' 12 [.i .i64,.s,.sl j5,.sl b4A]),aS 4 12 54] (.seq (.seq (G' 55 [af 1 12,aG 0 55,aM [6,10],aI 2,aG 0 60,aD .neq 57 62]) (ci 63 (.exit 7))) (q' 64 [aG 3 12,aN,aK 0] (fO 8 68 [ar 67 66] 68 9 (q' 69 [am 67,aV 13] (q' 70 [am 6,aG 3 12,am 13,aI 10,aF 1,aG 0 75,ac 196 [70,77],aV 14] (.seq (q' 79 [aG 3 12,am 13,aI 10,aG 0 82,aC .eql 84 2,am 85,aH 86 true [bm 14,bC .geq 87 0],aP 86 88] (ci 89 (g' 90 [aB 14]))) (q' 92 [aG 3 12,am 13,aI 10,aG 0 95,aC .neq 97 3,am 98,aH 99 true [bm 14,bm 6,bm 10,bI 2,bF 1,bL,bD .gtr 100 105],aP 99 106] (ci 107 (q' 108 [aM [6,10,14],ai 2 108 109,aF 1,aS 1 112 110] (g' 9 [aU true]))))))) (g' 113 [aA 67])))))) (g' 114 [aA 47]))) (q' 115 [aM [6,10],aI 2,aG 1 117,am 6,aN,aD .gtr 119 121] (ci 122 (q' 2 [ao (.mov (.k (.v false [.nl a0U]))),aU false] .ret))))) (g' 123 [aA 41])))))))) (q' 124 [am 6,aV 2,ab 3 true] .ret))))))) [.t 2,.t 3] [(193,[],a2F),(128,[],a3P),(196,[],b3w)] ?_;intro hb hE;simp only[go_sem];repeat' first|apply cj'|intro hc|exact om'|fail
 ·rw[i9,show((n7 p).1==0)=false by simpa[bne]using hc];exact⟨rfl,rfl⟩
 ·have hB:=a0X (p:=p) (by simpa[bne]using hc);simp only[y6,K7]at hB;omega
 have hN:((n7 p).1==0)=true:=by simpa[bne]using hc
 obtain⟨hB,hD,hRb⟩:=a4V (by simpa using hN);have hdl:p.Decls.length<=16:=by
  have:=hB;simp only[y6,K7]at this;omega
 have hrl:p.Rules.length<=24:=by
  have:=hB;simp only[y6,K7]at this;omega
 have hvl:=c8A hB;have hel:=d8w p 3;clear hc;refine lk' false [(false,6,0,100012)] [1,25,26] [2] [] (fun i:{i:Nat // i<=(a0h (a1Z p 3)).length}=>[(6,.v false [.ow 100012]),(27,slV (.i .i64 i.1))]) nl' (fun i=>[(100012,a0U,(relL ((a0h (a1Z p 3)).take i.1)).map d9.cells)]) (fun i=>(a0h (a1Z p 3)).length-i.1) (⟨0,z0D⟩) ?_;intro S0 hS0 i;obtain⟨i,hi⟩:=i;have hl:(relL ((a0h (a1Z p 3)).take i)).length<=16:=by rw[relL,q0F,V1];omega
 simp only[go_sem,hS0];repeat' first|apply cj'|intro hc|exact om'|fail
 ·(refine lpK_n2 (⟨i+1,z0C⟩) _ z0E ?_;simp only[go_sem,hS0]<;>repeat' first|apply W6|exact on'|fail)
  rw[show relL ((a0h (a1Z p 3)).take (i+1))=relL ((a0h (a1Z p 3)).take i)++[⟨((a0h (a1Z p 3)).getD i default).Name,0⟩]from m_snoc (fun x:c9=>(⟨x.Name,0⟩:d9)) default z0C];first|done|(rw[q1F];rfl)|trace_state
 rw[i4 z0C,e1K];clear hc hl hi;refine lq' false [1,6] [2] [] (fun i:{q:Bool×Lev // Low p q.2/\(∀v∈vwS p,q.2 v<=(vwS p).length)/\(q.1=false->Fx p q.2)}=>[(9,slV (.b i.1.1))]) nl' (fun i=>[(100012,a0U,(lvl p i.1.2).map d9.cells)]) (fun i=>2*a3C p i.1.2+(bif i.1.1 then 1 else 0)) (⟨(true,fun _=>0),Low.zero p,fun v _=>z0F,by intro h;cases h⟩) ?_;intro S1 hS1 i;obtain⟨⟨ag,g⟩,hL,hle,hF⟩:=i;simp only at hL hle hF;have hll:=a7z p;simp only[go_sem,hS0,hS1,hll];repeat' first|apply cj'|intro hc|exact om'|fail
 ·have hag:=hc;clear hc;refine lq' false [1,6,40] [2] [] (fun i:{q:Nat×Bool×Lev // q.1<=(vwS p).length/\Low p q.2.2/\(∀v∈vwS p,q.2.2 v<=(vwS p).length)/\(q.2.1=false->q.2.2=g/\∀r∈p.Rules,r.Head.Name∈(vwS p).take q.1->a0Q p g r)/\(q.2.1=true->a3C p q.2.2<a3C p g)}=>[(9,slV (.b i.1.2.1)),(41,slV (.i .i64 i.1.1))]) nl' (fun i=>[(100012,a0U,(lvl p i.1.2.2).map d9.cells)]) (fun i=>(vwS p).length-i.1.1) (⟨(0,false,g),z0D,hL,hle,fun _=>⟨rfl,z0D⟩,by intro h;cases h⟩) ?_;intro S2 hS2 i;obtain⟨⟨n,ag2,g2⟩,hn,hL2,hle2,hF2,hM2⟩:=i;simp only at hn hL2 hle2 hF2 hM2;simp only[go_sem,hS0,hS1,hll,hS2];repeat' first|apply cj'|intro hc|exact om'|fail
  ·have hnl:n<(vwS p).length:=by omega
   clear hc;obtain⟨hv,hgm,hsm⟩:=vw_at hnl;refine lq' false [1,6,10,40,41,46] [2] [] (fun i:{q:Nat×Bool×Lev // q.1<=p.Rules.length/\Low p q.2.2/\(∀v∈vwS p,v≠(vwS p).getD n []->q.2.2 v<=(vwS p).length)/\q.2.2 ((vwS p).getD n [])<=(vwS p).length+(8*q.1:Nat)/\(q.2.1=false->q.2.2=g/\(∀r∈p.Rules,r.Head.Name∈(vwS p).take n->a0Q p g r)/\∀r∈p.Rules.take q.1,r.Head.Name=(vwS p).getD n []->a0Q p g r)/\(q.2.1=true->a3C p q.2.2<a3C p g)}=>[(9,slV (.b i.1.2.1)),(47,slV (.i .i64 i.1.1))]) nl' (fun i=>[(100012,a0U,(lvl p i.1.2.2).map d9.cells)]) (fun i=>p.Rules.length-i.1.1) (⟨(0,ag2,g2),z0D,hL2,fun v hv2 _=>hle2 v hv2,by simp only;have:=hle2 _ hv;omega,fun h=>⟨(hF2 h).1,(hF2 h).2,z0D⟩,hM2⟩) ?_;intro S3 hS3 i;obtain⟨⟨k,ag3,g3⟩,hk,hL3,ho3,hh3,hF3,hM3⟩:=i;simp only at hk hL3 ho3 hh3 hF3 hM3;simp only[go_sem,hS0,hS1,hll,hS2,hgm,hsm,hS3];repeat' first|apply cj'|intro hc|exact om'|fail
   ·have h3:ag3=false->g3=g/\(∀r∈p.Rules,r.Head.Name∈(vwS p).take n->a0Q p g r)/\∀r∈p.Rules.take (k+1),r.Head.Name=(vwS p).getD n []->a0Q p g r:=fun h=>by
     refine⟨(hF3 h).1,(hF3 h).2.1,fun r hr he=>?_⟩;rw[j3 default z0C,W9,q0A]at hr;rcases hr with hr|rfl
     ·exact(hF3 h).2.2 r hr he
     ·rw[he]at hc;simp at hc
    (refine lpK_n2 (⟨(k+1,ag3,g3),z0F,hL3,ho3,z0F,h3,hM3⟩) _ rfl ?_;simp only[go_sem,hS0,hS1,hll,hS2,hgm,hsm,hS3]<;>repeat' first|apply W6|exact on'|fail)
   ·have hkl:k<p.Rules.length:=by omega
    have hrh:(p.Rules.getD k default).Head.Name=(vwS p).getD n []:=by simpa using hc
    clear hc;have hb8:=c9o hB hkl;have hrm:p.Rules.getD k default∈p.Rules:=A3w hkl;refine lq' false [1,6,10,12,40,41,46,47,66] [2,24] [] (fun i:{q:Nat×Bool×Lev // q.1<=(p.Rules.getD k default).Body.length/\Low p q.2.2/\(∀v∈vwS p,v≠(vwS p).getD n []->q.2.2 v<=(vwS p).length)/\q.2.2 ((vwS p).getD n [])<=(vwS p).length+(8*k+q.1:Nat)/\(q.2.1=false->q.2.2=g/\(∀r∈p.Rules,r.Head.Name∈(vwS p).take n->a0Q p g r)/\(∀r∈p.Rules.take k,r.Head.Name=(vwS p).getD n []->a0Q p g r)/\∀l∈(p.Rules.getD k default).Body.take q.1,a3B p g ((vwS p).getD n []) l)/\(q.2.1=true->a3C p q.2.2<a3C p g)}=>[(9,slV (.b i.1.2.1)),(67,slV (.i .i64 i.1.1))]) nl' (fun i=>[(100012,a0U,(lvl p i.1.2.2).map d9.cells)]) (fun i=>(p.Rules.getD k default).Body.length-i.1.1) (⟨(0,ag3,g3),z0D,hL3,ho3,z0F,fun h=>⟨(hF3 h).1,(hF3 h).2.1,(hF3 h).2.2,z0D⟩,hM3⟩) ?_;intro S4 hS4 i;obtain⟨⟨j,ag4,g4⟩,hj,hL4,ho4,hh4,hF4,hM4⟩:=i;simp only at hj hL4 ho4 hh4 hF4 hM4;have hLb:∀v,-1<=a1B (lvl p g4) v/\a1B (lvl p g4) v<=400:=fun v=>by
     by_cases e:v∈vwS p
     ·rw[c5Y g4 e];have:=hL4.ge v;by_cases e2:v=(vwS p).getD n []
      ·rw[e2]at this ⊢;omega
      ·have:=ho4 v e e2;omega
     ·rw[d0H g4 e];omega
    have hw:∀v,IntKind.i64.wrap (a1B (lvl p g4) v+1)=a1B (lvl p g4) v+1:=fun v=>by have:=hLb v;rw[IntWalk.i64_in _ z0C]
    simp only[go_sem,hS0,hS1,hll,hS2,hgm,hsm,hS3,hS4,hw];repeat' first|apply cj'|intro hc|exact om'|fail
    ·rename_i hq;have hjl:j<(p.Rules.getD k default).Body.length:=by omega
     have hlm:((p.Rules.getD k default).Body.getD j default)∈(p.Rules.getD k default).Body:=A3w hjl;have hkk:((p.Rules.getD k default).Body.getD j default).Kind≠3:=by simpa using hc.1
     have hx0:=c8k (x:=a1B (lvl p g4) ((p.Rules.getD k default).Body.getD j default).Atom.Name+1) hL4.ge (.inl ⟨z14,rfl⟩);have hh0:=hL4.ge ((vwS p).getD n []);have hc2:=hc.2;rcases hx0 with⟨hvv,e⟩|⟨hvv,e⟩
     ·have hMM:a3C p g4<=a3C p g:=by
       cases hag4:ag4 with
       | true=>exact Nat.le_of_lt (hM4 hag4)
       | false=>rw[(hF4 hag4).1];exact q0C _
      have R:=b0i (j:=8*k+j) hrm (by rw[hrh];exact hv) hlm hkk hvv hL4 (by rw[hrh];exact ho4) (by rw[hrh];exact hh4) z0C e (by rw[hrh];exact hc2) hMM;rw[hrh]at R
      (refine lpK_n2 (⟨(j+1,true,upd g4 ((vwS p).getD n []) (a1B (lvl p g4) ((p.Rules.getD k default).Body.getD j default).Atom.Name+1)),z0F,R.1,R.2.1,R.2.2.1,fun h=>(by cases h),fun _=>R.2.2.2⟩) _ rfl ?_;simp only[go_sem,hS0,hS1,hll,hS2,hgm,hsm,hS3,hS4,hw]<;>repeat' first|apply W6|exact on'|fail)
     ·exfalso;omega
    ·rename_i hq;have hjl:j<(p.Rules.getD k default).Body.length:=by omega
     have hst:a3B p g4 ((vwS p).getD n []) ((p.Rules.getD k default).Body.getD j default):=d0I hL4.ge (.inl ⟨z14,rfl⟩) hc;have h3:ag4=false->g4=g/\(∀r∈p.Rules,r.Head.Name∈(vwS p).take n->a0Q p g r)/\(∀r∈p.Rules.take k,r.Head.Name=((vwS p).getD n [])->a0Q p g r)/\∀l∈(p.Rules.getD k default).Body.take (j+1),a3B p g ((vwS p).getD n []) l:=fun h=>by
      have h5:=hF4 h;refine⟨h5.1,h5.2.1,h5.2.2.1,d0K hjl h5.2.2.2 ?_⟩;rw[<-h5.1];exact hst
     (refine lpK_n2 (⟨(j+1,ag4,g4),z0F,hL4,ho4,z0F,h3,hM4⟩) _ rfl ?_;simp only[go_sem,hS0,hS1,hll,hS2,hgm,hsm,hS3,hS4,hw]<;>repeat' first|apply W6|exact on'|fail)
    ·rename_i hq;have hjl:j<(p.Rules.getD k default).Body.length:=by omega
     have hlm:((p.Rules.getD k default).Body.getD j default)∈(p.Rules.getD k default).Body:=A3w hjl;have hkk:((p.Rules.getD k default).Body.getD j default).Kind≠3:=by simpa using hc.1
     have hx0:=c8k (x:=a1B (lvl p g4) ((p.Rules.getD k default).Body.getD j default).Atom.Name) hL4.ge (.inr ⟨hq,rfl⟩);have hh0:=hL4.ge ((vwS p).getD n []);have hc2:=hc.2;rcases hx0 with⟨hvv,e⟩|⟨hvv,e⟩
     ·have hMM:a3C p g4<=a3C p g:=by
       cases hag4:ag4 with
       | true=>exact Nat.le_of_lt (hM4 hag4)
       | false=>rw[(hF4 hag4).1];exact q0C _
      have R:=b0i (j:=8*k+j) hrm (by rw[hrh];exact hv) hlm hkk hvv hL4 (by rw[hrh];exact ho4) (by rw[hrh];exact hh4) z0C e (by rw[hrh];exact hc2) hMM;rw[hrh]at R
      (refine lpK_n2 (⟨(j+1,true,upd g4 ((vwS p).getD n []) (a1B (lvl p g4) ((p.Rules.getD k default).Body.getD j default).Atom.Name)),z0F,R.1,R.2.1,R.2.2.1,fun h=>(by cases h),fun _=>R.2.2.2⟩) _ rfl ?_;simp only[go_sem,hS0,hS1,hll,hS2,hgm,hsm,hS3,hS4,hw]<;>repeat' first|apply W6|exact on'|fail)
     ·exfalso;omega
    ·rename_i hq;have hjl:j<(p.Rules.getD k default).Body.length:=by omega
     have hst:a3B p g4 ((vwS p).getD n []) ((p.Rules.getD k default).Body.getD j default):=d0I hL4.ge (.inr ⟨hq,rfl⟩) hc;have h3:ag4=false->g4=g/\(∀r∈p.Rules,r.Head.Name∈(vwS p).take n->a0Q p g r)/\(∀r∈p.Rules.take k,r.Head.Name=((vwS p).getD n [])->a0Q p g r)/\∀l∈(p.Rules.getD k default).Body.take (j+1),a3B p g ((vwS p).getD n []) l:=fun h=>by
      have h5:=hF4 h;refine⟨h5.1,h5.2.1,h5.2.2.1,d0K hjl h5.2.2.2 ?_⟩;rw[<-h5.1];exact hst
     (refine lpK_n2 (⟨(j+1,ag4,g4),z0F,hL4,ho4,z0F,h3,hM4⟩) _ rfl ?_;simp only[go_sem,hS0,hS1,hll,hS2,hgm,hsm,hS3,hS4,hw]<;>repeat' first|apply W6|exact on'|fail)
    ·have h3:ag4=false->g4=g/\(∀r∈p.Rules,r.Head.Name∈(vwS p).take n->a0Q p g r)/\∀r∈p.Rules.take (k+1),r.Head.Name=((vwS p).getD n [])->a0Q p g r:=fun h=>by
      have h5:=hF4 h;refine⟨h5.1,h5.2.1,fun r hr he=>?_⟩;rw[j3 default z0C,W9,q0A]at hr;rcases hr with hr|rfl
      ·exact h5.2.2.1 r hr he
      ·intro _ l hl;rw[he];refine h5.2.2.2 l ?_;rw[i4 z0C];exact hl
     (refine lpK_n2 (⟨(k+1,ag4,g4),z0F,hL4,ho4,z0F,h3,hM4⟩) _ rfl ?_;simp only[go_sem,hS0,hS1,hll,hS2,hgm,hsm,hS3,hS4,hw]<;>repeat' first|apply W6|exact on'|fail)
   ·rw[c6b hL3 hv hc];exact⟨rfl,rfl⟩
   ·have h1:∀v∈vwS p,g3 v<=(vwS p).length:=fun v hv2=>by
     by_cases e:v=((vwS p).getD n [])
     ·rw[e];omega
     ·exact ho3 v hv2 e
    have h3:ag3=false->g3=g/\∀r∈p.Rules,r.Head.Name∈(vwS p).take (n+1)->a0Q p g r:=fun h=>by
     have h5:=hF3 h;refine⟨h5.1,fun r hr he=>?_⟩;rw[j3 [] z0C,W9,q0A]at he;rcases he with he|he
     ·exact h5.2.1 r hr he
     ·exact h5.2.2 r (by rw[i4 z0C];exact hr) he
    (refine lpK_n2 (⟨(n+1,ag3,g3),z0F,hL3,h1,h3,hM3⟩) _ rfl ?_;simp only[go_sem,hS0,hS1,hll,hS2,hgm,hsm,hS3]<;>repeat' first|apply W6|exact on'|fail)
  ·have h3:ag2=false->Fx p g2:=fun h=>by
    have h5:=hF2 h;rw[i4 z0C]at h5;rw[h5.1];intro r hr hv2;exact h5.2 r hr hv2 hv2
   have hmm:ag2=false->g2=g:=fun h=>(hF2 h).1
   (refine lpK_n2 (⟨(ag2,g2),hL2,hle2,h3⟩) _ rfl ?_;simp only[go_sem,hS0,hS1,hll,hS2]<;>repeat' first|apply W6|exact on'|fail)
   cases hag2:ag2 with
   | false=>rw[hmm hag2,hag];simp only[z0B];omega
   | true=>have:=hM2 hag2;rw[hag];simp only[W8];omega
 ·rw[c2P hN ⟨hF hc,hL,hle⟩];exact⟨rfl,rfl⟩
noncomputable def a5V:CT:=j8 (fun(x:c6)=>c5f x)
@[go_sem] def d7J:=fun x0 x1=>nm' (fQ' a5V rfl ⟨x0,x1⟩)
noncomputable def a0m(p:c6):Bool:=(i9 p).2&&a1O p==-1
def a4g{p:c6}(h:(i9 p).2=true):((n7 p).1==0)=true:=by
 cases e:((n7 p).1==0)with
 | true=>rfl
 | false=>rw[i9,e,V2]at h;exact h
def a0n{p:c6}(h:a0m p=true):((n7 p).1==0)=true:=by
 rw[a0m,W3]at h;exact a4g h.1
def d0z(p:c6):spZ 136 [(true,[m9 p.Decls,m7 p.Rules])] [] (.one (false,[.b (a0m p)])):=by
 refine sy' Tryz.func136 (q' 1 [aX 2 0,aU false] (q' 6 [ae 2 1,ac 199 [6],aV 5,aZ 5 0,aZ 5 1,av 3 8,aV 4] (q' 10 [aM [4,10],aH 11 true [be 2 1,bc 200 [12],bC .eql 13 (-1)],aP 11 14,aV 2] .ret))) [.t 2] [(199,[],a5F),(200,[],a6i)] ?_;intro hb hE;simp only[go_sem];repeat' first|apply cj'|intro hc|exact om'|fail
 all_goals(first|rfl)
noncomputable def b6V:CT:=j8 (fun(x:c6)=>d0z x)
@[go_sem] def e0w:=fun x0 x1=>nm' (fQ' b6V rfl ⟨x0,x1⟩)
def d0F(p:c6):spZ 126 [(true,[m9 p.Decls,m7 p.Rules])] [] (.one (false,[.b (a0m p)])):=by
 refine sy' Tryz.func126 (q' 1 [aX 2 0,aU false] (q' 8 [ae 2 1,ac 193 [8],aV 7,aZ 7 0,aZ 7 1,av 3 10,aV 4] (q' 13 [ae 2 1,ac 131 [13],aV 12,aZ 12 0,aZ 12 1,av 5 15,aV 6] (q' 17 [am 3,aC .eql 17 0,am 18,aH 19 true [be 2 1,bc 194 [20],bC .eql 21 (-1)],aP 19 22,am 23,aH 24 true [bm 6],aP 24 25,aV 2] .ret)))) [.t 2] [(193,[],a2F),(131,[],a5V),(194,[],a6D)] ?_;intro hb hE;simp only[go_sem];repeat' first|apply cj'|intro hc|exact om'|fail
 all_goals(first|(rw[a0m];cases h1:((n7 p).1==0)<;>cases h2:(i9 p).2<;>cases h3:(a1O p==-1)<;>first|rfl|(rw[a4g h2]at h1;cases h1)))
noncomputable def b6X:CT:=j8 (fun(x:c6)=>d0F x)
@[go_sem] def e0C:=fun x0 x1=>nm' (fQ' b6X rfl ⟨x0,x1⟩)
def a0y{α:Type}{l:List α}(d:α)(h:i<l.length):l.drop i=l.getD i d::l.drop (i+1):=by
 rw[j7 d h];exact q3E h
def a0Z(r:d3):Bool:=decide ((r.V.length:Int)<=6)&&r.V.all n0
def a1s:List d4->List d4->Int
 | [],[]=>0
 | [],_::_=>-1
 | _::_,[]=>1
 | x::a,y::b=>bif y7 x y then-1 else bif y7 y x then 1 else a1s a b
def a1V:List d4->List d4->Int
 | [],[]=>0
 | [],_::_=>-1
 | _::_,[]=>1
 | x::a,y::b=>if a0D x y=0 then a1V a b else a0D x y
def a9W(a b:d3):Int:=bif a0Z a&&a0Z b then a1s a.V b.V else 2
def a0P(r:d8)(i:Nat):Bool:=!((r.Rows.getD i default).V.length==r.Arity)||!a0Z (r.Rows.getD i default)||decide (0<i)&&!(a1s (r.Rows.getD (i-1) default).V (r.Rows.getD i default).V==-1)
def n8(r:d8):Bool:=decide (0<=r.Arity)&&decide (r.Arity<=6)&&decide ((r.Rows.length:Int)<=300)&&!a1t r.Rows.length (a0P r)
def a1b(l:List c9)(i:Nat):Bool:=!a0Y (l.getD i default).Name||!n8 (l.getD i default).Rel||decide (0<i)&&!Op.bytesLess (l.getD (i-1) default).Name (l.getD i default).Name
def j6(s:c4):Bool:=decide ((s.Rels.length:Int)<=24)&&!a1t s.Rels.length (a1b s.Rels)
def y9(s:c4):Nat:=(s.Rels.map fun x=>x.Rel.Rows.length).sum
def a3x{α:Type}{l:List α}(h:l.length<=i):l.drop i=[]:=q3O h
def e1J(hi:i<=a.length)(hj:i<=b.length)(h:¬(i<a.length/\i<b.length)):a1s (a.drop i) (b.drop i)=if a.length<b.length then-1 else if b.length<a.length then 1 else 0:=by
 by_cases h1:a.length<b.length
 ·rw[if_pos h1,a3x (show a.length<=i by omega),a0y (l:=b) default z0C];rfl
 ·rw[if_neg h1];by_cases h2:b.length<a.length
  ·rw[if_pos h2,a3x (show b.length<=i by omega),a0y (l:=a) default z0C];rfl
  ·rw[if_neg h2,a3x (show a.length<=i by omega),a3x (show b.length<=i by omega)];rfl
def c0J(hi:i<=a.length)(hj:i<=b.length)(h:¬(i<a.length/\i<b.length)):a1V (a.drop i) (b.drop i)=if a.length<b.length then-1 else if b.length<a.length then 1 else 0:=by
 by_cases h1:a.length<b.length
 ·rw[if_pos h1,a3x (show a.length<=i by omega),a0y (l:=b) default z0C];rfl
 ·rw[if_neg h1];by_cases h2:b.length<a.length
  ·rw[if_pos h2,a3x (show b.length<=i by omega),a0y (l:=a) default z0C];rfl
  ·rw[if_neg h2,a3x (show a.length<=i by omega),a3x (show b.length<=i by omega)];rfl
def b4s:∀{a b:List d4},(∀x∈a,n0 x=true)->(∀x∈b,n0 x=true)->sgn (a1V a b)=a1s a b
 | [],[],_,_=>by decide
 | [],_::_,_,_=>by simp only[a1V,a1s];decide
 | _::_,[],_,_=>by simp only[a1V,a1s];decide
 | x::a,y::b,ha,hb=>by
   have h:=b7h (ha x z0D) (hb y z0D);have ih:=b4s (a:=a) (b:=b) (fun z hz=>ha z (by simp[hz])) (fun z hz=>hb z (by simp[hz]));rw[a1V,a1s];unfold b0F at h;split
   ·rename_i h0;rw[h0]at h;cases h1:y7 x y with
    | true=>rw[h1,W8]at h;unfold sgn at h;omega
    | false=>
      cases h2:y7 y x with
      | true=>rw[h1,h2,W8,V2]at h;unfold sgn at h;omega
      | false=>exact ih
   ·rename_i h0;cases h1:y7 x y with
    | true=>rw[h1]at h;exact h
    | false=>
      cases h2:y7 y x with
      | true=>rw[h1,h2]at h;exact h
      | false=>rw[h1,h2]at h;unfold sgn at h;simp only[V2]at h;omega
def c2F(a:d4)(b:d4):spZ 233 [(true,[.i .i64 a.N,.s a.S]),(true,[.i .i64 b.N,.s b.S])] [] (.one (false,[.b (y7 a b)])):=by
 refine sy' Tryz.func233 (q' 2 [aX 2 0,aX 2 1,aU false] (.seq (q' 5 [aG 1 2,aY .eql 6 [],am 7,aH 8 true [bf 1 3,bL,bY .eql 10 []],aP 8 11] (ci 12 (q' 13 [aG 0 2,aG 0 3,ar 14 16,aV 4] .ret))) (q' 18 [aG 1 2,aG 1 3,ar 19 21,aV 4] .ret))) [.t 4] [] ?_;intro hb hE;simp only[go_sem];repeat' first|apply cj'|intro hc|exact om'|fail
 ·rw[y7,hc.1,hc.2];rfl
 ·rw[y7,hc];rfl
noncomputable def a4G:CT:=j8 (fun(x:d4×d4)=>c2F x.1 x.2)
@[go_sem] def d5B:=fun x0 x1 x2 x3=>nm' (fQ' a4G rfl (⟨x0,x1⟩,⟨x2,x3⟩))
def b8V(a:d3)(b:d3):spZ 178 [(true,[o5 a.V]),(true,[o5 b.V])] [] (.one (false,[.i .i64 (a1s a.V b.V)])):=by
 refine sy' Tryz.func178 (q' 2 [aX 1 0,aX 1 1,aK 0] (.seq (q' 5 [aK 0] (fo 0 6 [am 5,aG 0 2,aN,ar 6 9,am 10,aH 11 true [bm 5,bf 0 3,bL,bN,bD .lss 12 15],aP 11 16] 17 1 (.seq (.seq (G' 20 [aG 0 2,am 5,aI 2,aE 2,aG 0 3,am 5,aI 2,aE 2,ac 233 [24,29]]) (ci 30 (q' 4 [ao (.mov (.k (.v false [.c (.i .i64 (-1))])))] .ret))) (.seq (G' 31 [aG 0 3,am 5,aI 2,aE 2,aG 0 2,am 5,aI 2,aE 2,ac 233 [35,40]]) (ci 41 (q' 4 [aK 1] .ret)))) (g' 18 [aB 5]))) (.seq (q' 42 [aG 0 2,aN,aG 0 3,aN,ar 44 47] (ci 48 (q' 4 [ao (.mov (.k (.v false [.c (.i .i64 (-1))])))] .ret))) (.seq (q' 49 [aG 0 2,aN,aG 0 3,aN,aD .gtr 51 54] (ci 55 (q' 4 [aK 1] .ret))) (q' 4 [aK 0] .ret))))) [.t 4] [(233,[],a4G)] ?_;intro hb hE;simp only[go_sem];repeat' first|apply cj'|intro hc|exact om'|fail
 refine lq' false [2,3] [4,6] [] (fun i:{i:Nat // i<=a.V.length/\i<=b.V.length/\a1s (a.V.drop i) (b.V.drop i)=a1s a.V b.V}=>[(5,slV (.i .i64 i.1))]) nl' nl' (fun i=>a.V.length-i.1) (⟨0,z0D⟩) ?_;intro S0 hS0 i;obtain⟨i,hi,hj,he⟩:=i;simp only[go_sem,hS0];repeat' first|apply cj'|intro hc|exact om'|fail
 ·rw[<-he,a0y (l:=a.V) default z0C,a0y (l:=b.V) default z0C,a1s,hc];rfl
 ·rename_i h1;rw[<-he,a0y (l:=a.V) default z0C,a0y (l:=b.V) default z0C,a1s,h1,hc];rfl
 ·rename_i h1;have h2:=he;rw[a0y (l:=a.V) default z0C,a0y (l:=b.V) default z0C,a1s,h1,hc]at h2;exact nx0 ⟨i+1,z0C,z0C,h2⟩
 all_goals have q:(decide ((i:Int)<a.V.length)&&decide ((i:Int)<b.V.length))=false:=by assumption
 all_goals rw[q3U,q1J,q1J]at q
 all_goals rw[<-he,e1J hi hj z0C]
 ·rw[if_pos z0C]
 ·rw[if_neg z0C,if_pos z0C]
 ·rw[if_neg z0C,if_neg z0C]
noncomputable def a3M:CT:=j8 (fun(x:d3×d3)=>b8V x.1 x.2)
@[go_sem] def d3o:=fun x0 x1=>nm' (fQ' a3M rfl (⟨x0⟩,⟨x1⟩))
def c8e(r:d3):spZ 129 [(true,[o5 r.V])] [] (.one (false,[.b (a0Z r)])):=by
 refine sy' Tryz.func129 (q' 1 [aX 1 0,aU false] (.seq (q' 5 [aG 0 1,aN,aC .gtr 7 6] (ci 8 (q' 2 [aU false] .ret))) (.seq (q' 9 [aG 0 1,aN,aK 0] (fO 0 13 [ar 12 11] 13 1 (q' 14 [ai 2 10 12,aE 2,ax (w' 4 [.i .i64,.s]),aS 2 4 15] (q' 16 [ae 2 4,ac 195 [16],aO 17] (ci 18 (q' 2 [aU false] .ret)))) (g' 19 [aA 12]))) (q' 2 [aU true] .ret)))) [.t 2] [(195,[],a1v)] ?_;intro hb hE;simp only[go_sem];repeat' first|apply cj'|intro hc|exact om'|fail
 ·rw[a0Z,V3 z0C];rfl
 have h6:((r.V.length:Int))<=6:=by omega
 refine lq' false [10,11] [] [] (fun i:{i:Nat // i<=r.V.length/\(r.V.take i).all n0=true}=>[(12,slV (.i .i64 i.1))]) nl' nl' (fun i=>r.V.length-i.1) (⟨0,z0D⟩) ?_;intro S0 hS0 i;obtain⟨i,hi,ha⟩:=i;simp only[go_sem,hS0];repeat' first|apply cj'|intro hc|exact om'|fail
 ·rw[a0Z,all_false (d:=default) (i:=i) z0C hc,q2J]
 ·exact nx0 ⟨i+1,z0C,a0p default z0C ha hc⟩
 ·rw[i4 z0C]at ha;rw[a0Z,ha,V0 h6];rfl
noncomputable def a7s:CT:=j8 (fun(x:d3)=>c8e x)
@[go_sem] def d9C:=fun x0=>nm' (fQ' a7s rfl ⟨x0⟩)
def c1J(v:d4):spZ 202 [(true,[.i .i64 v.N,.s v.S])] [] (.one (false,[.b (!n0 v)])):=by
 refine sy' Tryz.func202 (q' 1 [aX 2 0,aU false] (q' 3 [ae 2 1,ac 203 [3],aO 4,aV 2] .ret)) [.t 2] [(203,[],a2z)] ?_;intro hb hE;simp only[go_sem];repeat' first|apply cj'|intro hc|exact om'|fail
noncomputable def a8S:CT:=j8 (fun(x:d4)=>c1J x)
@[go_sem] def d4E:=fun x0 x1=>nm' (fQ' a8S rfl ⟨x0,x1⟩)
def d4f(l:List d4):spZ 205 [(false,[o5 l]),(false,[.f 202 []])] [] (.one (false,[.i .i64 (a1a (fun y=>!n0 y) l)])):=by
 refine sy' Tryz.func205 (q' 4 [aK 0] (.seq (q' 6 [am 0,aN,aK 0] (fO 0 9 [ar 8 7] 9 1 (q' 10 [am 8,aV 5] (q' 11 [aM [1,0,5],aI 2,aE 2,ao (.callv (.t 11) [.t 15])] (ci 16 (q' 17 [am 5,aV 4] .ret)))) (g' 18 [aA 8]))) (q' 4 [ao (.mov (.k (.v false [.c (.i .i64 (-1))])))] .ret))) [.t 4] [(202,[],a8S)] ?_;intro hb hE;simp only[go_sem];repeat' first|apply cj'|intro hc|exact om'|fail
 refine lq' false [0,1,7] [] [] (fun i:{i:Nat // i<=l.length/\(l.take i).any (fun y=>!n0 y)=false}=>[(8,slV (.i .i64 i.1))]) nl' nl' (fun i=>l.length-i.1) (⟨0,z0D⟩) ?_;intro S0 hS0 i;obtain⟨i,hi,ha⟩:=i;simp only[go_sem,hS0];repeat' first|apply cj'|intro hc|exact om'|fail
 ·exact(w9 (p:=fun y=>!n0 y) (d:=default) z0C ha z0G).symm
 ·exact nx0 ⟨i+1,z0C,t7 (p:=fun y=>!n0 y) default z0C ha z0G⟩
 ·exact(w8 z0J).symm
noncomputable def c0X:CT:=j8 (fun(x:(List d4))=>d4f x)
@[go_sem] def e2e:=fun l=>nm' (fQ' c0X rfl l)
def d4e(l:List d4):spZ 141 [(false,[o5 l]),(false,[.f 202 []])] [] (.one (false,[.b (l.any (fun y=>!n0 y))])):=by
 refine sy' Tryz.func141 (q' 4 [aU false] (q' 5 [aM [0,1],ac 205 [5,6],aC .geq 7 0,aV 4] .ret)) [.t 4] [(205,[],c0X)] ?_;intro hb hE;simp only[go_sem];repeat' first|apply cj'|intro hc|exact om'|fail
 ·exact a1l _ _
noncomputable def c0W:CT:=j8 (fun(x:(List d4))=>d4e x)
@[go_sem] def e2d:=fun l=>nm' (fQ' c0W rfl l)
def c7J(r:d3):spZ 139 [(true,[o5 r.V])] [] (.one (false,[.b (a0Z r)])):=by
 refine sy' Tryz.func139 (q' 1 [aX 1 0,aU false] (q' 3 [aG 0 1,aN,aC .leq 5 6,am 6,aH 7 true [bf 0 1,bL,bo (.call 141 [.t 9,.k (.v false [.c (.f 202 [])])]),bO 10],aP 7 11,aV 2] .ret)) [.t 2] [(141,[],c0W)] ?_;intro hb hE;simp only[go_sem];repeat' first|apply cj'|intro hc|exact om'|fail
 all_goals rw[a9Z,q5J,a0Z]
noncomputable def b3b:CT:=j8 (fun(x:d3)=>c7J x)
@[go_sem] def d9b:=fun x0=>nm' (fQ' b3b rfl ⟨x0⟩)
def d8l(a:List d4)(b:List d4):spZ 270 [(false,[o5 a]),(false,[o5 b]),(false,[.f 271 []])] [] (.one (false,[.i .i64 (a1V a b)])):=by
 refine sy' Tryz.func270 (q' 6 [aK 0] (.seq (q' 11 [am 0,aN,aK 0] (fO 0 14 [ar 13 12] 14 1 (q' 15 [am 13,ai 2 11 13,aE 2,ax (w' 8 [.i .i64,.s]),av 7 15,aS 2 8 17] (.seq (q' 18 [aM [7,1],aN,aD .geq 18 20] (ci 21 (q' 6 [aK 1] .ret))) (q' 22 [aM [1,7],aI 2,aE 2,ax (w' 9 [.i .i64,.s]),aS 2 9 25] (q' 26 [am 2,ae 2 8,ae 2 9,ao (.callv (.t 26) [.t 27,.t 28]),aV 10] (q' 30 [am 10,aC .neq 30 0] (ci 31 (q' 32 [am 10,aV 6] .ret))))))) (g' 33 [aA 13]))) (.seq (q' 34 [am 0,aN,am 1,aN,ar 35 37] (ci 38 (q' 6 [ao (.mov (.k (.v false [.c (.i .i64 (-1))])))] .ret))) (q' 6 [aK 0] .ret)))) [.t 6] [(271,[],a2B)] ?_;intro hb hE;simp only[go_sem];repeat' first|apply cj'|intro hc|exact om'|fail
 refine lq' false [0,1,2,11,12] [] [] (fun i:{i:Nat // i<=a.length/\i<=b.length/\a1V (a.drop i) (b.drop i)=a1V a b}=>[(13,slV (.i .i64 i.1))]) nl' nl' (fun i=>a.length-i.1) (⟨0,z0D⟩) ?_;intro S0 hS0 i;obtain⟨i,hi,hj,he⟩:=i;simp only[go_sem,hS0];repeat' first|apply cj'|intro hc|exact om'|fail
 ·rw[<-he,c0J hi hj z0C,if_neg z0C,if_pos z0C]
 ·rw[<-he,a0y (l:=a) default z0C,a0y (l:=b) default z0C,a1V,if_neg z0O]
 ·have h2:=he;rw[a0y (l:=a) default z0C,a0y (l:=b) default z0C,a1V,if_pos z0O]at h2;exact nx0 ⟨i+1,z0C,z0C,h2⟩
 ·rw[<-he,c0J hi hj z0C,if_pos z0C]
 ·rw[<-he,c0J hi hj z0C,if_neg z0C,if_neg z0C]
noncomputable def c5G:CT:=j8 (fun(x:(List d4)×(List d4))=>d8l x.1 x.2)
@[go_sem] def e2j:=fun a b=>nm' (fQ' c5G rfl (a,b))
def b3M(a:d3)(b:d3):spZ 214 [(true,[o5 a.V]),(true,[o5 b.V])] [] (.one (false,[.i .i64 (a1V a.V b.V)])):=by
 refine sy' Tryz.func214 (q' 2 [aX 1 0,aX 1 1,aK 0] (q' 5 [aG 0 2,aG 0 3,ao (.call 270 [.t 6,.t 8,.k (.v false [.c (.f 271 [])])]),aV 4] .ret)) [.t 4] [(270,[],c5G)] ?_;intro hb hE;simp only[go_sem];repeat' first|apply cj'|intro hc|exact om'|fail
noncomputable def a7l:CT:=j8 (fun(x:d3×d3)=>b3M x.1 x.2)
@[go_sem] def d9h:=fun x0 x1=>nm' (fQ' a7l rfl (⟨x0⟩,⟨x1⟩))
def b8U(a:d3)(b:d3):spZ 234 [(true,[o5 a.V]),(true,[o5 b.V])] [] (.one (false,[.i .i64 (a9W a b)])):=by
 refine sy' Tryz.func234 (q' 2 [aX 1 0,aX 1 1,aK 0] (.seq (q' 5 [ae 1 2,ac 129 [5],aO 6,am 7,aH 8 false [be 1 3,bc 129 [9],bO 10],aQ 8 11] (ci 12 (q' 4 [aK 2] .ret))) (q' 13 [ae 1 2,ae 1 3,ac 178 [13,14],aV 4] .ret))) [.t 4] [(129,[],a7s),(178,[],a3M)] ?_;intro hb hE;simp only[go_sem];repeat' first|apply cj'|intro hc|exact om'|fail
 ·rcases hc with h|h<;>simp[a9W,h]
 ·rw[a9W,hc.1,hc.2];rfl
noncomputable def a8b:CT:=j8 (fun(x:d3×d3)=>b8U x.1 x.2)
@[go_sem] def d3n:=fun x0 x1=>nm' (fQ' a8b rfl (⟨x0⟩,⟨x1⟩))
def a5c{n:Nat}{p:Nat->Bool}(h:a1t n p=false){j:Nat}(hj:j<n):p j=false:=by
 simp only[a1t,q0Q]at h;simpa using c0H h hj
def a0j{r:d3}(h:a0Z r=true):∀x∈r.V,n0 x=true:=by
 simp only[a0Z,W3,q0K]at h;exact h.2
def a3j{r:d8}(h:a0P r i=false):a0Z (r.Rows.getD i default)=true:=by
 simp only[a0P,q0U,q0Q]at h;exact h.1.2
def bRow_ge(ha:∀x∈a,n0 x=true)(hb:∀x∈b,n0 x=true):decide (0<=a1V a b)=!(a1s a b==-1):=by
 have h:=b4s ha hb;unfold sgn at h;rw[q3T];simp only[V8,q0M,beq_eq_false_iff_ne];omega
def d8D{r:d8}(ha:a1t i (a0P r)=false):(!a0Z (r.Rows.getD i default)||!((r.Rows.getD i default).V.length==r.Arity)||(decide (0<i)&&decide (0<=a1V (r.Rows.getD (i-1) default).V (r.Rows.getD i default).V)))=a0P r i:=by
 rw[a0P];cases h:a0Z (r.Rows.getD i default)with
 | false=>simp
 | true=>
   by_cases h0:0<i
   ·rw[bRow_ge (a0j (a3j (a5c ha (show i-1<i by omega)))) (a0j h)];simp
   ·rw[V3 h0];simp
def c3d{r:d8}(hi:i<r.Rows.length)(h:a0P r i=true):n8 r=false:=by
 rw[n8,a1p hi h];simp
def c8d(r:d8):spZ 180 [(true,[.i .i64 r.Arity,n9 r.Rows])] [] (.one (false,[.b (n8 r)])):=by
 refine sy' Tryz.func180 (q' 1 [aX 2 0,aU false] (.seq (q' 4 [aG 0 1,aC .lss 5 0,am 6,aH 7 false [bf 0 1,bL,bC .gtr 9 6],aQ 7 10,am 11,aH 12 false [bf 1 1,bL,bN,bC .gtr 15 300],aQ 12 16] (ci 17 (q' 2 [aU false] .ret))) (.seq (q' 18 [aG 1 1,aN,aK 0] (fO 0 22 [ar 21 20] 22 1 (q' 23 [am 21,aV 3] (.seq (.seq (G' 24 [aG 1 1,am 3,aI 1,aG 0 27,aN,aG 0 1,aD .neq 30 32,am 33,aH 34 false [bf 1 1,bL,bm 3,bI 1,bE 1,bc 129 [39],bO 40],aQ 34 41]) (ci 42 (q' 2 [aU false] .ret))) (.seq (G' 43 [am 3,aC .gtr 43 0,am 44,aH 45 true [bf 1 1,bL,bm 3,bC .sub 48 1,bi 1 47 49,bE 1,bf 1 1,bL,bm 3,bI 1,bE 1,bc 234 [51,56],bC .neq 57 (-1)],aP 45 58]) (ci 59 (q' 2 [aU false] .ret))))) (g' 60 [aA 21]))) (q' 2 [aU true] .ret)))) [.t 2] [(129,[],a7s),(234,[],a8b)] ?_;intro hb hE;simp only[go_sem];repeat' first|apply cj'|intro hc|exact om'|fail
 ·rcases hc with(h|h)|h
  ·rw[n8,V3 (show¬0<=r.Arity by omega)];rfl
  ·rw[n8,V3 (show¬r.Arity<=6 by omega)];simp
  ·rw[n8,V3 (show¬(r.Rows.length:Int)<=300 by omega)];simp
 have hA:=hc;clear hc;refine lq' false [1,20] [2] [] (fun i:{i:Nat // i<=r.Rows.length/\a1t i (a0P r)=false}=>[(21,slV (.i .i64 i.1))]) nl' nl' (fun i=>r.Rows.length-i.1) (⟨0,z1A⟩) ?_;intro S0 hS0 i;obtain⟨i,hi,ha⟩:=i;have hw:0<i->IntKind.i64.wrap ((i:Int)-1)=((i-1:Nat):Int):=fun h=>by rw[IntWalk.i64_in _ z0C];omega
 simp only[go_sem,hS0];repeat' first|apply cj'|intro hc|exact om'|fail
 ·have hq:a0P r i=true:=by
   rw[a0P];rcases hc with h|h
   ·simp only[bne]at h;rw[h];rfl
   ·rw[h];simp
  rw[c3d z0C hq]
 ·rename_i h1;have hq:a0P r i=true:=by
   rw[hw z0C]at hc;rw[a9W,h1.2,show((i-1:Nat):Int).toNat=i-1 from rfl,a3j (a5c ha (show i-1<i by omega))]at hc;rw[a0P,V0 (show 0<i by omega)];have h3:=hc.2;simp only[bne,q1Y,W8]at h3;rw[h3];simp
  rw[c3d z0C hq]
 ·rename_i h1;have hq:a0P r i=false:=by
   have h2:=h1.1;simp only[bne]at h2;rw[a0P,h2,h1.2];by_cases h0:0<i
   ·rw[hw h0,V0 (show(0:Int)<i by omega),a9W,h1.2,show((i-1:Nat):Int).toNat=i-1 from rfl,a3j (a5c ha (show i-1<i by omega))]at hc;rw[V0 h0];exact hc
   ·rw[V3 h0];rfl
  exact nx0 ⟨i+1,z0C,a0c ha hq⟩
 ·obtain rfl:i=r.Rows.length:=by omega
  rw[n8,ha,V0 (show 0<=r.Arity by omega),V0 (show r.Arity<=6 by omega),V0 (show(r.Rows.length:Int)<=300 by omega)];rfl
noncomputable def a7r:CT:=j8 (fun(x:d8)=>c8d x)
@[go_sem] def d9B:=fun x0 x1=>nm' (fQ' a7r rfl ⟨x0,x1⟩)
def c7I(r:d8):spZ 185 [(true,[.i .i64 r.Arity,n9 r.Rows])] [] (.one (false,[.b (n8 r)])):=by
 refine sy' Tryz.func185 (q' 1 [aX 2 0,aU false] (.seq (q' 5 [aG 1 1,aN,aK 0] (fO 0 9 [ar 8 7] 9 1 (q' 10 [am 8,ai 1 6 8,aE 1,ax (w' 4 [.sl l9]),av 3 10,aS 1 4 12] (.seq (G' 13 [ae 1 4,ac 139 [13],aO 14,am 15,aH 16 false [bf 0 4,bL,bN,bf 0 1,bL,bD .neq 19 21],aQ 16 22,am 23,aH 24 false [bm 3,bC .gtr 25 0,bm 26],aH 27 true [bf 1 1,bL,bm 3,bC .sub 30 1,bi 1 29 31,bE 1,be 1 4,bc 214 [33,34],bC .geq 35 0],aH 24 false [bP 27 36],aQ 24 37]) (ci 38 (q' 2 [aU false] .ret)))) (g' 39 [aA 8]))) (q' 40 [aG 0 1,ao (.call 240 [.t 41,.k (.v false [.c (.i .i64 6)])]),am 42,aH 43 true [bf 1 1,bL,bN,bC .leq 46 300],aP 43 47,aV 2] .ret))) [.t 2] [(139,[],b3b),(214,[],a7l),(240,[],a9f)] ?_;intro hb hE;simp only[go_sem];repeat' first|apply cj'|intro hc|exact om'|fail
 refine lq' false [1,6,7] [2] [] (fun i:{i:Nat // i<=r.Rows.length/\a1t i (a0P r)=false}=>[(8,slV (.i .i64 i.1))]) nl' nl' (fun i=>r.Rows.length-i.1) (⟨0,z1A⟩) ?_;intro S0 hS0 i;obtain⟨i,hi,ha⟩:=i;have hR:=d8D ha;have hw:0<i->IntKind.i64.wrap ((i:Int)-1)=((i-1:Nat):Int):=fun h=>by rw[IntWalk.i64_in _ z0C];omega
 simp only[go_sem,hS0];repeat' first|apply cj'|intro hc|exact om'|fail
 ·have hq:a0P r i=true:=by
   rw[<-hR];rcases hc with(h|h)|⟨h0,h⟩
   ·rw[h];rfl
   ·simp only[bne]at h;rw[h];simp
   ·rw[hw z0C]at h;have h':0<=a1V (r.Rows.getD (i-1) default).V (r.Rows.getD i default).V:=h;rw[V0 (show 0<i by omega),V0 h'];simp
  rw[c3d z0C hq]
 ·have hq:a0P r i=false:=by
   rw[<-hR];obtain⟨⟨h1,h2⟩,h3⟩:=hc;simp only[bne]at h2;rw[h1,h2];by_cases h0:0<i
   ·rw[hw h0,V0 (show(0:Int)<i by omega)]at h3;rw[V0 h0];exact h3
   ·rw[V3 h0];rfl
  exact nx0 ⟨i+1,z0C,a0c ha hq⟩
 ·obtain rfl:i=r.Rows.length:=by omega
  rw[n8,ha];simp
noncomputable def a7k:CT:=j8 (fun(x:d8)=>c7I x)
@[go_sem] def d9a:=fun x0 x1=>nm' (fQ' a7k rfl ⟨x0,x1⟩)
def c6l{s:c4}(hi:i<s.Rels.length)(h:a1b s.Rels i=true):j6 s=false:=by
 rw[j6,a1p hi h];simp
def c2D(s:c4):spZ 109 [(true,[i6 s.Rels])] [] (.one (false,[.b (j6 s)])):=by
 refine sy' Tryz.func109 (q' 1 [aX 1 0,aU false] (.seq (q' 4 [aG 0 1,aN,aC .gtr 6 24] (ci 7 (q' 2 [aU false] .ret))) (.seq (q' 8 [aG 0 1,aN,aK 0] (fO 0 12 [ar 11 10] 12 1 (q' 13 [am 11,aV 3] (.seq (G' 14 [aG 0 1,am 3,aI 3,aG 0 17,ac 179 [19],aO 20,am 21,aH 22 false [bf 0 1,bL,bm 3,bI 3,bF 1,bE 2,bc 180 [28],bO 29],aQ 22 30,am 31,aH 32 false [bm 3,bC .gtr 33 0,bm 34],aH 35 true [bf 0 1,bL,bm 3,bC .sub 38 1,bi 3 37 39,bF 0,bL,bf 0 1,bL,bm 3,bI 3,bF 0,bL,bD .geq 42 48],aH 32 false [bP 35 49],aQ 32 50]) (ci 51 (q' 2 [aU false] .ret)))) (g' 52 [aA 11]))) (q' 2 [aU true] .ret)))) [.t 2] [(179,[],a1X),(180,[],a7r)] ?_;intro hb hE;simp only[go_sem];repeat' first|apply cj'|intro hc|exact om'|fail
 ·rw[j6,V3 z0C];rfl
 have hA:=hc;clear hc;refine lq' false [1,10] [2] [] (fun i:{i:Nat // i<=s.Rels.length/\a1t i (a1b s.Rels)=false}=>[(11,slV (.i .i64 i.1))]) nl' nl' (fun i=>s.Rels.length-i.1) (⟨0,z1A⟩) ?_;intro S0 hS0 i;obtain⟨i,hi,ha⟩:=i;have hw:0<i->IntKind.i64.wrap ((i:Int)-1)=((i-1:Nat):Int):=fun h=>by rw[IntWalk.i64_in _ z0C];omega
 simp only[go_sem,hS0];repeat' first|apply cj'|intro hc|exact om'|fail
 ·have hq:a1b s.Rels i=true:=by
   rw[a1b];rcases hc with(h|h)|⟨h0,h⟩
   ·rw[h];rfl
   ·rw[h];simp
   ·rw[hw z0C]at h;have h':Op.bytesLess (s.Rels.getD (i-1) default).Name (s.Rels.getD i default).Name=false:=h;rw[V0 (show 0<i by omega),h'];simp
  rw[c6l z0C hq]
 ·have hq:a1b s.Rels i=false:=by
   obtain⟨⟨h1,h2⟩,h3⟩:=hc;rw[a1b,h1,h2];by_cases h0:0<i
   ·rw[hw h0,V0 (show(0:Int)<i by omega)]at h3;rw[V0 h0];exact h3
   ·rw[V3 h0];rfl
  exact nx0 ⟨i+1,z0C,a0c ha hq⟩
 ·obtain rfl:i=s.Rels.length:=by omega
  rw[j6,ha,V0 (show(s.Rels.length:Int)<=24 by omega)];rfl
noncomputable def a2G:CT:=j8 (fun(x:c4)=>c2D x)
@[go_sem] def d5z:=fun x0=>nm' (fQ' a2G rfl ⟨x0⟩)
def c1L(s:c4):spZ 115 [(true,[i6 s.Rels])] [] (.one (false,[.b (j6 s)])):=by
 refine sy' Tryz.func115 (q' 1 [aX 1 0,aU false] (.seq (q' 5 [aG 0 1,aN,aK 0] (fO 0 9 [ar 8 7] 9 1 (q' 10 [am 8,ai 3 6 8,aE 3,ax (w' 4 [.s,.i .i64,.sl i5]),av 3 10,aS 3 4 12] (.seq (G' 13 [aG 0 4,ac 184 [14],aO 15,am 16,aH 17 false [bf 1 4,bE 2,bc 185 [19],bO 20],aQ 17 21,am 22,aH 23 false [bm 3,bC .gtr 24 0,bm 25],aH 26 true [bf 0 1,bL,bm 3,bC .sub 29 1,bi 3 28 30,bF 0,bL,bf 0 4,bL,bD .geq 33 35],aH 23 false [bP 26 36],aQ 23 37]) (ci 38 (q' 2 [aU false] .ret)))) (g' 39 [aA 8]))) (q' 40 [aG 0 1,aN,aC .leq 42 24,aV 2] .ret))) [.t 2] [(184,[],a1W),(185,[],a7k)] ?_;intro hb hE;simp only[go_sem];repeat' first|apply cj'|intro hc|exact om'|fail
 refine lq' false [1,6,7] [2] [] (fun i:{i:Nat // i<=s.Rels.length/\a1t i (a1b s.Rels)=false}=>[(8,slV (.i .i64 i.1))]) nl' nl' (fun i=>s.Rels.length-i.1) (⟨0,z1A⟩) ?_;intro S0 hS0 i;obtain⟨i,hi,ha⟩:=i;have hw:0<i->IntKind.i64.wrap ((i:Int)-1)=((i-1:Nat):Int):=fun h=>by rw[IntWalk.i64_in _ z0C];omega
 simp only[go_sem,hS0];repeat' first|apply cj'|intro hc|exact om'|fail
 ·have hq:a1b s.Rels i=true:=by
   rw[a1b];rcases hc with(h|h)|⟨h0,h⟩
   ·rw[h];rfl
   ·rw[h];simp
   ·rw[hw z0C]at h;have h':Op.bytesLess (s.Rels.getD (i-1) default).Name (s.Rels.getD i default).Name=false:=h;rw[V0 (show 0<i by omega),h'];simp
  rw[c6l z0C hq]
 ·have hq:a1b s.Rels i=false:=by
   obtain⟨⟨h1,h2⟩,h3⟩:=hc;rw[a1b,h1,h2];by_cases h0:0<i
   ·rw[hw h0,V0 (show(0:Int)<i by omega)]at h3;rw[V0 h0];exact h3
   ·rw[V3 h0];rfl
  exact nx0 ⟨i+1,z0C,a0c ha hq⟩
 ·obtain rfl:i=s.Rels.length:=by omega
  rw[j6,ha,q3M,q1L]
noncomputable def a2y:CT:=j8 (fun(x:c4)=>c1L x)
@[go_sem] def d4G:=fun x0=>nm' (fQ' a2y rfl ⟨x0⟩)
def e1R{α:Type}{f:α->Nat}{k:Nat}:∀{l:List α},(∀x∈l,f x<=k)->(l.map f).sum<=k*l.length
 | [],_=>by simp
 | x::l,h=>by
   have:=e1R (l:=l) fun y hy=>h y (by simp[hy])
   have:=h x z0D;simp only[q0E,List.sum_cons,V7,Nat.mul_succ];omega
def a1g{r:d8}(h:n8 r=true):r.Rows.length<=300:=by
 simp only[n8,K7]at h;omega
def a0I{s:c4}(h:j6 s=true):s.Rels.length<=24:=by
 simp only[j6,K7]at h;omega
def a1J{s:c4}(h:j6 s=true):∀x∈s.Rels,n8 x.Rel=true:=by
 intro x hx;obtain⟨i,hi,rfl⟩:=q1H hx;simp only[j6,W3,q0M]at h;have:=a5c h.2 hi;simp only[a1b,q0U,q0Q,j7 default hi]at this;exact this.1.2
def b4r(s:c4)(i:Nat):Nat:=((s.Rels.take i).map fun x=>x.Rel.Rows.length).sum
def c3f{s:c4}(h:j6 s=true){i:Nat}(hi:i<=s.Rels.length):b4r s i<=7200:=by
 have h1:=a0I h;have h2:=e1R (f:=fun x:c9=>x.Rel.Rows.length) (k:=300) (l:=s.Rels.take i) fun x hx=>a1g (a1J h x (q1V hx))
 rw[V1]at h2;unfold b4r;omega
def c3g{s:c4}{i:Nat}(hi:i<s.Rels.length):b4r s (i+1)=b4r s i+(s.Rels.getD i default).Rel.Rows.length:=by
 unfold b4r;rw[j3 default hi,q1F,List.sum_append];simp
def b6F{s:c4}{i:Nat}(hi:¬i<s.Rels.length):b4r s i=y9 s:=by
 unfold b4r y9;rw[i4 hi]
def c2M(s:c4)(hpre:j6 s=true):spZ 132 [(true,[i6 s.Rels])] [] (.one (false,[.i .i64 (y9 s:Nat)])):=by
 refine sy' Tryz.func132 (q' 1 [aX 1 0,aK 0] (q' 3 [aK 0] (.seq (q' 5 [aG 0 1,aN,aK 0] (fO 0 9 [ar 8 7] 9 1 (q' 10 [am 8,aV 4] (g' 11 [am 3,aG 0 1,am 4,aI 3,aF 1,aG 1 16,aN,aD .add 11 19,aV 3])) (g' 21 [aA 8]))) (q' 22 [am 3,aV 2] .ret)))) [.t 2] [] ?_;intro hb hE;simp only[go_sem];repeat' first|apply cj'|intro hc|exact om'|fail
 refine lq' false [1,7] [2] [] (fun i:{i:Nat // i<=s.Rels.length}=>[(3,slV (.i .i64 (b4r s i.1:Nat))),(8,slV (.i .i64 i.1))]) nl' nl' (fun i=>s.Rels.length-i.1) (⟨0,z0D⟩) ?_;intro S0 hS0 i;obtain⟨i,hi⟩:=i;simp only[go_sem,hS0];repeat' first|apply cj'|intro hc|exact om'|fail
 ·have h1:=c3g (s:=s) (i:=i) z0C;have h2:=c3f hpre (i:=i+1) z0C;exact nx0 ⟨i+1,z0C⟩
 ·rw[b6F z0C]
noncomputable def a9F:CT:=k8 (fun(x:c4) h=>c2M x h)
@[go_sem] def d5J:=fun x0=>nm' (fP' a9F rfl ⟨x0⟩)
def b5R(s:c4)(hpre:j6 s=true):spZ 207 [(true,[i6 s.Rels])] [] (.one (false,[.i .i64 (y9 s:Nat)])):=by
 refine sy' Tryz.func207 (q' 1 [aX 1 0,aK 0] (q' 3 [aK 0] (.seq (q' 6 [aG 0 1,aN,aK 0] (fO 0 10 [ar 9 8] 10 1 (q' 11 [ai 3 7 9,aE 3,ax (w' 5 [.s,.i .i64,.sl i5]),aS 3 5 12] (g' 13 [am 3,af 1 5,aG 1 14,aN,aD .add 13 17,aV 3])) (g' 19 [aA 9]))) (q' 20 [am 3,aV 2] .ret)))) [.t 2] [] ?_;intro hb hE;simp only[go_sem];repeat' first|apply cj'|intro hc|exact om'|fail
 refine lq' false [7,8] [] [] (fun i:{i:Nat // i<=s.Rels.length}=>[(3,slV (.i .i64 (b4r s i.1:Nat))),(9,slV (.i .i64 i.1))]) nl' nl' (fun i=>s.Rels.length-i.1) (⟨0,z0D⟩) ?_;intro S0 hS0 i;obtain⟨i,hi⟩:=i;simp only[go_sem,hS0];repeat' first|apply cj'|intro hc|exact om'|fail
 ·have h1:=c3g (s:=s) (i:=i) z0C;have h2:=c3f hpre (i:=i+1) z0C;exact nx0 ⟨i+1,z0C⟩
 ·rw[b6F z0C]
noncomputable def a6n:CT:=k8 (fun(x:c4) h=>b5R x h)
@[go_sem] def d1w:=fun x0=>nm' (fP' a6n rfl ⟨x0⟩)
def k6(s:c4)(n:List UInt8):d8×Bool:=if 0<=a1a (fun x:c9=>x.Name==n) s.Rels then((s.Rels.getD (a1a (fun x:c9=>x.Name==n) s.Rels).toNat default).Rel,true)else(⟨0,[]⟩,false)
def c3c{s:c4}{n:List UInt8}(hi:i<s.Rels.length)(ha:(s.Rels.take i).any (fun x=>x.Name==n)=false)(h:((s.Rels.getD i default).Name==n)=true):k6 s n=((s.Rels.getD i default).Rel,true):=by
 rw[k6,w9 (p:=fun x:c9=>x.Name==n) default hi ha h,if_pos z0C];rfl
def c3b{s:c4}{n:List UInt8}(ha:s.Rels.any (fun x=>x.Name==n)=false):k6 s n=(⟨0,[]⟩,false):=by
 rw[k6,w8 ha,if_neg z00]
def c5m(s:c4)(n:List UInt8):spZ 105 [(true,[i6 s.Rels]),(false,[.s n])] [] (.tup [(true,[.i .i64 (((k6 s n).1).Arity),n9 (((k6 s n).1).Rows)]),(false,[.b ((k6 s n).2)])]):=by
 refine sx' false true none Tryz.func105 (q' 2 [aX 1 0,ax (w' 4 [.i .i64,.sl i5]),ab 5 false] (.seq (q' 7 [aG 0 2,aN,aK 0] (fO 0 11 [ar 10 9] 11 1 (q' 12 [am 10,aV 6] (q' 13 [aG 0 2,am 6,aI 3,aG 0 16,am 1,aD .eql 18 19] (ci 20 (q' 21 [aG 0 2,am 6,aI 3,aF 1,aE 2,aS 2 4 26,ab 5 true] .ret)))) (g' 27 [aA 10]))) (q' 28 [ao (.bld [.i .i64,.sl i5] []),aS 2 4 28,ab 5 false] .ret))) [.c 4 true 2,.t 5] [] ?_;intro hb hE;simp only[go_sem];repeat' first|apply cj'|intro hc|exact om'|fail
 refine lq' false [1,2,4,9] [4] [] (fun i:{i:Nat // i<=s.Rels.length/\(s.Rels.take i).any (fun x=>x.Name==n)=false}=>[(10,slV (.i .i64 i.1))]) (fun i=>[(8,[.c (.i .i64 0),.nl i5])]) nl' (fun i=>s.Rels.length-i.1) (⟨0,z0D⟩) ?_;intro S0 hS0 i;obtain⟨i,hi,ha⟩:=i;simp only[go_sem,hS0];repeat' first|apply cj'|intro hc|exact om'|fail
 ·rw[c3c z0C ha hc];exact⟨⟨rfl,rfl⟩,rfl⟩
 ·exact nx0 ⟨i+1,z0C,t7 (p:=fun x:c9=>x.Name==n) default z0C ha hc⟩
 ·rw[i4 z0C]at ha;rw[c3b ha];exact⟨⟨rfl,rfl⟩,rfl⟩
noncomputable def a1q:CT:=j8 (fun(x:c4×(List UInt8))=>c5m x.1 x.2)
@[go_sem] def d7R:=fun x0 n=>nm' (fQ' a1q rfl (⟨x0⟩,n))
def c7R(s:c4)(n:List UInt8):spZ 166 [(true,[i6 s.Rels]),(false,[.s n])] [] (.tup [(true,[.i .i64 (((k6 s n).1).Arity),n9 (((k6 s n).1).Rows)]),(false,[.b ((k6 s n).2)])]):=by
 refine sx' false true none Tryz.func166 (q' 2 [aX 1 0,ax (w' 4 [.i .i64,.sl i5]),ab 5 false] (.seq (q' 8 [aG 0 2,aN,aK 0] (fO 0 12 [ar 11 10] 12 1 (q' 13 [ai 3 9 11,aE 3,ax (w' 7 [.s,.i .i64,.sl i5]),aS 3 7 14] (q' 15 [aG 0 7,am 1,aD .eql 16 17] (ci 18 (q' 19 [af 1 7,aE 2,aS 2 4 20,ab 5 true] .ret)))) (g' 21 [aA 11]))) (q' 22 [ao (.bld [.i .i64,.sl i5] []),aS 2 4 22,ab 5 false] .ret))) [.c 4 true 2,.t 5] [] ?_;intro hb hE;simp only[go_sem];repeat' first|apply cj'|intro hc|exact om'|fail
 refine lq' false [1,4,9,10] [] [] (fun i:{i:Nat // i<=s.Rels.length/\(s.Rels.take i).any (fun x=>x.Name==n)=false}=>[(11,slV (.i .i64 i.1))]) (fun i=>[(8,[.c (.i .i64 0),.nl i5])]) nl' (fun i=>s.Rels.length-i.1) (⟨0,z0D⟩) ?_;intro S0 hS0 i;obtain⟨i,hi,ha⟩:=i;simp only[go_sem,hS0];repeat' first|apply cj'|intro hc|exact om'|fail
 ·rw[c3c z0C ha hc];exact⟨⟨rfl,rfl⟩,rfl⟩
 ·exact nx0 ⟨i+1,z0C,t7 (p:=fun x:c9=>x.Name==n) default z0C ha hc⟩
 ·rw[i4 z0C]at ha;rw[c3b ha];exact⟨⟨rfl,rfl⟩,rfl⟩
noncomputable def a1M:CT:=j8 (fun(x:c4×(List UInt8))=>c7R x.1 x.2)
@[go_sem] def d9o:=fun x0 n=>nm' (fQ' a1M rfl (⟨x0⟩,n))
def vNe(a b:List d4)(i:Nat):Bool:=!vEq (a.getD i default) (b.getD i default)
def a2S(a b:List d4):Bool:=decide (a.length=b.length)&&!a1t a.length (vNe a b)
def e1T{a b:d4}(h:vEq a b=true):a=b:=by
 obtain⟨n,s⟩:=a;obtain⟨m,r⟩:=b;simp only[vEq,W3,beq_iff_eq]at h;rw[h.1,h.2]
def vEq_rfl(a:d4):vEq a a=true:=by simp[vEq]
def b7g(a b:List d4):a2S a b=decide (a=b):=by
 rw[q3T,V8];constructor
 ·intro h;simp only[a2S,K7,q0M]at h;refine q4P h.1 fun i h1 h2=>?_
  have:=a5c h.2 h1;simp only[vNe,q0Q,j7 default h1,j7 default h2]at this;exact e1T this
 ·rintro rfl;rw[a2S,V0 rfl,q0Z,q0M];cases h:a1t a.length (vNe a a)with
  | false=>rfl
  | true=>
    simp only[a1t,q0M]at h;rw[e0c.2 fun i _=>by simp[vNe,vEq_rfl]]at h;cases h
def b4d(a:d3)(b:d3):spZ 232 [(true,[o5 a.V]),(true,[o5 b.V])] [] (.one (false,[.b (decide (a.V=b.V))])):=by
 refine sy' Tryz.func232 (q' 2 [aX 1 0,aX 1 1,aU false] (.seq (q' 6 [aG 0 2,aN,aG 0 3,aN,aD .neq 8 11] (ci 12 (q' 4 [aU false] .ret))) (.seq (q' 13 [aG 0 2,aN,aK 0] (fO 0 17 [ar 16 15] 17 1 (q' 18 [am 16,aV 5] (.seq (G' 19 [aG 0 2,am 5,aI 2,aE 2,aG 0 3,am 5,aI 2,aE 2,ao (.eqs true [.i .i64,.s] (.t 23) (.t 28))]) (ci 29 (q' 4 [aU false] .ret)))) (g' 30 [aA 16]))) (q' 4 [aU true] .ret)))) [.t 4] [] ?_;intro hb hE;rw[<-b7g];simp only[go_sem];repeat' first|apply cj'|intro hc|exact om'|fail
 ·rw[a2S,V3 (fun h=>by simp[h]at hc)];rfl
 have hl:a.V.length=b.V.length:=by simpa[q3G]using hc
 clear hc;refine lq' false [2,3,15] [4,6] [] (fun i:{i:Nat // i<=a.V.length/\a1t i (vNe a.V b.V)=false}=>[(16,slV (.i .i64 i.1))]) nl' nl' (fun i=>a.V.length-i.1) (⟨0,z1A⟩) ?_;intro S0 hS0 i;obtain⟨i,hi,ha⟩:=i;simp only[go_sem,hS0];repeat' first|apply cj'|intro hc|exact om'|fail
 ·rw[a2S,a1p (i:=i) z0C (show vNe a.V b.V i=true by rw[vNe,vEq,hc];rfl)];simp
 ·exact nx0 ⟨i+1,z0C,a0c ha (show vNe a.V b.V i=false by rw[vNe,vEq,hc.1,hc.2];rfl)⟩
 ·obtain rfl:i=a.V.length:=by omega
  rw[a2S,ha,V0 hl];rfl
noncomputable def a5r:CT:=j8 (fun(x:d3×d3)=>b4d x.1 x.2)
@[go_sem] def c9K:=fun x0 x1=>nm' (fQ' a5r rfl (⟨x0⟩,⟨x1⟩))
def e1q(a:List d4)(b:List d4):spZ 211 [(false,[o5 a]),(false,[o5 b])] [] (.one (false,[.b (decide (a=b))])):=by
 refine sy' Tryz.func211 (q' 4 [aU false] (.seq (q' 6 [am 0,aN,am 1,aN,aD .neq 7 9] (ci 10 (q' 4 [aU false] .ret))) (.seq (q' 11 [am 0,aN,aK 0] (fO 0 14 [ar 13 12] 14 1 (q' 15 [am 13,aV 5] (.seq (G' 16 [aM [0,5],aI 2,aE 2,aM [1,5],aI 2,aE 2,ao (.eqs true [.i .i64,.s] (.t 19) (.t 23))]) (ci 24 (q' 4 [aU false] .ret)))) (g' 25 [aA 13]))) (q' 4 [aU true] .ret)))) [.t 4] [] ?_;intro hb hE;rw[<-b7g];simp only[go_sem];repeat' first|apply cj'|intro hc|exact om'|fail
 ·rw[a2S,V3 (fun h=>by simp[h]at hc)];rfl
 have hl:a.length=b.length:=by simpa[q3G]using hc
 clear hc;refine lq' false [0,1,12] [] [] (fun i:{i:Nat // i<=a.length/\a1t i (vNe a b)=false}=>[(13,slV (.i .i64 i.1))]) nl' nl' (fun i=>a.length-i.1) (⟨0,z1A⟩) ?_;intro S0 hS0 i;obtain⟨i,hi,ha⟩:=i;simp only[go_sem,hS0];repeat' first|apply cj'|intro hc|exact om'|fail
 ·rw[a2S,a1p (i:=i) z0C (show vNe a b i=true by rw[vNe,vEq,hc];rfl)];simp
 ·exact nx0 ⟨i+1,z0C,a0c ha (show vNe a b i=false by rw[vNe,vEq,hc.1,hc.2];rfl)⟩
 ·obtain rfl:i=a.length:=by omega
  rw[a2S,ha,V0 hl];rfl
noncomputable def c9s:CT:=j8 (fun(x:(List d4)×(List d4))=>e1q x.1 x.2)
@[go_sem] def c_eqVals_eq:=fun a b=>nm' (fQ' c9s rfl (a,b))
def a9N(a:d3)(b:d3):spZ 151 [(true,[o5 a.V]),(true,[o5 b.V])] [] (.one (false,[.b (decide (a.V=b.V))])):=by
 refine sy' Tryz.func151 (q' 2 [aX 1 0,aX 1 1,aU false] (q' 5 [aG 0 2,aG 0 3,ac 211 [6,8],aV 4] .ret)) [.t 4] [(211,[],c9s)] ?_;intro hb hE;simp only[go_sem];repeat' first|apply cj'|intro hc|exact om'|fail
noncomputable def c0Y:CT:=j8 (fun(x:d3×d3)=>a9N x.1 x.2)
@[go_sem] def d4Y:=fun x0 x1=>nm' (fQ' c0Y rfl (⟨x0⟩,⟨x1⟩))
def a0K(l:List d3)(r:d3):Bool:=l.any fun x=>decide (x.V=r.V)
def c5j(l:List d3)(r:d3):spZ 176 [(false,[n9 l]),(true,[o5 r.V])] [] (.one (false,[.b (a0K l r)])):=by
 refine sy' Tryz.func176 (q' 3 [aX 1 1,aU false] (.seq (q' 6 [am 0,aN,aK 0] (fO 0 9 [ar 8 7] 9 1 (q' 10 [am 8,aV 5] (.seq (G' 11 [aM [0,5],aI 1,aE 1,ae 1 3,ac 232 [14,15]]) (ci 16 (q' 4 [aU true] .ret)))) (g' 17 [aA 8]))) (q' 4 [aU false] .ret))) [.t 4] [(232,[],a5r)] ?_;intro hb hE;simp only[go_sem];repeat' first|apply cj'|intro hc|exact om'|fail
 refine lq' false [0,3,7] [6] [] (fun i:{i:Nat // i<=l.length/\(l.take i).any (fun x=>decide (x.V=r.V))=false}=>[(8,slV (.i .i64 i.1))]) nl' nl' (fun i=>l.length-i.1) (⟨0,z0D⟩) ?_;intro S0 hS0 i;obtain⟨i,hi,ha⟩:=i;simp only[go_sem,hS0];repeat' first|apply cj'|intro hc|exact om'|fail
 ·rw[a0K,any_true (p:=fun x:d3=>decide (x.V=r.V)) (d:=default) (i:=i) z0C (V0 hc)]
 ·exact nx0 ⟨i+1,z0C,t7 (p:=fun x:d3=>decide (x.V=r.V)) default z0C ha (V3 hc)⟩
 ·rw[i4 z0C]at ha;rw[a0K,ha]
noncomputable def a3q:CT:=j8 (fun(x:(List d3)×d3)=>c5j x.1 x.2)
@[go_sem] def d7O:=fun l x0=>nm' (fQ' a3q rfl (l,⟨x0⟩))
def c8i(s:c4)(n:List UInt8)(r:d3):spZ 343 [(true,[i6 s.Rels]),(false,[.s n]),(true,[o5 r.V])] [] (.one (false,[.b (a0K (k6 s n).1.Rows r)])):=by
 refine sy' Tryz.func343 (q' 5 [ax (o' 3 (.box 1 (.t 0))),aX 1 2,aU false] (q' 10 [ae 1 3,am 1,ac 105 [10,11],aV 9,aZ 9 0,aZ 9 1,ax (w' 7 [.i .i64,.sl i5]),aS 2 7 13,aV 8] (q' 15 [aG 1 7,ae 1 5,ac 176 [16,17],aV 6] .ret))) [.t 6] [(105,[],a1q),(176,[],a3q)] ?_;intro hb hE;simp only[go_sem];repeat' first|apply cj'|intro hc|exact om'|fail
noncomputable def b3x:CT:=j8 (fun(x:c4×(List UInt8)×d3)=>c8i x.1 x.2.1 x.2.2)
@[go_sem] def d9G:=fun x0 n x1=>nm' (fQ' b3x rfl (⟨x0⟩,n,⟨x1⟩))
abbrev bsP(l:List d3)(t:d3)(k:Nat):Bool:=decide (0<=a1V (l.getD k default).V t.V)
abbrev bsN(l:List d3)(t:d3):Nat:=a2K l.length (bsP l t)
def mid_eq{i j:Nat}(h:i+j<=4000000):IntKind.i64.wrap ((IntKind.u64.wrap (IntKind.i64.wrap ((i:Int)+j))).fdiv (2^min 1 64))=(((i+j)/2:Nat):Int):=by
 have e1:IntKind.i64.wrap ((i:Int)+j)=(i:Int)+j:=IntWalk.i64_in _ z0C;have e2:IntKind.u64.wrap ((i:Int)+j)=(i:Int)+j:=IntWalk.u64_in _ z0C;have e3:(2:Int)^min 1 64=2:=by decide
 rw[e1,e2,e3,Int.fdiv_eq_ediv_of_nonneg _ z00];have e4:IntKind.i64.wrap (((i:Int)+j)/2)=((i:Int)+j)/2:=IntWalk.i64_in _ z0C;rw[e4];omega
def bs_end{l:List d3}{t:d3}(hi:i<=l.length)(ha:∀k,k<i->bsP l t k=false)(hz:∀k,i<=k->k<l.length->bsP l t k=true):bsN l t=i:=by
 by_cases h:i<l.length
 ·exact a2q ha (hz i (q0C _) h) h
 ·have:i=l.length:=by omega
  subst this;exact a2p ha
def k_bsRow(l:List d3)(t:d3)(hpre:l.length<=1000000/\∀a b,a<=b->b<l.length->a1V (l.getD b default).V t.V<0->a1V (l.getD a default).V t.V<0):spZ 267 [(false,[n9 l]),(true,[o5 t.V]),(false,[.f 214 []])] [] (.tup [(false,[.i .i64 (((bsN l t:Nat),decide (bsN l t<l.length)&&a1V (l.getD (bsN l t) default).V t.V==0).1)]),(false,[.b (((bsN l t:Nat),decide (bsN l t<l.length)&&a1V (l.getD (bsN l t) default).V t.V==0).2)])]):=by
 refine sy' Tryz.func267 (q' 4 [aX 1 1,az 6 0,ab 7 false] (q' 12 [am 0,aN,aV 8] (q' 9 [aV 14,aK 0,am 14] (.seq (lO 0 (.seq (q' 15 [aM [9,10],ar 15 16] (cd 17 .skip (.exit 0))) (.block 1 (q' 18 [aM [9,10],aD .add 18 19,ao (.cv .u64 (.t 20)),ao (.bin .shr (.t 21) (.k (.v false [.c (.i .u64 1)]))),ao (.cv .i64 (.t 22)),aV 11] (.seq (G' 24 [aM [2,0,11],aI 1,aE 1,ae 1 4,ao (.callv (.t 24) [.t 28,.t 29]),aC .lss 30 0]) (cd 31 (g' 32 [am 11,aC .add 32 1,aV 9]) (g' 34 [am 11,aV 10]))))))) (.seq (G' 35 [aM [9,9,8],ar 36 37,am 38,aH 39 true [bm 2,bm 0,bm 9,bI 1,bE 1,be 1 4,bo (.callv (.t 40) [.t 44,.t 45]),bC .eql 46 0],aP 39 47,av 6 35,aV 7]) .ret))))) [.t 6,.t 7] [(214,[],a7l)] ?_;intro hb hE;obtain⟨hlen,hmo⟩:=hpre;simp only[go_sem];repeat' first|apply cj'|intro hc|exact om'|fail
 refine lq' false [0,2,4,8] [8] [] (fun i:{p:Nat×Nat // p.1<=p.2/\p.2<=l.length/\(∀k,k<p.1->bsP l t k=false)/\(∀k,p.2<=k->k<l.length->bsP l t k=true)}=>[(9,slV (.i .i64 i.1.1)),(10,slV (.i .i64 i.1.2))]) nl' nl' (fun i=>i.1.2-i.1.1) (⟨(0,l.length),z0D,z0D,by intro k h;simp at h,by intro k h1 h2;simp at h1;omega⟩) ?_;intro S0 hS0 i;obtain⟨⟨i,j⟩,hij,hj,ha,hz⟩:=i;simp only at hij hj ha hz;have hm:=mid_eq (i:=i) (j:=j) z0C;simp only[go_sem,hS0,hm];repeat' first|apply cj'|intro hc|exact om'|fail
 ·have h1:∀k,k<(i+j)/2+1->bsP l t k=false:=by
   intro k hk;have:=hmo k ((i+j)/2) z0C z0C hc;exact V3 (by omega)
  (refine lpK_n2 (⟨((i+j)/2+1,j),z0F,hj,h1,hz⟩) _ rfl ?_;simp only[go_sem,hS0,hm]<;>repeat' first|apply W6|exact on'|fail)
 ·have h1:∀k,(i+j)/2<=k->k<l.length->bsP l t k=true:=by
   intro k hk hl;refine V0 ?_;have:¬a1V (l.getD k default).V t.V<0:=fun h=>hc (hmo _ k hk hl h)
   omega
  (refine lpK_n2 (⟨(i,(i+j)/2),z0F,z0F,ha,h1⟩) _ rfl ?_;simp only[go_sem,hS0,hm]<;>repeat' first|apply W6|exact on'|fail)
 ·have hz':∀k,i<=k->k<l.length->bsP l t k=true:=fun k h1 h2=>hz k z0C h2
  rw[bs_end z0C ha hz'];refine⟨rfl, ?_⟩
  congr 1
  exact decide_eq_decide.2 z0C
noncomputable def d4y:CT:=k8 (fun(x:(List d3)×d3) h=>k_bsRow x.1 x.2 h)
@[go_sem] def c_bsRow_eq:=fun l x0=>nm' (fP' d4y rfl (l,⟨x0⟩))
def d0D(r:d8)(t:d3)(hpre:r.Rows.length<=1000000/\∀a b,a<=b->b<r.Rows.length->a1V (r.Rows.getD b default).V t.V<0->a1V (r.Rows.getD a default).V t.V<0):spZ 212 [(true,[.i .i64 r.Arity,n9 r.Rows]),(true,[o5 t.V])] [] (.tup [(false,[.i .i64 (((bsN r.Rows t:Nat),decide (bsN r.Rows t<r.Rows.length)&&a1V (r.Rows.getD (bsN r.Rows t) default).V t.V==0).1)]),(false,[.b (((bsN r.Rows t:Nat),decide (bsN r.Rows t<r.Rows.length)&&a1V (r.Rows.getD (bsN r.Rows t) default).V t.V==0).2)])]):=by
 refine sy' Tryz.func212 (q' 2 [aX 2 0,aX 1 1,aK 0,aU false] (q' 6 [aG 1 2,ae 1 3,ao (.call 267 [.t 7,.t 8,.k (.v false [.c (.f 214 [])])]),aZ 9 0,aZ 9 1,av 4 10,aV 5] .ret)) [.t 4,.t 5] [(267,[],d4y)] ?_;intro hb hE;obtain⟨hlen,hmo⟩:=hpre;simp only[go_sem];repeat' first|apply cj'|intro hc|exact om'|fail
 all_goals exact⟨hlen,hmo⟩
noncomputable def b6W:CT:=k8 (fun(x:d8×d3) h=>d0D x.1 x.2 h)
@[go_sem] def e0A:=fun x0 x1 x2=>nm' (fP' b6W rfl (⟨x0,x1⟩,⟨x2⟩))
def c9n{x y:List UInt8}(h:Op.bytesLess x y=true):(y==[])=false:=by
 cases y with
 | nil=>cases x<;>simp[Op.bytesLess]at h
 | cons a y=>rfl
def e1U{a b c:d4}(h1:y7 a b=true)(h2:y7 b c=true):y7 a c=true:=by
 unfold y7 at*;cases ha:(a.S==[])<;>cases hb:(b.S==[])<;>cases hc:(c.S==[])<;>simp only[ha,hb,hc,q1Y,q2J,Bool.false_and,q1L,z0B,V8]at h1 h2 ⊢;all_goals first
  | (rw[c9n h1]at hb;exact absurd hb z00)
  | (rw[c9n h2]at hc;exact absurd hc z00)
  | omega
  | exact a2d _ _ _ h1 h2
  | (rw[beq_iff_eq]at ha;rw[ha];cases hcs:c.S with
      | nil=>rw[hcs]at hc;cases hc
      | cons x y=>rfl)
def d4s{a b:d4}(ha:n0 a=true)(hb:n0 b=true)(h1:y7 a b=false)(h2:y7 b a=false):a=b:=by
 have:=b6H ha hb;rw[h1,h2,q3Q]at this;exact e1T (by simpa using this)
abbrev okL(a:List d4):Prop:=∀x∈a,n0 x=true
def okL.tl{x:d4}(h:okL (x::a)):okL a:=fun y hy=>h y z0V
def c8p:∀{a b c:List d4},okL a->okL b->okL c->a1s a b=-1->a1s b c=-1->a1s a c=-1
 | [],[],_,_,_,_,h,_=>by simp[a1s]at h
 | [],y::b,[],_,_,_,_,h=>by simp[a1s]at h
 | [],y::b,z::c,_,_,_,_,_=>rfl
 | x::a,[],_,_,_,_,h,_=>by simp[a1s]at h
 | x::a,y::b,[],_,_,_,_,h=>by simp[a1s]at h
 | x::a,y::b,z::c,ha,hb,hc,h1,h2=>by
   have hx:=ha x z0D;have hy:=hb y z0D;have hz:=hc z z0D;rw[a1s]at h1 h2 ⊢;cases e1:y7 x y with
   | true=>
     cases e2:y7 y z with
     | true=>rw[e1U e1 e2];rfl
     | false=>
       rw[e2,V2]at h2;cases e3:y7 z y with
       | true=>rw[e3,W8]at h2;omega
       | false=>rw[<-d4s hy hz e2 e3,e1];rfl
   | false=>
     rw[e1,V2]at h1;cases e3:y7 y x with
     | true=>rw[e3,W8]at h1;omega
     | false=>
       rw[e3,V2]at h1;have:=d4s hx hy e1 e3;subst this;cases e2:y7 x z with
       | true=>rfl
       | false=>
         rw[e2,V2]at h2;cases e4:y7 z x with
         | true=>rw[e4,W8]at h2;omega
         | false=>
           rw[e4,V2]at h2;exact c8p ha.tl hb.tl hc.tl h1 h2
def c6k:∀{a b:List d4},okL a->okL b->(a1s a b=0↔a=b)
 | [],[],_,_=>by simp[a1s]
 | [],y::b,_,_=>by simp[a1s]
 | x::a,[],_,_=>by simp[a1s]
 | x::a,y::b,ha,hb=>by
   have ih:=c6k ha.tl hb.tl;rw[a1s];cases e1:y7 x y with
   | true=>
     simp only[W8,V4];refine⟨fun h=>z0C,fun h=>?_⟩;have h3:=b6H (ha x z0D) (hb y z0D);rw[<-h.1]at e1 h3;rw[e1]at h3;simp at h3
   | false=>
     cases e2:y7 y x with
     | true=>
       simp only[z0B,V4];refine⟨fun h=>z0C,fun h=>?_⟩;rw[h.1]at e1 e2;rw[e1]at e2;cases e2
     | false=>
       have:=d4s (ha x z0D) (hb y z0D) e1 e2;subst this;simpa using ih
def c8q{r:d8}(h:n8 r=true):∀{b a:Nat},a<b->b<r.Rows.length->a1s (r.Rows.getD a default).V (r.Rows.getD b default).V=-1:=by
 have hN:∀i,i<r.Rows.length->a0P r i=false:=by
  intro i hi;simp only[n8,W3,q0M]at h;exact a5c h.2 hi
 have hO:∀i,i<r.Rows.length->okL (r.Rows.getD i default).V:=fun i hi=>a0j (a3j (hN i hi))
 intro b
 induction b with
 | zero=>intro a h;omega
 | succ b ih=>
   intro a hab hb;have hs:a1s (r.Rows.getD b default).V (r.Rows.getD (b+1) default).V=-1:=by
    have:=hN (b+1) hb;simp only[a0P,q0U,Nat.zero_lt_succ,decide_true,q0Z,q0Q,beq_iff_eq,Nat.add_sub_cancel]at this;exact this.2
   rcases q3P.1 hab with h1|rfl
   ·exact c8p (hO a z0C) (hO b z0C) (hO _ hb) (ih h1 z0C) hs
   ·exact hs
def a2j{r:d8}(h:n8 r=true)(hi:i<r.Rows.length):okL (r.Rows.getD i default).V:=by
 simp only[n8,W3,q0M]at h;exact a0j (a3j (a5c h.2 hi))
def b2U(ha:okL a)(hb:okL b):a1V a b<0↔a1s a b=-1:=by
 have h:=b4s ha hb;unfold sgn at h;omega
def c6T(ha:okL a)(hb:okL b):a1V a b=0↔a=b:=by
 have h:=b4s ha hb;rw[<-c6k ha hb];unfold sgn at h;omega
def e1L{r:d8}(h:n8 r=true){t:d3}(ht:a0Z t=true):∀a b,a<=b->b<r.Rows.length->a1V (r.Rows.getD b default).V t.V<0->a1V (r.Rows.getD a default).V t.V<0:=by
 intro a b hab hb hl;rcases Nat.lt_or_eq_of_le hab with h1|rfl
 ·rw[b2U (a2j h hb) (a0j ht)]at hl;rw[b2U (a2j h z0C) (a0j ht)];exact c8p (a2j h z0C) (a2j h hb) (a0j ht) (c8q h h1 hb) hl
 ·exact hl
def rel_has{r:d8}(h:n8 r=true){t:d3}(ht:a0Z t=true):(decide (bsN r.Rows t<r.Rows.length)&&a1V (r.Rows.getD (bsN r.Rows t) default).V t.V==0)=a0K r.Rows t:=by
 rw[q3T];constructor
 ·intro hh;simp only[K7,beq_iff_eq]at hh;exact any_true (p:=fun x:d3=>decide (x.V=t.V)) (d:=default) hh.1 (V0 ((c6T (a2j h hh.1) (a0j ht)).1 hh.2))
 ·intro hh;rw[a0K,q3F]at hh;obtain⟨x,hx,he⟩:=hh;obtain⟨k,hk,rfl⟩:=q1H hx;rw[V8]at he;have hg:=j7 (l:=r.Rows) default hk;have e:bsN r.Rows t=k:=by
   refine a2q (fun j hj=>?_) ?_ hk
   ·refine V3 ?_;have:=(b2U (a2j h (show j<r.Rows.length by omega)) (a0j ht)).2 (by
     have:=c8q h hj hk;rw[hg,he]at this;exact this)
    omega
   ·refine V0 ?_;rw[hg,(c6T (by rw[<-hg];exact a2j h hk) (a0j ht)).2 he];omega
  rw[e,V0 hk,hg,(c6T (by rw[<-hg];exact a2j h hk) (a0j ht)).2 he];rfl
def d4g(r:d8)(t:d3)(hpre:n8 r=true/\a0Z t=true):spZ 155 [(true,[.i .i64 r.Arity,n9 r.Rows]),(true,[o5 t.V])] [] (.one (false,[.b (a0K r.Rows t)])):=by
 refine sy' Tryz.func155 (q' 2 [aX 2 0,aX 1 1,aU false] (q' 8 [ae 2 2,ae 1 3,ac 212 [8,9],aV 7,aZ 7 0,aZ 7 1,av 5 11,aV 6] (q' 13 [am 6,aV 4] .ret))) [.t 4] [(212,[],b6W)] ?_;intro hb hE;obtain⟨hR,hT⟩:=hpre;simp only[go_sem];repeat' first|apply cj'|intro hc|exact om'|fail
 ·exact⟨by have:=a1g hR;omega,e1L hR hT⟩
 ·exact rel_has hR hT
noncomputable def a7m:CT:=k8 (fun(x:d8×d3) h=>d4g x.1 x.2 h)
@[go_sem] def e2f:=fun x0 x1 x2=>nm' (fP' a7m rfl (⟨x0,x1⟩,⟨x2⟩))
end Go.Aw
namespace Go.Aw
open Go.Proofs Go.Lib
set_option linter.all false
set_option maxRecDepth 100000
set_option maxHeartbeats 4000000
abbrev a7G:Value:=.agg #[.string ⟨#[]⟩,.int .i64 0,.slice none 0 0]
def c7x(w:World)(a:Option Addr)(n c:Nat)(ax:Addr)(cx:Nat)(v':Value)(w':World)(hr:(Builtin.append_ #[45,45] 45 #[.slice a n c,.slice (some ax) 1 cx]).run Tryz.prog w=.ok v' w'):
  Calls Tryz.prog 226 #[.slice a n c,.int .i64 n,.slice (some ax) 1 cx] w fun x w''=>x=.returned v'/\w''=w':=by
 have hz1:¬(((1:Nat):Int)=0):=by omega
 have u0:=run_underlying Tryz.underlying45
 go_enter Tryz.func226,Tryz.ntmps226
 go_wp2_with (at_builtin;refine a4P _ rfl _ _ 45 45 rfl _ _ rfl rfl hr ?_)
 all_goals(try go_ret)
 all_goals(first|exact⟨rfl,rfl⟩)
def b1l:(Tryz.prog.info? 170).map (fun i=>(i.zero,i.size,i.bytes))=some (some a7G,3,48):=z0K
def c1A(b o n c i vb vo vc:Nat)(cs vs:List Value)(w:World)(hi:i<n)(hroom:n+1<=c)(hcm:c<=maxLen)(hvb:vb≠b)(hcl:cs.length=n*3)(hvl:vs.length=3)(hcs:CellsAt w b o cs)(hvs:CellsAt w vb vo vs)(hob:OwnBlk w b (o+c*3))(hov:OwnBlk w vb (vo+3))(h1c:∀v∈cs,v.oneCell'=true)(h1v:∀v∈vs,v.oneCell'=true):
  Calls Tryz.prog 226 #[.slice (some ⟨b,o,none⟩) n c,.int .i64 i,.slice (some ⟨vb,vo,none⟩) 1 vc] w fun x w'=>x=.returned (.slice (some ⟨b,o,none⟩) (n+1) c)/\∃u,Drew w u/\w'=(u.setCells b (o+(i+1)*3) (cs.drop (i*3))).setCells b (o+i*3) vs:=by
 have u0:=run_underlying Tryz.underlying45;have hz1:¬(((1:Nat):Int)=0):=by omega
 have hz2:¬((i:Int)=(n:Int)):=by omega
 have mixed:Tryz.prog.follows Departure.mixedOrders=true:=by kernel_rfl
 simp only[maxLen]at hcm;have hsz:(Tryz.prog.info? 170).map (·.size)=some 3:=by kernel_rfl
 obtain⟨cb,eb,hb,hbs⟩:=hob;obtain⟨cv,ev,hv,hvs2⟩:=hov;have hcell:∀(W:World) (cc:Array Value),W.heap[b]? = some (.cells cc eb (0,0))->o+c*3<=cc.size->∀j,j<c*3->(W.cell? ⟨b,o+j,none⟩).isSome=true:=fun W cc h h2 j hj=>by
  simp only[World.cell?,h];rw[q1D z0C];rfl
 have hfz:∀(W:World) (cc:Array Value),W.heap[b]? = some (.cells cc eb (0,0))->∀x,W.frozen? ⟨b,x,none⟩=false:=fun W cc h x=>by simp[World.frozen?,h]
 have hov:∀lb cb',(callFunc 275 #[.slice (some ⟨vb,vo,none⟩) 1 vc,.slice (some ⟨b,o+(i+1)*3,none⟩) lb cb']).run Tryz.prog w=.ok (.value (.bool false)) w:=fun lb cb'=>by
  rw[run_callFunc_extern Tryz.func275 z0K z0K z0K (e:=Extern.SlicesOverlaps.overlaps #[45,45] #[4]) z0K,
   Lib.run_overlaps_apart w 45 4 170 Tryz.underlying45 3 (fun w=>rfl) ⟨vb,vo,none⟩ ⟨b,o+(i+1)*3,none⟩ 1 vc lb cb' hvb ev eb cv.size cb.size (by simp[World.shape?,hv]) (by simp[World.shape?,hb]) z0C z1S z1S]
  rfl
 have hdl:(cs.drop (i*3)).length=(n-i)*3:=by rw[q1T,hcl,q5S]
 have hw1:IntKind.i64.wrap ((i:Int)+1)=(i:Int)+1:=by rw[IntKind.wrap_i64];omega
 have hb1:(0:Int)<=(i:Int)+1:=by omega
 have hin:i<=n:=by omega
 have htn:((i:Int)+1).toNat=i+1:=by omega
 have hb2:¬(c=i+1):=by omega
 have hb3:(i:Int)<=(n:Int)+1:=by omega
 have hb4:¬(c=i):=by omega
 have hcp1:∀ty dc sc,(Builtin.copy_ #[45,45] ty #[.slice (some ⟨b,o+(i+1)*3,none⟩) (n-i) dc,.slice (some ⟨b,o+i*3,none⟩) (n+1-i) sc]).run Tryz.prog w.drew=.ok (goInt (Nat.min (n+1-i) (n-i))) (w.drew.setCells b (o+(i+1)*3) (cs.drop (i*3))):=fun ty dc sc=>
  a1F w.drew _ _ ty 170 3 b (o+(i+1)*3) _ dc ⟨b,o+i*3,none⟩ _ sc (cs.drop (i*3)) Tryz.underlying45 hsz (by rw[hdl];congr 1;simp only[q5I];split<;>omega)
   (fun j v hj=>by
     rw[q4I]at hj;obtain⟨hj',rfl⟩:=q0R.1 hj;rw[A0l,q3N];exact hcs (i*3+j) hj')
   (fun j hj=>z1N) (fun j hj=>hfz w.drew cb hb _) (fun v hv=>h1c v (q2Z hv))
 obtain⟨W1,hW1⟩:∃W1,W1=w.drew.setCells b (o+(i+1)*3) (cs.drop (i*3)):=⟨_,rfl⟩
 have q1:=A0k b (cs.drop (i*3)) (o+(i+1)*3) w.drew cb hb z0C;rw[<-hW1]at q1;have q2:W1.heap[vb]? = w.heap[vb]?:=by rw[hW1];exact(Z7 b _ _ w.drew).1 vb hvb
 have hcp2:∀(W:World),W.heap=W1.heap->∀ty dc,(Builtin.copy_ #[45,45] ty #[.slice (some ⟨b,o+i*3,none⟩) (n+1-i) dc,.slice (some ⟨vb,vo,none⟩) 1 vc]).run Tryz.prog W=.ok (goInt (Nat.min 1 (n+1-i))) (W.setCells b (o+i*3) vs):=fun W hW ty dc=>
  a1F W _ _ ty 170 3 b (o+i*3) _ dc ⟨vb,vo,none⟩ 1 vc vs Tryz.underlying45 hsz (by rw[hvl];simp only[q5I];split<;>omega)
   (fun j v hj=>by
     obtain⟨hj',rfl⟩:=q0R.1 hj;rw[A0l,World.cell?_of_block (w:=w) (by rw[hW,q2])];exact hvs j hj')
   (fun j hj=>z02) (fun j hj=>hfz W _ z1B _) h1v
 rw[<-hW1]at hcp1
 go_enter Tryz.func226,Tryz.ntmps226
 go_wp2_with (simp only[hov])
 go_region_law_o (refine a7x rfl _ _ 45 45 rfl _ _ z0Y z0Y (hcp1 _ _ _) ?_)
 go_wp2_with (at_builtin;refine a6R _ rfl _ _ 45 45 rfl _ _ rfl rfl (hcp2 _ rfl _ _) ?_)
 go_ret
 exact⟨rfl,w.drew,⟨rfl,rfl,⟨rfl,q4K _⟩,rfl⟩,rfl⟩
def c4t(b o n c i vb vo vc:Nat)(cs vs:List Value)(w:World)(hi:i<n)(hnc:n<=c)(hroom:c<n+1)(hcm:n<=1000000)(hvw:vb<w.heap.size)(hbw:b<w.heap.size)(hcl:cs.length=n*3)(hvl:vs.length=3)(hcs:CellsAt w b o cs)(hvs:CellsAt w vb vo vs)(h1c:∀v∈cs,v.oneCell'=true)(h1v:∀v∈vs,v.oneCell'=true):
  Calls Tryz.prog 226 #[.slice (some ⟨b,o,none⟩) n c,.int .i64 i,.slice (some ⟨vb,vo,none⟩) 1 vc] w fun x w'=>x=.returned (.slice (some ⟨w.heap.size,0,none⟩) (n+1) (grownCap w (n+1) c 170))/\
   ∃u,Drew (w.alloc (.cells ((cs.take (i*3)).toArray++Builtin.zeroCells a7G.cells (n+1-i)++Builtin.zeroCells a7G.cells (grownCap w (n+1) c 170-(n+1))) 170)) u/\w'=(u.setCells w.heap.size (i*3) vs).setCells w.heap.size ((i+1)*3) (cs.drop (i*3)):=by
 have u0:=run_underlying Tryz.underlying45;have hz1:¬(((1:Nat):Int)=0):=by omega
 have hz2:¬((i:Int)=(n:Int)):=by omega
 have hz3:(c:Int)<(n:Int)+1:=by omega
 have mixed:Tryz.prog.follows Departure.mixedOrders=true:=by kernel_rfl
 have hsz:(Tryz.prog.info? 170).map (·.size)=some 3:=by kernel_rfl
 obtain⟨i0,hi0,hz0⟩:=W7.1 b1l;simp only[W4]at hz0;obtain⟨hz0,hzs,hzb⟩:=hz0;have hkk:(n:Int)+1-(i:Int)=((n+1-i:Nat):Int):=by omega
 have hik:i+(n+1-i)=n+1:=by omega
 have hdl:(cs.drop (i*3)).length=(n-i)*3:=by rw[q1T,hcl,q5S]
 have hold:(Builtin.firstCells i0.size i (.slice (some ⟨b,o,none⟩) i c)).run Tryz.prog w.drew=.ok (cs.take (i*3)).toArray w.drew:=by
  rw[hzs];exact run_firstCells_some w.drew 3 i ⟨b,o,none⟩ i c (cs.take (i*3)) z07 (fun j v hj=>by
   rw[A0l];rw[q4X]at hj;split at hj
   ·obtain⟨hj',rfl⟩:=q0R.1 hj;exact hcs j hj'
   ·cases hj)
 have hrz:∀ty,(Builtin.append_ #[45,3] ty #[.slice (some ⟨b,o,none⟩) i c,.int .i64 ((n:Int)+1-(i:Int))]).run Tryz.prog w =
   .ok (.slice (some ⟨w.heap.size,0,none⟩) (n+1) (grownCap w (n+1) c 170)) (w.drew.alloc (.cells ((cs.take (i*3)).toArray++Builtin.zeroCells a7G.cells (n+1-i)++Builtin.zeroCells a7G.cells (grownCap w (n+1) c 170-(n+1))) 170)):=fun ty=>by
  have h:=Lib.run_append_grow_zeros w 45 3 ty 170 i0 _ .i64 .i64 Tryz.underlying45 Tryz.underlying3 hi0 hz0 (some ⟨b,o,none⟩) i c (cs.take (i*3)) hold (n+1-i) z0C z0C z0C z0C (by rw[hzb];omega) z1O;rw[hik]at h;rw[hkk];exact h
 obtain⟨G,hG⟩:∃G,G=grownCap w (n+1) c 170:=⟨_,rfl⟩
 obtain⟨ROW,hROW⟩:∃ROW:Array Value,ROW=(cs.take (i*3)).toArray++Builtin.zeroCells a7G.cells (n+1-i)++Builtin.zeroCells a7G.cells (G-(n+1)):=⟨_,rfl⟩
 have hge:=grownCap_ge w (n+1) c 170;rw[<-hG]at hrz hge ⊢;rw[<-hROW]at hrz ⊢;have hRl:(n+1)*3<=ROW.size:=by
  rw[hROW];simp only[q3L,q0O,V1,size_zeroCells,show a7G.cells.size=3 from rfl];omega
 obtain⟨W1,hW1⟩:∃W1,W1=w.drew.alloc (.cells ROW 170):=⟨_,rfl⟩
 rw[<-hW1]at hrz;have hN:W1.heap[w.heap.size]? = some (.cells ROW 170 (0,0)):=by rw[hW1];exact heap_alloc_new w.drew _
 have hcA:∀(W:World) (R:Array Value),W.heap[w.heap.size]? = some (.cells R 170 (0,0))->(n+1)*3<=R.size->∀j,j<(n+1)*3->(W.cell? ⟨w.heap.size,j,none⟩).isSome=true:=fun W R h h2 j hj=>by
  simp only[World.cell?,h];rw[q1D z0C];rfl
 have hfz:∀(W:World) (R:Array Value),W.heap[w.heap.size]? = some (.cells R 170 (0,0))->∀x,W.frozen? ⟨w.heap.size,x,none⟩=false:=fun W R h x=>by simp[World.frozen?,h]
 have hvW:W1.heap[vb]? = w.heap[vb]?:=by rw[hW1];exact E4 (w:=w.drew) hvw
 have hbW:W1.heap[b]? = w.heap[b]?:=by rw[hW1];exact E4 (w:=w.drew) hbw
 have hcp2:∀(W:World),W.heap=W1.heap->∀ty dc,(Builtin.copy_ #[45,45] ty #[.slice (some ⟨w.heap.size,i*3,none⟩) (n+1-i) dc,.slice (some ⟨vb,vo,none⟩) 1 vc]).run Tryz.prog W=.ok (goInt (Nat.min 1 (n+1-i))) (W.setCells w.heap.size (i*3) vs):=fun W hW ty dc=>
  a1F W _ _ ty 170 3 w.heap.size (i*3) _ dc ⟨vb,vo,none⟩ 1 vc vs Tryz.underlying45 hsz (by rw[hvl];simp only[q5I];split<;>omega)
   (fun j v hj=>by
     obtain⟨hj',rfl⟩:=q0R.1 hj;rw[A0l,World.cell?_of_block (w:=w) (by rw[hW,hvW])];exact hvs j hj')
   (fun j hj=>hcA W ROW z2A hRl _ z0C) (fun j hj=>hfz W ROW z2A _) h1v
 have q1:=A0k w.heap.size vs (i*3) W1 ROW hN z0C;have q2:(W1.setCells w.heap.size (i*3) vs).heap[b]? = w.heap[b]?:=by rw[(Z7 w.heap.size vs (i*3) W1).1 b z0C,hbW]
 have hcp3:∀(W:World),W.heap=(W1.setCells w.heap.size (i*3) vs).heap->∀ty dc sc,(Builtin.copy_ #[45,45] ty #[.slice (some ⟨w.heap.size,(i+1)*3,none⟩) (n-i) dc,.slice (some ⟨b,o+i*3,none⟩) (n-i) sc]).run Tryz.prog W=.ok (goInt (Nat.min (n-i) (n-i))) (W.setCells w.heap.size ((i+1)*3) (cs.drop (i*3))):=fun W hW ty dc sc=>
  a1F W _ _ ty 170 3 w.heap.size ((i+1)*3) _ dc ⟨b,o+i*3,none⟩ _ sc (cs.drop (i*3)) Tryz.underlying45 hsz (by rw[hdl];congr 1;simp only[q5I];split<;>omega)
   (fun j v hj=>by
     rw[q4I]at hj;obtain⟨hj',rfl⟩:=q0R.1 hj;rw[A0l,q3N,World.cell?_of_block (w:=w) (by rw[hW,q2])];exact hcs (i*3+j) hj')
   (fun j hj=>hcA W _ z1B z1G _ z0C) (fun j hj=>hfz W _ z1B _) (fun v hv=>h1c v (q2Z hv))
 have hw1:IntKind.i64.wrap ((i:Int)+1)=(i:Int)+1:=by rw[IntKind.wrap_i64];omega
 have hb1:(0:Int)<=(i:Int)+1:=by omega
 have hin:i<=n:=by omega
 have htn:((i:Int)+1).toNat=i+1:=by omega
 have hb3:(i:Int)<=(n:Int):=by omega
 have hGn:n+1<=G:=hge;have hG63:G<=9223372036854775807:=by
  have:=grownCap_le_maxLen w (n+1) c 170 z11;rw[<-hG]at this;unfold maxLen at this;omega
 have hGi:¬(G=i):=by omega
 have hGim:¬(G=i+1):=by omega
 have hci:¬(c=i):=by omega
 subst hW1;have hcA2:=hcp2 ((w.alloc (.cells ROW 170)).drew) rfl;have hcB2:=hcp3 (((w.alloc (.cells ROW 170)).drew.setCells w.heap.size (i*3) vs).drew) (by
  show((w.alloc (.cells ROW 170)).drew.setCells w.heap.size (i*3) vs).heap=_;rfl)
 clear hkk hik hold hROW hG hRl q1 q2 hcA hfz hN hvW hbW
 go_enter Tryz.func226,Tryz.ntmps226
 go_wp2_with (first
  | (at_builtin;refine a4P _ rfl _ _ 45 3 rfl _ _ rfl rfl (hrz _) ?_)
  | (at_builtin;refine a6R _ rfl _ _ 45 45 rfl _ _ rfl rfl (hcA2 _ _) ?_)
  | (at_builtin;refine a6R _ rfl _ _ 45 45 rfl _ _ rfl rfl (hcB2 _ _ _) ?_))
 go_region_law_o (refine a7x rfl _ _ 45 45 rfl (.slice (some ⟨w.heap.size,(i+1)*3,none⟩) (n-i) (G-(i+1))) (.slice (some ⟨b,o+i*3,none⟩) (n-i) (c-i)) z0Y z0Y (hcB2 3 (G-(i+1)) (c-i)) ?_)
 go_wp2
 go_ret
 exact⟨rfl,(w.alloc (.cells ROW 170)).drew.drew,⟨rfl,rfl,⟨rfl,q3X _ 2⟩,rfl⟩,by rw[idrew]⟩
def c4u:InsRuns Tryz.prog 226 45 170 3 a7G:=⟨c7x,c1A,c4t⟩
def d4h(a:List c9)(k:Int)(x:c9)(hpre:0<=k/\k<=a.length/\a.length<=1000000):spZ 226 [(false,[.sl true [.s [],.i .i64 0,.sl false [.sl false [.i .i64 0,.s []] []] []] (a.map (c9.cells false false))]),(false,[.i .i64 k]),(false,[.sl true [.s [],.i .i64 0,.sl false [.sl false [.i .i64 0,.s []] []] []] [[.s x.Name,.i .i64 x.Rel.Arity,.sl false [.sl false [.i .i64 0,.s []] []] (x.Rel.Rows.map (d3.cells false false))]]])] [] (.one (false,[.sl true [.s [],.i .i64 0,.sl false [.sl false [.i .i64 0,.s []] []] []] ((c1z a k x).map (c9.cells false false))])):=by
 obtain⟨h0,h1,h2⟩:=hpre;obtain⟨n,rfl⟩:=q5T h0;rw[show(c1z a n x).map (c9.cells false false)=(a.map (c9.cells false false)).take n++(c9.cells false false) x::(a.map (c9.cells false false)).drop n by simp[c1z,List.map_take,List.map_drop]];obtain⟨i0,hi0,hz0⟩:=W7.1 b1l;simp only[W4]at hz0;obtain⟨hz0,hzs,hzb⟩:=hz0;exact c1B (d:=[.s [],.i .i64 0,.sl false [.sl false [.i .i64 0,.s []] []] []]) c4u z0K Tryz.underlying45 hi0 hz0 (by rw[hzs];rfl) hzs z0C (a.map (c9.cells false false)) ((c9.cells false false) x) n z0X (by rw[hzb,q0F];omega) (by rw[q0F];exact h2)
noncomputable def b1P:CT:=k8 (fun(x:(List c9)×Int×c9) h=>d4h x.1 x.2.1 x.2.2 h)
@[go_sem] def e2g:=fun a k x0 x1 x2=>nm' (fP' b1P rfl (a,k,⟨x0,⟨x1,x2⟩⟩))
abbrev b4z:Value:=.agg #[.string ⟨#[]⟩,.int .i64 0,.string ⟨#[]⟩]
def d0n(w:World)(a:Option Addr)(n c:Nat)(ax:Addr)(cx:Nat)(v':Value)(w':World)(hr:(Builtin.append_ #[262,262] 262 #[.slice a n c,.slice (some ax) 1 cx]).run Tryz.prog w=.ok v' w'):
  Calls Tryz.prog 375 #[.slice a n c,.int .i64 n,.slice (some ax) 1 cx] w fun x w''=>x=.returned v'/\w''=w':=by
 have hz1:¬(((1:Nat):Int)=0):=by omega
 have u0:=run_underlying Tryz.underlying262
 go_enter Tryz.func375,Tryz.ntmps375
 go_wp2_with (at_builtin;refine a4P _ rfl _ _ 262 262 rfl _ _ rfl rfl hr ?_)
 all_goals(try go_ret)
 all_goals(first|exact⟨rfl,rfl⟩)
def b3D:(Tryz.prog.info? 341).map (fun i=>(i.zero,i.size,i.bytes))=some (some b4z,3,40):=z0K
def c4s(b o n c i vb vo vc:Nat)(cs vs:List Value)(w:World)(hi:i<n)(hroom:n+1<=c)(hcm:c<=maxLen)(hvb:vb≠b)(hcl:cs.length=n*3)(hvl:vs.length=3)(hcs:CellsAt w b o cs)(hvs:CellsAt w vb vo vs)(hob:OwnBlk w b (o+c*3))(hov:OwnBlk w vb (vo+3))(h1c:∀v∈cs,v.oneCell'=true)(h1v:∀v∈vs,v.oneCell'=true):
  Calls Tryz.prog 375 #[.slice (some ⟨b,o,none⟩) n c,.int .i64 i,.slice (some ⟨vb,vo,none⟩) 1 vc] w fun x w'=>x=.returned (.slice (some ⟨b,o,none⟩) (n+1) c)/\∃u,Drew w u/\w'=(u.setCells b (o+(i+1)*3) (cs.drop (i*3))).setCells b (o+i*3) vs:=by
 have u0:=run_underlying Tryz.underlying262;have hz1:¬(((1:Nat):Int)=0):=by omega
 have hz2:¬((i:Int)=(n:Int)):=by omega
 have mixed:Tryz.prog.follows Departure.mixedOrders=true:=by kernel_rfl
 simp only[maxLen]at hcm;have hsz:(Tryz.prog.info? 341).map (·.size)=some 3:=by kernel_rfl
 obtain⟨cb,eb,hb,hbs⟩:=hob;obtain⟨cv,ev,hv,hvs2⟩:=hov;have hcell:∀(W:World) (cc:Array Value),W.heap[b]? = some (.cells cc eb (0,0))->o+c*3<=cc.size->∀j,j<c*3->(W.cell? ⟨b,o+j,none⟩).isSome=true:=fun W cc h h2 j hj=>by
  simp only[World.cell?,h];rw[q1D z0C];rfl
 have hfz:∀(W:World) (cc:Array Value),W.heap[b]? = some (.cells cc eb (0,0))->∀x,W.frozen? ⟨b,x,none⟩=false:=fun W cc h x=>by simp[World.frozen?,h]
 have hov:∀lb cb',(callFunc 409 #[.slice (some ⟨vb,vo,none⟩) 1 vc,.slice (some ⟨b,o+(i+1)*3,none⟩) lb cb']).run Tryz.prog w=.ok (.value (.bool false)) w:=fun lb cb'=>by
  rw[run_callFunc_extern Tryz.func409 z0K z0K z0K (e:=Extern.SlicesOverlaps.overlaps #[262,262] #[4]) z0K,
   Lib.run_overlaps_apart w 262 4 341 Tryz.underlying262 3 (fun w=>rfl) ⟨vb,vo,none⟩ ⟨b,o+(i+1)*3,none⟩ 1 vc lb cb' hvb ev eb cv.size cb.size (by simp[World.shape?,hv]) (by simp[World.shape?,hb]) z0C z1S z1S]
  rfl
 have hdl:(cs.drop (i*3)).length=(n-i)*3:=by rw[q1T,hcl,q5S]
 have hw1:IntKind.i64.wrap ((i:Int)+1)=(i:Int)+1:=by rw[IntKind.wrap_i64];omega
 have hb1:(0:Int)<=(i:Int)+1:=by omega
 have hin:i<=n:=by omega
 have htn:((i:Int)+1).toNat=i+1:=by omega
 have hb2:¬(c=i+1):=by omega
 have hb3:(i:Int)<=(n:Int)+1:=by omega
 have hb4:¬(c=i):=by omega
 have hcp1:∀ty dc sc,(Builtin.copy_ #[262,262] ty #[.slice (some ⟨b,o+(i+1)*3,none⟩) (n-i) dc,.slice (some ⟨b,o+i*3,none⟩) (n+1-i) sc]).run Tryz.prog w.drew=.ok (goInt (Nat.min (n+1-i) (n-i))) (w.drew.setCells b (o+(i+1)*3) (cs.drop (i*3))):=fun ty dc sc=>
  a1F w.drew _ _ ty 341 3 b (o+(i+1)*3) _ dc ⟨b,o+i*3,none⟩ _ sc (cs.drop (i*3)) Tryz.underlying262 hsz (by rw[hdl];congr 1;simp only[q5I];split<;>omega)
   (fun j v hj=>by
     rw[q4I]at hj;obtain⟨hj',rfl⟩:=q0R.1 hj;rw[A0l,q3N];exact hcs (i*3+j) hj')
   (fun j hj=>z1N) (fun j hj=>hfz w.drew cb hb _) (fun v hv=>h1c v (q2Z hv))
 obtain⟨W1,hW1⟩:∃W1,W1=w.drew.setCells b (o+(i+1)*3) (cs.drop (i*3)):=⟨_,rfl⟩
 have q1:=A0k b (cs.drop (i*3)) (o+(i+1)*3) w.drew cb hb z0C;rw[<-hW1]at q1;have q2:W1.heap[vb]? = w.heap[vb]?:=by rw[hW1];exact(Z7 b _ _ w.drew).1 vb hvb
 have hcp2:∀(W:World),W.heap=W1.heap->∀ty dc,(Builtin.copy_ #[262,262] ty #[.slice (some ⟨b,o+i*3,none⟩) (n+1-i) dc,.slice (some ⟨vb,vo,none⟩) 1 vc]).run Tryz.prog W=.ok (goInt (Nat.min 1 (n+1-i))) (W.setCells b (o+i*3) vs):=fun W hW ty dc=>
  a1F W _ _ ty 341 3 b (o+i*3) _ dc ⟨vb,vo,none⟩ 1 vc vs Tryz.underlying262 hsz (by rw[hvl];simp only[q5I];split<;>omega)
   (fun j v hj=>by
     obtain⟨hj',rfl⟩:=q0R.1 hj;rw[A0l,World.cell?_of_block (w:=w) (by rw[hW,q2])];exact hvs j hj')
   (fun j hj=>z02) (fun j hj=>hfz W _ z1B _) h1v
 rw[<-hW1]at hcp1
 go_enter Tryz.func375,Tryz.ntmps375
 go_wp2_with (simp only[hov])
 go_region_law_o (refine a7x rfl _ _ 262 262 rfl _ _ z0Y z0Y (hcp1 _ _ _) ?_)
 go_wp2_with (at_builtin;refine a6R _ rfl _ _ 262 262 rfl _ _ rfl rfl (hcp2 _ rfl _ _) ?_)
 go_ret
 exact⟨rfl,w.drew,⟨rfl,rfl,⟨rfl,q4K _⟩,rfl⟩,rfl⟩
def c7v(b o n c i vb vo vc:Nat)(cs vs:List Value)(w:World)(hi:i<n)(hnc:n<=c)(hroom:c<n+1)(hcm:n<=1000000)(hvw:vb<w.heap.size)(hbw:b<w.heap.size)(hcl:cs.length=n*3)(hvl:vs.length=3)(hcs:CellsAt w b o cs)(hvs:CellsAt w vb vo vs)(h1c:∀v∈cs,v.oneCell'=true)(h1v:∀v∈vs,v.oneCell'=true):
  Calls Tryz.prog 375 #[.slice (some ⟨b,o,none⟩) n c,.int .i64 i,.slice (some ⟨vb,vo,none⟩) 1 vc] w fun x w'=>x=.returned (.slice (some ⟨w.heap.size,0,none⟩) (n+1) (grownCap w (n+1) c 341))/\
   ∃u,Drew (w.alloc (.cells ((cs.take (i*3)).toArray++Builtin.zeroCells b4z.cells (n+1-i)++Builtin.zeroCells b4z.cells (grownCap w (n+1) c 341-(n+1))) 341)) u/\w'=(u.setCells w.heap.size (i*3) vs).setCells w.heap.size ((i+1)*3) (cs.drop (i*3)):=by
 have u0:=run_underlying Tryz.underlying262;have hz1:¬(((1:Nat):Int)=0):=by omega
 have hz2:¬((i:Int)=(n:Int)):=by omega
 have hz3:(c:Int)<(n:Int)+1:=by omega
 have mixed:Tryz.prog.follows Departure.mixedOrders=true:=by kernel_rfl
 have hsz:(Tryz.prog.info? 341).map (·.size)=some 3:=by kernel_rfl
 obtain⟨i0,hi0,hz0⟩:=W7.1 b3D;simp only[W4]at hz0;obtain⟨hz0,hzs,hzb⟩:=hz0;have hkk:(n:Int)+1-(i:Int)=((n+1-i:Nat):Int):=by omega
 have hik:i+(n+1-i)=n+1:=by omega
 have hdl:(cs.drop (i*3)).length=(n-i)*3:=by rw[q1T,hcl,q5S]
 have hold:(Builtin.firstCells i0.size i (.slice (some ⟨b,o,none⟩) i c)).run Tryz.prog w.drew=.ok (cs.take (i*3)).toArray w.drew:=by
  rw[hzs];exact run_firstCells_some w.drew 3 i ⟨b,o,none⟩ i c (cs.take (i*3)) z07 (fun j v hj=>by
   rw[A0l];rw[q4X]at hj;split at hj
   ·obtain⟨hj',rfl⟩:=q0R.1 hj;exact hcs j hj'
   ·cases hj)
 have hrz:∀ty,(Builtin.append_ #[262,3] ty #[.slice (some ⟨b,o,none⟩) i c,.int .i64 ((n:Int)+1-(i:Int))]).run Tryz.prog w =
   .ok (.slice (some ⟨w.heap.size,0,none⟩) (n+1) (grownCap w (n+1) c 341)) (w.drew.alloc (.cells ((cs.take (i*3)).toArray++Builtin.zeroCells b4z.cells (n+1-i)++Builtin.zeroCells b4z.cells (grownCap w (n+1) c 341-(n+1))) 341)):=fun ty=>by
  have h:=Lib.run_append_grow_zeros w 262 3 ty 341 i0 _ .i64 .i64 Tryz.underlying262 Tryz.underlying3 hi0 hz0 (some ⟨b,o,none⟩) i c (cs.take (i*3)) hold (n+1-i) z0C z0C z0C z0C (by rw[hzb];omega) z1O;rw[hik]at h;rw[hkk];exact h
 obtain⟨G,hG⟩:∃G,G=grownCap w (n+1) c 341:=⟨_,rfl⟩
 obtain⟨ROW,hROW⟩:∃ROW:Array Value,ROW=(cs.take (i*3)).toArray++Builtin.zeroCells b4z.cells (n+1-i)++Builtin.zeroCells b4z.cells (G-(n+1)):=⟨_,rfl⟩
 have hge:=grownCap_ge w (n+1) c 341;rw[<-hG]at hrz hge ⊢;rw[<-hROW]at hrz ⊢;have hRl:(n+1)*3<=ROW.size:=by
  rw[hROW];simp only[q3L,q0O,V1,size_zeroCells,show b4z.cells.size=3 from rfl];omega
 obtain⟨W1,hW1⟩:∃W1,W1=w.drew.alloc (.cells ROW 341):=⟨_,rfl⟩
 rw[<-hW1]at hrz;have hN:W1.heap[w.heap.size]? = some (.cells ROW 341 (0,0)):=by rw[hW1];exact heap_alloc_new w.drew _
 have hcA:∀(W:World) (R:Array Value),W.heap[w.heap.size]? = some (.cells R 341 (0,0))->(n+1)*3<=R.size->∀j,j<(n+1)*3->(W.cell? ⟨w.heap.size,j,none⟩).isSome=true:=fun W R h h2 j hj=>by
  simp only[World.cell?,h];rw[q1D z0C];rfl
 have hfz:∀(W:World) (R:Array Value),W.heap[w.heap.size]? = some (.cells R 341 (0,0))->∀x,W.frozen? ⟨w.heap.size,x,none⟩=false:=fun W R h x=>by simp[World.frozen?,h]
 have hvW:W1.heap[vb]? = w.heap[vb]?:=by rw[hW1];exact E4 (w:=w.drew) hvw
 have hbW:W1.heap[b]? = w.heap[b]?:=by rw[hW1];exact E4 (w:=w.drew) hbw
 have hcp2:∀(W:World),W.heap=W1.heap->∀ty dc,(Builtin.copy_ #[262,262] ty #[.slice (some ⟨w.heap.size,i*3,none⟩) (n+1-i) dc,.slice (some ⟨vb,vo,none⟩) 1 vc]).run Tryz.prog W=.ok (goInt (Nat.min 1 (n+1-i))) (W.setCells w.heap.size (i*3) vs):=fun W hW ty dc=>
  a1F W _ _ ty 341 3 w.heap.size (i*3) _ dc ⟨vb,vo,none⟩ 1 vc vs Tryz.underlying262 hsz (by rw[hvl];simp only[q5I];split<;>omega)
   (fun j v hj=>by
     obtain⟨hj',rfl⟩:=q0R.1 hj;rw[A0l,World.cell?_of_block (w:=w) (by rw[hW,hvW])];exact hvs j hj')
   (fun j hj=>hcA W ROW z2A hRl _ z0C) (fun j hj=>hfz W ROW z2A _) h1v
 have q1:=A0k w.heap.size vs (i*3) W1 ROW hN z0C;have q2:(W1.setCells w.heap.size (i*3) vs).heap[b]? = w.heap[b]?:=by rw[(Z7 w.heap.size vs (i*3) W1).1 b z0C,hbW]
 have hcp3:∀(W:World),W.heap=(W1.setCells w.heap.size (i*3) vs).heap->∀ty dc sc,(Builtin.copy_ #[262,262] ty #[.slice (some ⟨w.heap.size,(i+1)*3,none⟩) (n-i) dc,.slice (some ⟨b,o+i*3,none⟩) (n-i) sc]).run Tryz.prog W=.ok (goInt (Nat.min (n-i) (n-i))) (W.setCells w.heap.size ((i+1)*3) (cs.drop (i*3))):=fun W hW ty dc sc=>
  a1F W _ _ ty 341 3 w.heap.size ((i+1)*3) _ dc ⟨b,o+i*3,none⟩ _ sc (cs.drop (i*3)) Tryz.underlying262 hsz (by rw[hdl];congr 1;simp only[q5I];split<;>omega)
   (fun j v hj=>by
     rw[q4I]at hj;obtain⟨hj',rfl⟩:=q0R.1 hj;rw[A0l,q3N,World.cell?_of_block (w:=w) (by rw[hW,q2])];exact hcs (i*3+j) hj')
   (fun j hj=>hcA W _ z1B z1G _ z0C) (fun j hj=>hfz W _ z1B _) (fun v hv=>h1c v (q2Z hv))
 have hw1:IntKind.i64.wrap ((i:Int)+1)=(i:Int)+1:=by rw[IntKind.wrap_i64];omega
 have hb1:(0:Int)<=(i:Int)+1:=by omega
 have hin:i<=n:=by omega
 have htn:((i:Int)+1).toNat=i+1:=by omega
 have hb3:(i:Int)<=(n:Int):=by omega
 have hGn:n+1<=G:=hge;have hG63:G<=9223372036854775807:=by
  have:=grownCap_le_maxLen w (n+1) c 341 z11;rw[<-hG]at this;unfold maxLen at this;omega
 have hGi:¬(G=i):=by omega
 have hGim:¬(G=i+1):=by omega
 have hci:¬(c=i):=by omega
 subst hW1;have hcA2:=hcp2 ((w.alloc (.cells ROW 341)).drew) rfl;have hcB2:=hcp3 (((w.alloc (.cells ROW 341)).drew.setCells w.heap.size (i*3) vs).drew) (by
  show((w.alloc (.cells ROW 341)).drew.setCells w.heap.size (i*3) vs).heap=_;rfl)
 clear hkk hik hold hROW hG hRl q1 q2 hcA hfz hN hvW hbW
 go_enter Tryz.func375,Tryz.ntmps375
 go_wp2_with (first
  | (at_builtin;refine a4P _ rfl _ _ 262 3 rfl _ _ rfl rfl (hrz _) ?_)
  | (at_builtin;refine a6R _ rfl _ _ 262 262 rfl _ _ rfl rfl (hcA2 _ _) ?_)
  | (at_builtin;refine a6R _ rfl _ _ 262 262 rfl _ _ rfl rfl (hcB2 _ _ _) ?_))
 go_region_law_o (refine a7x rfl _ _ 262 262 rfl (.slice (some ⟨w.heap.size,(i+1)*3,none⟩) (n-i) (G-(i+1))) (.slice (some ⟨b,o+i*3,none⟩) (n-i) (c-i)) z0Y z0Y (hcB2 3 (G-(i+1)) (c-i)) ?_)
 go_wp2
 go_ret
 exact⟨rfl,(w.alloc (.cells ROW 341)).drew.drew,⟨rfl,rfl,⟨rfl,q3X _ 2⟩,rfl⟩,by rw[idrew]⟩
def c7w:InsRuns Tryz.prog 375 262 341 3 b4z:=⟨d0n,c4s,c7v⟩
def d8p(a:List c7)(k:Int)(x:c7)(hpre:0<=k/\k<=a.length/\a.length<=1000000):spZ 375 [(false,[.sl true [.s [],.i .i64 0,.s []] (a.map c7.cells)]),(false,[.i .i64 k]),(false,[.sl true [.s [],.i .i64 0,.s []] [[.s x.Var,.i .i64 x.Val.N,.s x.Val.S]]])] [] (.one (false,[.sl true [.s [],.i .i64 0,.s []] ((c1z a k x).map c7.cells)])):=by
 obtain⟨h0,h1,h2⟩:=hpre;obtain⟨n,rfl⟩:=q5T h0;rw[show(c1z a n x).map c7.cells=(a.map c7.cells).take n++c7.cells x::(a.map c7.cells).drop n by simp[c1z,List.map_take,List.map_drop]];obtain⟨i0,hi0,hz0⟩:=W7.1 b3D;simp only[W4]at hz0;obtain⟨hz0,hzs,hzb⟩:=hz0;exact c1B (d:=[.s [],.i .i64 0,.s []]) c7w z0K Tryz.underlying262 hi0 hz0 (by rw[hzs];rfl) hzs z0C (a.map c7.cells) (c7.cells x) n z0X (by rw[hzb,q0F];omega) (by rw[q0F];exact h2)
noncomputable def c5L:CT:=k8 (fun(x:(List c7)×Int×c7) h=>d8p x.1 x.2.1 x.2.2 h)
@[go_sem] def e2n:=fun a k x0 x1 x2=>nm' (fP' c5L rfl (a,k,⟨x0,⟨x1,x2⟩⟩))
end Go.Aw
