/- Environments in their order; the bodies of a rule. No condition. -/
import Derived.Test.YtamaohgddfjjoaaGreatkaT37
import Derived.Test.YtamaohgddfjjoaaGreatkBx15ka
import Derived.Test.YtamaohgddfjjoaaGreatkBx14ka
namespace Go.Aw
open Go.Proofs Go.Shelf
attribute [local irreducible] aft blk lpK retK AW A0d
set_option linter.all false
set_option maxRecDepth 100000
set_option maxHeartbeats 4000000
attribute [local irreducible] RM
def Comp(vs:List (List UInt8))(e:d6):Prop:=EnvS e.Binds/\e.Binds.map c7.Var=vs
def Comp.len{vs:List (List UInt8)}{a b:d6}(ha:Comp vs a)(hb:Comp vs b):a.Binds.length=b.Binds.length:=by
 have:=congrArg List.length (ha.2.trans hb.2.symm);simpa using this
def Comp.cmp{vs:List (List UInt8)}{a b:d6}(ha:Comp vs a)(hb:Comp vs b):a4L a.Binds b.Binds=bif a0q a b then-1 else bif a0q b a then 1 else 0:=
 c1j (fun x hx=>(ha.1.1 x hx).2) (fun x hx=>(hb.1.1 x hx).2) (ha.2.trans hb.2.symm)
def Comp.eq0{vs:List (List UInt8)}{a b:d6}(ha:Comp vs a)(hb:Comp vs b)(h:(a4L a.Binds b.Binds==0)=true):a=b:=by
 rw[ha.cmp hb]at h;cases h1:a0q a b with
 | true=>rw[h1,W8]at h;exact absurd h (by decide)
 | false=>
   cases h2:a0q b a with
   | true=>rw[h1,h2,V2,W8]at h;exact absurd h (by decide)
   | false=>exact a3d.tri _ _ h1 h2
def Comp.ne0{vs:List (List UInt8)}{a b:d6}(ha:Comp vs a)(hb:Comp vs b)(h:(a4L a.Binds b.Binds==0)=false):¬a=b:=by
 rintro rfl;rw[ha.cmp hb,a3d.irr]at h;exact absurd h z00
def Comp.lt1{vs:List (List UInt8)}{a b:d6}(ha:Comp vs a)(hb:Comp vs b):(a4L a.Binds b.Binds==-1)=a0q a b:=by
 rw[ha.cmp hb];cases a0q a b with
 | true=>rfl
 | false=>cases a0q b a<;>rfl
def Comp.by{vs:List (List UInt8)}{a b:d6}(ha:Comp vs a)(hb:Comp vs b):decide (a3R a.Binds.length (c6Z a.Binds b.Binds)<0)=a0q a b:=by
 have h1:sgn (a3R a.Binds.length (c6Z a.Binds b.Binds))=a4L a.Binds b.Binds:=c9P fun i hi=>b7h (ha.1.1 _ (u7 default hi)).2 (hb.1.1 _ (u7 default (by rw[<-ha.len hb];exact hi))).2
 rw[ha.cmp hb]at h1;generalize a3R a.Binds.length (c6Z a.Binds b.Binds)=x at h1;unfold sgn at h1;cases h:a0q a b with
 | true=>rw[h,W8]at h1;exact V0 (by omega)
 | false=>
   rw[h,V2]at h1;cases h2:a0q b a with
   | true=>rw[h2,W8]at h1;exact V3 (by omega)
   | false=>rw[h2,V2]at h1;exact V3 z0C
def b9m(a:d6)(b:d6)(hpre:a.Binds.length=b.Binds.length):spZ 344 [(true,[w4 a.Binds]),(true,[w4 b.Binds])] [] (.one (false,[.i .i64 (a4L a.Binds b.Binds)])):=by
 refine sy' Tryz.func344 (q' 2 [aX 1 0,aX 1 1,aK 0] (.seq (q' 6 [aG 0 2,aN,aK 0] (fO 0 10 [ar 9 8] 10 1 (q' 11 [am 9,aV 5] (.seq (.seq (G' 12 [aG 0 2,am 5,aI 3,aF 1,aE 2,aG 0 3,am 5,aI 3,aF 1,aE 2,ac 233 [17,23]]) (ci 24 (q' 4 [ao (.mov (.k (.v false [.c (.i .i64 (-1))])))] .ret))) (.seq (G' 25 [aG 0 3,am 5,aI 3,aF 1,aE 2,aG 0 2,am 5,aI 3,aF 1,aE 2,ac 233 [30,36]]) (ci 37 (q' 4 [aK 1] .ret))))) (g' 38 [aA 9]))) (q' 4 [aK 0] .ret))) [.t 4] [(233,[],a4G)] ?_;intro hb hE;simp only[go_sem];repeat' first|apply cj'|intro hc|exact om'|fail
 refine lq' false [2,3,8] [4,6] [] (fun i:{i:Nat // i<=a.Binds.length/\∀j,j<i->b0F (a.Binds.getD j default).Val (b.Binds.getD j default).Val=0}=>[(9,slV (.i .i64 i.1))]) nl' nl' (fun i=>a.Binds.length-i.1) (⟨0,z0D⟩) ?_;intro S0 hS0 i;obtain⟨i,hi,hz⟩:=i;simp only[go_sem,hS0];repeat' first|apply cj'|intro hc|exact om'|fail
 ·rw[b7a hz (by rw[b0F,hc,W8];decide) z0C,b0F,hc];rfl
 ·rename_i h1;rw[b7a hz (by rw[b0F,h1,hc];decide) z0C,b0F,h1,hc];rfl
 ·rename_i h1;exact nx0 ⟨i+1,z0C,fun j hj=>(q3P.1 hj).elim (hz j) (fun q=>q▸(by rw[b0F,h1,hc];rfl))⟩
 ·rw[d0c fun j hj=>hz j z0C]
noncomputable def a8n:CT:=k8 (fun(x:d6×d6) h=>b9m x.1 x.2 h)
@[go_sem] def d3E:=fun x0 x1=>nm' (fP' a8n rfl (⟨x0⟩,⟨x1⟩))
def c5s(l:List d6)(e:d6)(hpre:l.length<=4000/\∃vs,Comp vs e/\∀x∈l,Comp vs x):spZ 292 [(false,[d5Y l]),(true,[w4 e.Binds])] [] (.one (false,[d5Y (a1f a0q l e)])):=by
 refine sx' false true none Tryz.func292 (q' 3 [aX 1 1,ao (.mov (.k (.v false [.nl a3H])))] (q' 9 [ao (.bsl 1 0 [.sl j5] []),aV 5] (q' 6 [aU false] (.seq (q' 10 [am 0,aN,aK 0] (fO 0 13 [ar 12 11] 13 1 (q' 14 [am 12,aV 7] (.seq (G' 15 [ae 1 3,aM [0,7],aI 1,aE 1,ac 344 [15,19],aV 8]) (.seq (q' 21 [am 8,aC .eql 21 0] (ci 22 (q' 23 [am 0,aV 4] .ret))) (.seq (q' 24 [am 6,aO 24,am 25,aH 26 true [bm 8,bC .eql 27 (-1)],aP 26 28] (ci 29 (q' 30 [am 5,ae 1 3,ao (.bsl 1 1 [.sl j5] [(0,.t 31)]),ao (.app 1 24 [.sl j5] (.t 30) (.t 32)),aV 5] (g' 6 [aU true])))) (g' 34 [aM [5,0,7],aI 1,aE 1,ao (.bsl 1 1 [.sl j5] [(0,.t 38)]),ao (.app 1 24 [.sl j5] (.t 34) (.t 39)),aV 5]))))) (g' 41 [aA 12]))) (.seq (q' 42 [am 6,aO 42] (ci 43 (g' 44 [am 5,ae 1 3,ao (.bsl 1 1 [.sl j5] [(0,.t 45)]),ao (.app 1 24 [.sl j5] (.t 44) (.t 46)),aV 5]))) (q' 48 [am 5,aV 4] .ret)))))) [.t 4] [(344,[],a8n)] ?_;intro hb hE;obtain⟨hlen,vs,he,hl0⟩:=hpre;simp only[go_sem];repeat' first|apply cj'|intro hc|exact om'|fail
 refine lk' false [(false,5,0,100010)] [0,3,11] [6] [] (fun i:{i:Nat // i<=l.length/\¬e∈l.take i}=>[(5,.v false [.ow 100010]),(6,slV (.b ((l.take i.1).any (a0q e)))),(12,slV (.i .i64 i.1))]) nl' (fun i=>[(100010,a3H,(a1A a0q e (l.take i.1)).map (d6.cells false false))]) (fun i=>l.length-i.1) (⟨0,z0D⟩) ?_;intro S0 hS0 i;obtain⟨i,hi,hm⟩:=i;have hl:=b9v a0q e (l.take i);rw[V1]at hl;have hC:=fun(h:i<l.length)=>hl0 _ (u7 (l:=l) default h)
 simp only[go_sem,hS0];repeat' first|apply cj'|intro hc|exact om'|fail
 ·exact he.len (hC z0C)
 ·have hm2:e∈l:=by rw[he.eq0 (hC z0C) hc];exact u7 default (by omega)
  rw[a1f,if_pos hm2]
 ·rename_i h0;have hx:=j3 (l:=l) default (i:=i) z0C;have hn:¬e∈l.take (i+1):=by rw[hx];simp only[W9,q0A];rintro(h|h);exact hm h;exact he.ne0 (hC z0C) h0 h
  have h5:a0q e (l.getD i default)=true:=by rw[<-he.lt1 (hC z0C)];exact hc.2
  have h1:(l.take (i+1)).any (a0q e)=true:=by rw[hx,q2A,hc.1,q2L,h5];rfl
  have h2:a1A a0q e (l.take (i+1))=a1A a0q e (l.take i)++[e]++[l.getD i default]:=by rw[hx,b9u hc.1 h5]
  (refine lpK_n2 (⟨i+1,z0C,hn⟩) _ z0E ?_;simp only[go_sem,hS0]<;>repeat' first|apply W6|exact on'|fail)
  all_goals first|rw[h1]|rw[h2]|trace_state
 ·rename_i h0;have hx:=j3 (l:=l) default (i:=i) z0C;have hn:¬e∈l.take (i+1):=by rw[hx];simp only[W9,q0A];rintro(h|h);exact hm h;exact he.ne0 (hC z0C) h0 h
  have h3:(l.take (i+1)).any (a0q e)=(l.take i).any (a0q e)/\a1A a0q e (l.take (i+1))=a1A a0q e (l.take i)++[l.getD i default]:=by
   rw[hx];cases h:(l.take i).any (a0q e)with
   | true=>exact⟨z2I,b3E h⟩
   | false=>
     rw[h,he.lt1 (hC z0C)]at hc;have hc2:a0q e (l.getD i default)=false:=hc;exact⟨z1X,c7y h hc2⟩
  (refine lpK_n2 (⟨i+1,z0C,hn⟩) _ z0E ?_;simp only[go_sem,hS0]<;>repeat' first|apply W6|exact on'|fail)
  all_goals first|rw[h3.1]|rw[h3.2]|trace_state
 ·rw[i4 z0C]at hc hm ⊢;rw[b3G hm hc]
 ·rw[i4 z0C]at hc hm ⊢;rw[b3F hm hc]
noncomputable def b1h:CT:=k8 (fun(x:(List d6)×d6) h=>c5s x.1 x.2 h)
@[go_sem] def d7W:=fun l x0=>nm' (fP' b1h rfl (l,⟨x0⟩))
def d8q(a:List d6)(hpre:a.length<4611686018427387904/\∃vs,∀x∈a,Comp vs x):spZ 264 [(false,[.sl true [.sl false [.s [],.i .i64 0,.s []] []] (a.map (d6.cells false false))]),(false,[.f 265 []])] [(0,(false,[.sl true [.sl false [.s [],.i .i64 0,.s []] []] ((a1R a0q a).map (d6.cells false false))]))] (.tup []):=by
 obtain⟨hlen,vs,hd⟩:=hpre;exact c6n Tryz.sortEnv z0K (k:=1) (fun w=>rfl) (fun w=>rfl) (cf:=d6.cells false false) (cb:=d6.cells false false) (z:=[.sl false [.s [],.i .i64 0,.s []] []]) rfl (fun x=>by simp only[go_sem]) (fun _=>rfl) (dom:=Comp vs) (fun x y=>a3R x.Binds.length (c6Z x.Binds y.Binds)) a3d (fun x y hx hy=>hx.by hy) (enters_of Tryz.func265 z0K rfl) (fun x y hx hy=>b3L x y (hx.len hy)) a hd hlen
noncomputable def c5M:CT:=k8 (fun(x:(List d6)) h=>d8q x h)
@[go_sem] def e2o:=fun a=>nm' (fP' c5M rfl a)
def b0l{r:c8}{s:c4}{l:List d6}{i:Nat}(h:i<l.length):a6b r s (l.take (i+1))=a6b r s (l.take i)++(bif a5Y r s (eqE r (l.getD i default))then[eqE r (l.getD i default)]else[]):=by
 rw[a6b,a6b,j3 default h,q1F,q4H]
 congr 1
 all_goals(simp only[q0E,q1C,q4E,q5P];cases a5Y r s (eqE r (l.getD i default))<;>rfl)
def a3h{r:c8}{s:c4}(hr:k7 r=true)(hs:j6 s=true):(a1j r s).1.length<=2000/\(∀e∈(a1j r s).1,e.Binds.length<=100/\EnvS e.Binds/\∀l∈r.Body,Rooted s e l)/\∃vs,∀e∈a6b r s (a1j r s).1,Comp vs e:=by
 rw[a1j];cases h:a1m r s r.Body.length with
 | none=>exact⟨z0D,z0D,[],by simp[a6b]⟩
 | some l=>
   have hJ:=Jn.all hr hs (q0C _) h;have h8:=body8 hr;obtain⟨vs,ha⟩:=hJ.alk;obtain⟨ws,hb⟩:=d0T (s:=s) hr ha;refine⟨b5I h,fun e he=>⟨by have:=hJ.len e he;omega,ha.ok e he,fun x hx=>?_⟩,ws,fun e he=>⟨hb.ok e he,hb.dom e he⟩⟩;obtain⟨i,hi,rfl⟩:=q1H hx;have:=hJ.root e he i hi
   rwa [j7 default hi]at this
def d4b{r:c8}{s:c4}(hr:k7 r=true)(hs:j6 s=true):(a6b r s (a1j r s).1).Nodup:=by
 rw[a1j];cases h:a1m r s r.Body.length with
 | none=>simp[a6b]
 | some l=>
   obtain⟨vs,ha⟩:=(Jn.all hr hs (q0C _) h).alk;obtain⟨ws,hb⟩:=d0T (s:=s) hr ha;exact hb.nd
def d8L{l:List d6}(h:l.Nodup):a1R a0q l=m8 a0q [] l:=by
 refine SS.uniq a3d (SS.of_sorted a3d (a7E a3d l) ((a1H a0q l).nodup_iff.2 h)) (SS.puts a3d SS.nil) fun x=>?_
 rw[b6z,o8];simp
def c4A(r:c8)(s:c4)(hpre:k7 r=true/\j6 s=true):spZ 208 [(true,[.i .i64 r.Kind,.s r.Head.Name,l8 r.Head.Args,a0g r.Body]),(true,[i6 s.Rels])] [] (.tup [(false,[kTEnv ((o7 r s).1)]),(false,[.b ((o7 r s).2)])]):=by
 refine sy' Tryz.func208 (q' 2 [aX 4 0,aX 1 1,ao (.mov (.k (.v false [.nl a3H]))),aU false] (q' 12 [ae 4 2,ae 1 3,ac 261 [12,13],aV 11,aZ 11 0,aZ 11 1,av 6 15,aV 7] (.seq (q' 17 [am 7,aO 17] (ci 18 (q' 4 [ao (.mov (.k (.v false [.nl a3H]))),aU false] .ret))) (q' 19 [ao (.bsl 1 0 [.sl j5] []),aV 8] (.seq (q' 20 [am 6,aN,aK 0] (fO 0 23 [ar 22 21] 23 1 (q' 24 [ai 1 20 22,aE 1,ax (w' 10 [.sl j5]),aS 1 10 25] (q' 26 [ae 4 2,ae 1 10,ac 262 [26,27],aS 1 10 28] (q' 29 [ae 4 2,ae 1 3,ae 1 10,ac 263 [29,30,31]] (ci 32 (g' 33 [am 8,ae 1 10,ao (.bsl 1 1 [.sl j5] [(0,.t 34)]),ao (.app 1 24 [.sl j5] (.t 33) (.t 35)),aV 8]))))) (g' 37 [aA 22]))) (q' 38 [am 8,ao (.call 264 [.t 38,.k (.v false [.c (.f 265 [])])])] (q' 40 [am 8,aV 4,ab 5 true] .ret))))))) [.t 4,.t 5] [(261,[],b0M),(262,[],a7L),(263,[],b3h),(264,[0],c5M)] ?_;intro hb hE;have hpre0:=hpre;obtain⟨hr,hs⟩:=hpre;obtain⟨hl,hf,vs,hv⟩:=a3h hr hs;have hnd:=d4b hr hs;simp only[go_sem];repeat' first|apply cj'|intro hc|exact om'|fail
 ·rw[o7,hc];exact⟨rfl,rfl⟩
 refine lk' false [(false,8,0,100016)] [2,3,20,21] [4,6] [1792] (fun i:{i:Nat // i<=(a1j r s).1.length}=>[(8,.v false [.ow 100016]),(22,slV (.i .i64 i.1))]) nl' (fun i=>[(100016,a3H,(a6b r s ((a1j r s).1.take i.1)).map (d6.cells false false))]) (fun i=>(a1j r s).1.length-i.1) (⟨0,z0D⟩) ?_;intro S0 hS0 i;obtain⟨i,hi⟩:=i;have hol:=b4n r s ((a1j r s).1.take i);rw[V1]at hol;have hm:=fun(h:i<(a1j r s).1.length)=>hf _ (u7 default h)
 simp only[go_sem,hS0];repeat' first|apply cj'|intro hc|exact om'|fail
 ·exact⟨⟨hr,hs⟩,e0V hr (hm z0C).2.1⟩
 ·(refine lpK_n2 (⟨i+1,z0C⟩) _ z0E ?_;simp only[go_sem,hS0]<;>repeat' first|apply W6|exact on'|fail)
  all_goals(rw[b0l z0C,hc];rfl)
 ·(refine lpK_n2 (⟨i+1,z0C⟩) _ z0E ?_;simp only[go_sem,hS0]<;>repeat' first|apply W6|exact on'|fail)
  all_goals(rw[b0l z0C,hc];simp)
 ·rw[i4 z0C];exact⟨by have:=b4n r s (a1j r s).1;omega,vs,hv⟩
 ·rename_i h1;rw[i4 z0C,d8L hnd,o7,h1];exact⟨rfl,rfl⟩
noncomputable def b0K:CT:=k8 (fun(x:c8×c4) h=>c4A x.1 x.2 h)
@[go_sem] def d7e:=fun x0 x1 x2 x3 x4=>nm' (fP' b0K rfl (⟨x0,⟨x1,x2⟩,x3⟩,⟨x4⟩))
def e1I{vs:List (List UInt8)}:∀{l a:List d6},(∀x∈a,Comp vs x)->(∀x∈l,Comp vs x)->∀x∈m8 a0q a l,Comp vs x:=fun{l a} h1 h2 x hx=>(o8.1 hx).elim (h1 x) (h2 x)
def c1y{r:c8}{s:c4}{e:d6}(hr:k7 r=true)(h:∀l∈r.Body,Rooted s e l):a9L r s (eqE r e)=a5Y r s (eqE r e):=
 e1g hr fun l hl=>(h l hl).ext (b9t r e.Binds)
def e1F{r:c8}{s:c4}{l:List d6}{i:Nat}{x:d6}(h:x∈a6b r s (l.take i)):x∈a6b r s l:=by
 rw[a6b,q1A,q0X]at h ⊢;obtain⟨⟨e,he,hx⟩,h2⟩:=h;exact⟨⟨e,q1V he,hx⟩,h2⟩
def d4m(a l:List d6)(e:d6):m8 a0q a (l++[e])=a1f a0q (m8 a0q a l) e:=by
 simp only[m8,q3A,q2D,List.foldl_nil]
def b6t(r:c8)(s:c4)(hpre:k7 r=true/\j6 s=true):spZ 247 [(true,[.i .i64 r.Kind,.s r.Head.Name,l8 r.Head.Args,a0g r.Body]),(true,[i6 s.Rels])] [] (.tup [(false,[d5Y ((o7 r s).1)]),(false,[.b ((o7 r s).2)])]):=by
 refine sx' false true none Tryz.func247 (q' 2 [aX 4 0,aX 1 1,ao (.mov (.k (.v false [.nl a3H]))),aU false] (q' 19 [ao (.bld [.sl j5] []),ao (.bsl 1 1 [.sl j5] [(0,.t 19)]),aV 6] (.seq (q' 21 [aG 3 2,aN,aK 0] (fO 0 25 [ar 24 23] 25 1 (q' 26 [am 24,aV 7] (q' 27 [aG 3 2,am 7,aI 10,aE 10,ax (w' 8 [.i .i64,.s,.sl j5,.i .i64,.s,.i .i64,.s,.s,.i .i64,.s]),aS 10 8 31] (.seq (q' 32 [aG 0 8,aC .neq 33 1] (ci 34 (.exit 1))) (q' 36 [ae 1 3,af 1 8,aG 0 37,ac 105 [36,39],aV 35,aZ 35 0,aZ 35 1,ax (w' 9 [.i .i64,.sl i5]),aS 2 9 41,aV 10] (q' 43 [ao (.bsl 1 0 [.sl j5] []),aV 11] (.seq (q' 44 [am 6,aN,aK 0] (fO 2 47 [ar 46 45] 47 3 (q' 48 [am 46,aV 12] (.seq (q' 49 [aG 1 9,aN,aK 0] (fO 4 53 [ar 52 51] 53 5 (q' 54 [am 52,aV 13] (.seq (rm' [(true,0,m' 56 6),(true,1,m' 57 12),(true,2,i' 58 1 56 57),(true,3,e' 59 1 58),(true,4,f' 60 1 8),(true,5,f' 61 1 60),(true,6,l' 62 61),(true,7,f' 63 1 9),(true,8,l' 64 63),(true,9,m' 65 13),(true,10,i' 66 1 64 65),(true,11,e' 67 1 66),(false,12,c' 68 289 [59,62,67]),(false,13,m' 55 68),(false,14,o' 69 (.ext (.t 55) 0)),(false,15,o' 70 (.ext (.t 55) 1)),(false,16,w' 14 [.sl j5]),(false,17,s' 1 14 69),(false,18,m' 15 70)] [[0,1,2,3,4,5,6,7,8,9,10,11,12,13,14, 16,15,17,18],[0,1,2,3,4,5,6,7,8,9,10,11,12,13,14,16,17,15,18],[0,1,2,3,4,5,6,7,8,9,10,11,12,13,15,14,16,17,18],[0, 1,2,3,4,5,6,7,8,9,10,11,12,13,15,16,14,17,18],[0,1,2,3,4,5,6,7,8,9,10,11,12,13,16,14,15,17,18],[0,1,2,3,4,5,6,7, 8,9,10,11,12,13,16,14,17,15,18],[0,1,2,3,4,5,6,7,8,9,10,11,12,13,16,15,14,17,18],[0,1,2,3,4,5,6,7,8,9,10,11,12,16, 13,14,15,17,18],[0,1,2,3,4,5,6,7,8,9,10,11,12,16,13,14,17,15,18],[0,1,2,3,4,5,6,7,8,9,10,11,12,16,13,15,14,17,18], [0,1,2,3,4,5,6,7,8,9,10,11,16,12,13,14,15,17,18],[0,1,2,3,4,5,6,7,8,9,10,11,16,12,13,14,17,15,18],[0,1,2,3,4,5,6, 7,8,9,10,11,16,12,13,15,14,17,18]] [16,17,18,19]) (q' 71 [am 15] (ci 71 (g' 72 [am 11,ae 1 14,ao (.bsl 1 1 [.sl j5] [(0, .t 73)]),ao (.app 1 24 [.sl j5] (.t 72) (.t 74)),aV 11]))))) (g' 76 [aA 52]))) (q' 77 [am 11,aN,aC .gtr 78 2000] (ci 79 (q' 4 [ao (.mov (.k (.v false [.nl a3H]))),aU false] .ret))))) (g' 80 [aA 46]))) (g' 81 [am 11,aV 6]))))))) (g' 82 [aA 24]))) (q' 83 [ao (.bsl 1 0 [.sl j5] []),aV 16] (.seq (q' 84 [am 6,aN,aK 0] (fO 6 87 [ar 86 85] 87 7 (q' 88 [am 86,aV 17] (.seq (rm' [(true,0,e' 89 4 2),(true,1,m' 90 6),(true,2,m' 91 17),(true,3,i' 92 1 90 91),(true,4,e' 93 1 92),(false,5,c' 94 290 [89,93]),(false,6,w' 18 [.sl j5]),(false,7,s' 1 18 94)] [[0,1,2,3,4,6,5,7]] [4,5]) (q' 95 [ae 4 2,ae 1 3,ae 1 18,ac 291 [95,96,97]] (ci 98 (g' 99 [am 16,ae 1 18,ac 292 [99,100],aV 16]))))) (g' 102 [aA 86]))) (q' 103 [am 16,aV 4,ab 5 true] .ret)))))) [.t 4,.t 5] [(105,[],a1q),(289,[],a8i),(290,[],a8k),(291,[],a8m),(292,[],b1h)] ?_;intro hb hE;obtain⟨hr,hs⟩:=hpre;have hb8:=body8 hr;simp only[go_sem];(repeat' first|apply cj'|intro hc|apply a0f);(all_goals(try(refine(show A3F _ _ _ _ _ _ from ?_);simp only[go_sem]at hc ⊢;simp only[go_sem,K0]at hc ⊢;simp only[hc,K5];done)));all_goals try exact om'
 refine lk' false [(false,6,0,100012)] [2,3,23] [4,6,17,19,5] [] (fun i:{q:Nat×List d6 // q.1<=r.Body.length/\a1m r s q.1=some q.2}=>[(6,.v false [.ow 100012]),(24,slV (.i .i64 i.1.1))]) nl' (fun i=>[(100012,a3H,i.1.2.map (d6.cells false false))]) (fun i=>r.Body.length-i.1.1) (⟨(0,[⟨[]⟩]),z0D,rfl⟩) ?_;intro S0 hS0 i;obtain⟨⟨n,now⟩,hn,hj⟩:=i;simp only at hn hj;have hJ:=Jn.all hr hs hn hj;have hl:=b5I hj;have hR:=z5 hs (r.Body.getD n default).Atom.Name;have hRl:=a1g hR;have hRe:(arR r s n).length=(k6 s (r.Body.getD n default).Atom.Name).1.Rows.length:=rfl;simp only[go_sem,hS0];(repeat' first|apply cj'|intro hc|apply a0f);(all_goals(try(refine(show A3F _ _ _ _ _ _ from ?_);simp only[go_sem,hS0]at hc ⊢;simp only[go_sem,hS0,K0]at hc ⊢;simp only[hc,K5];done)));all_goals try exact om'
 ·exact nk0 ⟨(n+1,now),z0F,c1D hj (by simpa[bne]using hc)⟩
 ·have hk:((r.Body.getD n default).Kind==1)=true:=by simpa[bne]using hc
  refine a7h 100012 ?_;refine lk' false [(false,11,0,100022)] [2,3,6,8,9,23,24,45] [4,6,16,18,17,19,5] [] (fun i:{j:Nat // j<=now.length/\(y4 (arA r n) (arR r s n) (now.take j)).length<=2000}=>[(11,.v false [.ow 100022]),(46,slV (.i .i64 i.1))]) nl' (fun i=>[(100022,a3H,(y4 (arA r n) (arR r s n) (now.take i.1)).map (d6.cells false false))]) (fun i=>now.length-i.1) (⟨0,z0D,by simp[y4]⟩) ?_;intro S1 hS1 i;obtain⟨j,hj1,hj2⟩:=i;simp only[go_sem,hS0,hS1];(repeat' first|apply cj'|intro hc|apply a0f);(all_goals(try(refine(show A3F _ _ _ _ _ _ from ?_);simp only[go_sem,hS0,hS1]at hc ⊢;simp only[go_sem,hS0,hS1,K0]at hc ⊢;simp only[hc,K5];done)));all_goals try exact om'
  ·have hm:=u7 (l:=now) default (i:=j) z0C;have he6:=hJ.len _ hm;have hall:=c9i (A:=arA r n) (R:=arR r s n) (now:=now) (j:=j) z0C;refine lk' false [(false,11,0,100022)] [2,3,6,8,9,12,23,24,45,46,51] [4,6,16,18,17,19,5] [] (fun i:{k:Nat // k<=(arR r s n).length}=>[(11,.v false [.ow 100022]),(52,slV (.i .i64 i.1))]) nl' (fun i=>[(100022,a3H,(b8q (arA r n) (now.getD j default) (arR r s n) (y4 (arA r n) (arR r s n) (now.take j)) i.1).map (d6.cells false false))]) (fun i=>(arR r s n).length-i.1) (⟨0,z0D⟩) ?_;intro S2 hS2 i;obtain⟨k,hk1⟩:=i;have hlk:=c9j (A:=arA r n) (e:=now.getD j default) (R:=arR r s n) (base:=y4 (arA r n) (arR r s n) (now.take j)) hk1;simp only[go_sem,hS0,hS1,hS2];(repeat' first|apply cj'|intro hc|apply a0f);(all_goals(try((first|refine a0B 12 rfl ?_);intro S hS B0 hB;simp only[go_sem,hS0,hS1,hS2,K6]at hS hB;(repeat(first|replace hS:=And.right hS|replace hS:=CJ.r hS));have Rr59:=congrArg (fun s:St=>s.sl 59) hS;have Rr62:=congrArg (fun s:St=>s.sl 62) hS;have Rr67:=congrArg (fun s:St=>s.sl 67) hS;have Rb16:=congrArg (fun s:St=>s.bx 16) hS;have Rb17:=congrArg (fun s:St=>s.bx 17) hS;have Rb18:=congrArg (fun s:St=>s.bx 18) hS;have Rb19:=congrArg (fun s:St=>s.bx 19) hS;clear hS;simp only[go_sem,hS0,hS1,hS2]at Rr59 Rr62 Rr67 Rb16 Rb17 Rb18 Rb19;(try clear hc);intro K hc;simp only[go_sem,hS0,hS1,hS2,Rr59,Rr62,Rr67,Rb16,Rb17,Rb18,Rb19,hB,K3]at hc ⊢;simp only[go_sem,hS0,hS1,hS2,Rr59,Rr62,Rr67,Rb16,Rb17,Rb18,Rb19,hB,K0]at hc ⊢;(first|(simp only[hc,K5];done)|((repeat' first|exact hc|apply W6);done)))));all_goals try exact om'
   ·exact⟨z0C,c3e hR z0C⟩
   ·(refine lpK_n2 (⟨k+1,z0C⟩) _ z0L ?_;simp only[go_sem,hS0,hS1,hS2]<;>repeat' first|apply W6|exact on'|fail)
    all_goals(rw[b8q,c1q hc];rfl)
   ·(refine lpK_n2 (⟨k+1,z0C⟩) _ z0L ?_;simp only[go_sem,hS0,hS1,hS2]<;>repeat' first|apply W6|exact on'|fail)
    all_goals(rw[b8q,c7l hc];simp)
   ·obtain rfl:k=(arR r s n).length:=by omega
    rw[hall]at hc;rw[o7,c5W hj z0C hk (j:=j+1) (show 2000<(y4 (arA r n) (arR r s n) (now.take (j+1))).length by omega)];exact⟨rfl,rfl⟩
   ·obtain rfl:k=(arR r s n).length:=by omega
    rw[hall]at hc
    (refine lpK_n2 (⟨j+1,z0C,z0C⟩) _ z0L ?_;simp only[go_sem,hS0,hS1,hS2]<;>repeat' first|apply W6|exact on'|fail)
    all_goals rw[hall]
  ·rw[i4 z0C]at hj2
   (refine lpK_n2 (⟨(n+1,y4 (arA r n) (arR r s n) now),z0F,d0o hj hk hj2⟩) _ z0L ?_;simp only[go_sem,hS0,hS1]<;>repeat' first|apply W6|exact on'|fail)
   all_goals rw[i4 z0C]
 obtain rfl:n=r.Body.length:=by omega
 have hJR:=d0p hj;obtain⟨_,hf,vs,hv⟩:=a3h hr hs;rw[hJR]at hf hv;simp only at hf hv;refine a7h 100012 ?_;refine a7h 10624 ?_;refine lq' false [2,3,6,85] [4,6,5] [] (fun i:{i:Nat // i<=now.length}=>[(16,.v false [.c (d5Y (m8 a0q [] (a6b r s (now.take i.1))))]),(86,slV (.i .i64 i.1))]) nl' nl' (fun i=>now.length-i.1) (⟨0,z0D⟩) ?_;intro S3 hS3 i;obtain⟨i,hi⟩:=i;have hol:=b4n r s (now.take i);rw[V1]at hol;have hpl:=a0M a0q (a6b r s (now.take i)) [];have hm:=fun(h:i<now.length)=>hf _ (u7 default h)
 have hsub:∀k,∀x∈a6b r s (now.take k),Comp vs x:=fun k x hx=>hv x (e1F hx)
 have hsy:=fun(h:i<now.length) (hc:a9L r s (eqE r (now.getD i default))=true)=>(b0l (r:=r) (s:=s) h).trans (by rw[(c1y hr (hm h).2.2).symm,hc,W8])
 have hsn:=fun(h:i<now.length) (hc:a9L r s (eqE r (now.getD i default))=false)=>(b0l (r:=r) (s:=s) h).trans (by rw[(c1y hr (hm h).2.2).symm,hc,V2,q0D])
 simp only[go_sem,hS0,hS3];(repeat' first|apply cj'|intro hc|apply a0f);(all_goals(try((first|refine a0B 5 rfl ?_);intro S hS B0 hB;simp only[go_sem,hS0,hS3,K6]at hS hB;(repeat(first|replace hS:=And.right hS|replace hS:=CJ.r hS));have Rr89:=congrArg (fun s:St=>s.sl 89) hS;have Rr93:=congrArg (fun s:St=>s.sl 93) hS;have Rb4:=congrArg (fun s:St=>s.bx 4) hS;have Rb5:=congrArg (fun s:St=>s.bx 5) hS;clear hS;simp only[go_sem,hS0,hS3]at Rr89 Rr93 Rb4 Rb5;(try clear hc);intro K hc;simp only[go_sem,hS0,hS3,Rr89,Rr93,Rb4,Rb5,hB,K3]at hc ⊢;simp only[go_sem,hS0,hS3,Rr89,Rr93,Rb4,Rb5,hB,K0]at hc ⊢;(first|(simp only[hc,K5];done)|((repeat' first|exact hc|apply W6);done)))));all_goals try exact om'
 ·have h1:=hsy z0C hc;refine⟨by simp only[q1Z]at hpl;omega,vs,hsub (i+1) _ (by rw[h1];simp),e1I (by intro x hx;cases hx) (hsub i)⟩
 ·have h1:=hsy z0C hc
  (refine lpK_n2 (⟨i+1,z0C⟩) _ rfl ?_;simp only[go_sem,hS0,hS3]<;>repeat' first|apply W6|exact on'|fail)
  all_goals rw[h1,d4m]
 ·have h1:=hsn z0C hc
  (refine lpK_n2 (⟨i+1,z0C⟩) _ rfl ?_;simp only[go_sem,hS0,hS3]<;>repeat' first|apply W6|exact on'|fail)
  all_goals rw[h1]
 ·rw[i4 z0C,o7,hJR];exact⟨rfl,rfl⟩
noncomputable def a6M:CT:=k8 (fun(x:c8×c4) h=>b6t x.1 x.2 h)
@[go_sem] def d2a:=fun x0 x1 x2 x3 x4=>nm' (fP' a6M rfl (⟨x0,⟨x1,x2⟩,x3⟩,⟨x4⟩))
end Go.Aw
namespace Go.Aw
open Go.Proofs
attribute [local irreducible] aft blk lpK retK AW A0d
set_option linter.all false
set_option maxRecDepth 100000
set_option maxHeartbeats 4000000
attribute [local irreducible] RM
def a8H{r:c8}{s:c4}(hr:k7 r=true)(hs:j6 s=true):(o7 r s).1.length<=2000/\∀e∈(o7 r s).1,e.Binds.length<=164:=by
 obtain⟨hl,hf,_⟩:=a3h hr hs;rw[o7];cases(a1j r s).2 with
 | false=>exact⟨q2H _,by intro e he;cases he⟩
 | true=>
   rw[W8];refine⟨?_,fun e he=>?_⟩
   ·have h1:=a0M a0q (a6b r s (a1j r s).1) [];have h2:=b4n r s (a1j r s).1;simp only[q1Z]at h1;simp only;omega
   ·have h1:=(o8.1 he).resolve_left (by intro h;cases h);rw[a6b,q1A,q0X]at h1;obtain⟨⟨e',he',rfl⟩,_⟩:=h1;have h3:=(hf e' he').1;have h4:=eqR_len r e'.Binds;have h5:=a4n hr;simp only[eqE];omega
end Go.Aw
namespace Go.Aw
open Go.Proofs Go.Shelf Go.Sort Go.Lib Go.RowKit
set_option linter.all false
set_option maxRecDepth 1000000
set_option maxHeartbeats 4000000
def c9U(a:Option Addr)(cap:Nat)(g:Nat)(w:World):Calls Tryz.prog 215 #[.slice a 0 cap,.func (.func g) #[] #[]] w fun e w'=>e=.returned (.slice a 0 cap)/\w'=w:=by
 have h1:((0:Nat):Int)<2:=by omega
 go_enter Tryz.func215,Tryz.ntmps215
 go_wp2
 go_ret
 exact⟨rfl,rfl⟩
def d3N{α:Type}[Inhabited α](k:Nat)(zE:∀w,(Go.sizeOf 66).run Tryz.prog w=.ok k w)(z:Value)(hzv:∀w,(zeroValue 66).run Tryz.prog w=.ok z w)(hzs:z.cells.size=k)(hz1:∀n,∀v∈(Builtin.zeroCells z.cells n).toList,v.oneCell'=true)(enc:α->List Value)(hk:∀x,(enc x).length=k)(h1:∀x,∀v∈enc x,v.oneCell'=true)(eq:α->α->Bool)(g:Nat)(eg:∀args w,(callFunc g args).run Tryz.prog w=.ok (.enter g args) w)
  (blk off cap:Nat) (d:Array α) (w:World) (hq:c6u Tryz.prog g enc k eq blk off d.size w) (hH:HoldsK enc k w blk off d) (hblk:blk<w.heap.size) (hcap:d.size<=cap) (hsz:d.size<4611686018427387904):
  Calls Tryz.prog 215 #[.slice (some ⟨blk,off,none⟩) d.size cap,.func (.func g) #[] #[]] w fun e w'=>e=.returned (.slice (some ⟨blk,off,none⟩) (keptUpTo (kpE eq d) d d.size).length cap)/\b9C enc k w blk off d (kpE eq d) w':=by
 have u0:=run_underlying Tryz.underlying158;have mixed:Tryz.prog.follows Departure.mixedOrders=true:=by kernel_rfl
 have aE:∀w,(isAgg 66).run Tryz.prog w=.ok true w:=fun w=>rfl
 have R:RowK enc k w blk off d:=⟨hk,h1,hH,hblk⟩
 obtain⟨kp,HK⟩:∃kp:Nat->Bool,Hid (kp=kpE eq d):=⟨_,rfl⟩
 rw[show kpE eq d=kp from HK.out.symm];have same:∀W,SWK enc k w blk off d W->(∀j,j<d.size->kp j=true)->(keptUpTo kp d d.size).length=d.size/\b9C enc k w blk off d kp W:=by
  rintro W ⟨n,os,rfl⟩ hall;have e:keptUpTo kp d d.size=d.toList:=by rw[keptUpTo_all kp d _ hall,range_map_get]
  unfold b9C;rw[e];refine⟨z0D,n,os,d,[],rfl,fun j hj=>?_,z0D,rfl⟩;have hj':j<d.size:=by simpa using hj
  rw[getElem!_pos d j hj',V6 hj];simp
 have hz0:∀j,j<1->kp j=true:=fun j hj=>by
  obtain rfl:j=0:=by omega
  rw[HK.out];simp[kpE]
 have HZ:Aside (∀w,(zeroValue 66).run Tryz.prog w=.ok z w):=hzv;have HZ1:Aside (∀n,∀v∈(Builtin.zeroCells z.cells n).toList,v.oneCell'=true):=hz1;have HZS:Aside (z.cells.size=k):=hzs;clear hzv hz1 hzs;have HS:Aside _:=same;have HC:Aside _:=hq;have HR:Aside _:=R;clear same hq R hH hblk hk h1;by_cases h2:d.size<2
 ·have h2z:(d.size:Int)<2:=by omega
  go_enter Tryz.func215,Tryz.ntmps215
  go_wp2
  go_ret
  obtain⟨e1,e2⟩:=HS.out w (SWK.start HR.out.hH) (fun j hj=>hz0 j z0C);exact⟨by rw[e1];rfl,e2⟩
 ·have h2z:¬(d.size:Int)<2:=by omega
  go_enter Tryz.func215,Tryz.ntmps215
  go_wp2
  go_loopg [5] d.size (fun gg s5 wr=>∃kk:Nat,1<=kk/\kk<=d.size/\d.size-kk<=gg/\s5=.int .i64 kk/\Aside (SWK enc k w blk off d wr)/\Aside (∀j,j<kk->kp j=true))
  case atStart=>exact⟨1,q0C _,z0C,z0C,rfl,SWK.start HR.out.hH,hz0⟩
  case round=>
   obtain⟨kk,hk1,hkd,hg,rfl,SW,A⟩:=hrel;by_cases hlt:kk<d.size
   ·have hltz:(kk:Int)<(d.size:Int):=by omega
    obtain⟨kq,rfl⟩:∃kq,kk=kq+1:=⟨kk-1,z0C⟩
    have hwp:IntKind.i64.wrap (kq:Int)=(kq:Int):=by rw[IntKind.wrap_i64];omega
    have jz:(kq:Int)+1<(d.size:Int):=by omega
    have jz1:(kq:Int)<(d.size:Int):=by omega
    have p0:(0:Int)<=(kq:Int)+1:=by omega
    have e0:((kq:Int)+1).toNat=kq+1:=by omega
    have lj:=SW.out.ld HR.out rfl Tryz.prog (kq+1) hlt;have lp:=SW.out.ld HR.out rfl Tryz.prog kq z0C;have hcg:=e0a SW.out HC.out rfl d[kq+1]! d[kq]!;generalize hx:d[kq+1]! = x at lj hcg;generalize hy:d[kq]! = y at lp hcg;have B:Aside (d[kq+1]! = x/\d[kq]! = y):=⟨hx,hy⟩
    clear hx hy hz0;cases hq:eq x y with
    | false=>
      rw[hq]at hcg
      go_wp2_with fail
      go_quiet_grown (first|(go_at_fn g;refine Calls.grown_of (hcg _ _)))
      go_wp2
      go_roundg (d.size-(kq+2))
      case measure=>omega
      case rel=>
       refine⟨kq+2,z0C,z0C,q0C _,by go_num,SW.out.grown _ _,(show Aside _ from fun j hj=>?_)⟩;by_cases e:j=kq+1
       ·subst e;rw[HK.out];exact d6a (by rw[B.out.1,Nat.add_sub_cancel,B.out.2];exact hq)
       ·exact A.out j (by omega)
    | true=>
      rw[hq]at hcg
      go_wp2_with fail
      go_quiet_grown (first|(go_at_fn g;refine Calls.grown_of (hcg _ _)))
      have SW2:Aside (SWK enc k w blk off d (grow (wr.drewN nq) osq)):=SW.out.grown nq osq;clear lj lp hcg;show Exit.then _ _ _ _ (grow (wr.drewN nq) osq);generalize grow (wr.drewN nq) osq=w2 at SW2 ⊢;have hkc:(kq:Int)+1<=(d.size:Int):=by omega
      have hkc2:(kq:Int)+1<=(cap:Int):=by omega
      have hdc:(d.size:Int)<=(cap:Int):=by omega
      go_wp2
      go_loopg [5,7] d.size (fun gg s5 s7 wr2=>∃(i m:Nat) (dk:Array α),s5=.int .i64 i/\s7=.int .i64 m/\1<=m/\kq+1+m<=d.size/\d.size-(kq+1+m)<=gg/\Aside (SWK enc k w blk off dk wr2)/\Aside (KeptInv kp d (kq+1+m) i dk))
      case atStart=>exact⟨kq+1,1,d,by first|rfl|go_num,rfl,q0C _,z0C,z0C,SW2,KeptInv.start A.out (by rw[HK.out];exact d5Z z0C (by rw[B.out.1,Nat.add_sub_cancel,B.out.2];exact hq))⟩
      case round=>
       obtain⟨i,m,dk,rfl,rfl,hm1,hmd,hg2,SWr,I⟩:=hrel;have hds:=I.out.size;have hil:=I.out.lt;by_cases hlt2:kq+1+m<d.size
       ·obtain⟨mq,rfl⟩:∃mq,m=mq+1:=⟨m-1,z0C⟩
        have hadd:∀z,off+(kq+1)*k+z*k=off+(kq+1+z)*k:=fun z=>by rw[q2C (kq+1) z k];omega
        have lj:=SWr.out.ld HR.out hds Tryz.prog (kq+1+(mq+1)) z0C;have lp:=SWr.out.ld HR.out hds Tryz.prog (kq+1+mq) z0C;have hcg:=e0a SWr.out HC.out hds dk[kq+1+(mq+1)]! dk[kq+1+mq]!;have hx2:dk[kq+1+(mq+1)]! = d[kq+1+(mq+1)]!:=I.out.high _ z0C;have hy2:dk[kq+1+mq]! = d[kq+1+mq]!:=I.out.high _ z0C;generalize dk[kq+1+(mq+1)]! = u at lj hcg hx2;generalize dk[kq+1+mq]! = v at lp hcg hy2;have C:Aside (u=d[kq+1+(mq+1)]!/\v=d[kq+1+mq]!):=⟨hx2,hy2⟩
        clear hx2 hy2;have hwm:IntKind.i64.wrap (mq:Int)=(mq:Int):=by rw[IntKind.wrap_i64];omega
        have m0:(0:Int)<=(mq:Int)+1:=by omega
        have m1:((mq:Int)+1).toNat=mq+1:=by omega
        have mz:(mq:Int)+1<((d.size-(kq+1):Nat):Int):=by omega
        have mz1:(mq:Int)<((d.size-(kq+1):Nat):Int):=by omega
        have hsm:mq+1<d.size-(kq+1):=by omega
        have hsm1:mq<d.size-(kq+1):=by omega
        have hB:i*k+k<=dk.size*k:=by
         have:=q1S k (show i+1<=dk.size by omega);rwa [q2C,q4S]at this
        have iz:(i:Int)<(d.size:Int):=by omega
        have izn:i<d.size:=by omega
        cases hq2:eq u v with
        | false=>
          rw[hq2]at hcg
          go_wp2_with fail
          go_quiet_grown (first|(go_at_fn g;refine Calls.grown_of (hcg _ _)))
          have SW3:=SWr.out.grown nq osq;clear lj lp hcg;show Exit.then _ _ _ _ (grow (wr.drewN nq) osq);generalize grow (wr.drewN nq) osq=w3 at SW3 ⊢;have lj3:=SW3.load HR.out hds Tryz.prog (kq+1+(mq+1)) z0C;have hx2:dk[kq+1+(mq+1)]! = u:=(I.out.high _ z0C).trans C.out.1.symm;rw[hx2]at lj3;have s1:Sem.run Tryz.prog (storeCells ⟨blk,off+i*k,none⟩ (enc u) 0) w3=.ok () (w3.setCells blk (off+i*k) (enc u)):=stores_of_holds Tryz.prog (SW3.holds HR.out.hblk HR.out.hH hds) (i*k) _ (by rw[HR.out.hk,size_flatK];exact hB) (HR.out.h1 _);have hsU:(enc u).length=k:=HR.out.hk _;have SW4:Aside (SWK enc k w blk off (dk.setIfInBounds i u) (w3.setCells blk (off+i*k) (enc u))):=d6R SW3 HR.out.hk HR.out.hblk i z0C u;clear SW3 hx2 hB;obtain⟨cU,hcU⟩:∃c,c=enc u:=⟨_,rfl⟩
          rw[<-hcU]at lj3 s1 hsU SW4;clear hcU
          go_wp2
          go_roundg (d.size-(kq+1+(mq+2)))
          case measure=>omega
          case rel=>
           refine⟨i+1,mq+2,dk.setIfInBounds i u,by go_num,by go_num,z0C,z0C,q0C _,SW4,(show Aside _ from ?_)⟩;have:=I.out.keep hlt2 (by rw[HK.out];exact d6a z1C)
           rwa [<-C.out.1]at this
        | true=>
          rw[hq2]at hcg
          go_wp2_with fail
          go_quiet_grown (first|(go_at_fn g;refine Calls.grown_of (hcg _ _)))
          have SW3:Aside (SWK enc k w blk off dk (grow (wr.drewN nq) osq)):=SWr.out.grown nq osq;clear lj lp hcg;show Exit.then _ _ _ _ (grow (wr.drewN nq) osq);generalize grow (wr.drewN nq) osq=w3 at SW3 ⊢
          go_wp2
          go_roundg (d.size-(kq+1+(mq+2)))
          case measure=>omega
          case rel=>exact⟨i,mq+2,dk,rfl,by go_num,z0C,z0C,q0C _,SW3,I.out.skip (by rw[HK.out];exact d5Z z0C z1C)⟩
       ·have hend:kq+1+m=d.size:=by omega
        have hmz:¬(m:Int)<((d.size-(kq+1):Nat):Int):=by omega
        have hmn:¬m<d.size-(kq+1):=by omega
        have hin:0<d.size-i:=by omega
        have hidz:(i:Int)<=(d.size:Int):=by omega
        have hicz:(i:Int)<=(cap:Int):=by omega
        have hHk:HoldsK enc k wr blk off dk:=SWr.out.holds HR.out.hblk HR.out.hH hds;have hzl:(Builtin.zeroCells z.cells (d.size-i)).toList.length=(d.size-i)*k:=by simp[Builtin.zeroCells,HZS.out]
        have hcl:∀ty,(Builtin.clear_ #[158] ty #[.slice (some ⟨blk,off+i*k,none⟩) (d.size-i) (cap-i)]).run Tryz.prog wr=.ok (.tuple #[]) (wr.setCells blk (off+i*k) (Builtin.zeroCells z.cells (d.size-i)).toList):=fun ty=>
         d1b wr _ _ ty z Tryz.underlying158 HZ.out (HZ1.out _) blk (off+i*k) _ hin
          (fun j hj=>by rw[HZS.out]at hj;rw[q3N,(hHk (i*k+j) z06).1];rfl)
          (fun j hj=>by rw[HZS.out]at hj;rw[q3N];exact(hHk (i*k+j) z06).2)
        generalize(Builtin.zeroCells z.cells (d.size-i)).toList=zs at hcl hzl;clear hHk
        go_wp2
        go_ret
        have hI:=I.out;rw[hend]at hI;refine⟨by rw[hI.len];rfl, ?_⟩;obtain⟨n,os,hw⟩:=SWr.out;refine⟨n,os,dk,zs,hds,fun j hj=>hI.low j (by rw[<-hI.len];exact hj), ?_,by rw[hI.len,<-hw]⟩;rw[hI.len,hzl,<-q2C];exact q1S k (by omega)
   ·obtain rfl:kk=d.size:=by omega
    have hltz:¬(d.size:Int)<(d.size:Int):=by omega
    go_wp2
    go_ret
    obtain⟨e1,e2⟩:=HS.out _ SW.out A.out;exact⟨by rw[e1];rfl,e2⟩
def c9V:CpfRuns Tryz.prog 215 1:=⟨c9U,fun enc hk h1 eq g eg blk off cap d w hq hH hblk hcap hsz=>d3N 1 (fun w=>rfl) (.agg #[.slice none 0 0]) (fun w=>rfl) rfl (c5v z00 (by simp[Value.cells,Value.oneCell'])) enc hk h1 eq g eg blk off cap d w hq hH hblk hcap hsz⟩
end Go.Aw
namespace Go.Aw
open Go.Proofs Go.Shelf
attribute [local irreducible] aft blk lpK retK AW A0d
set_option linter.all false
set_option maxRecDepth 100000
set_option maxHeartbeats 4000000
attribute [local irreducible] RM
def s6(a b:d3):Bool:=a4R vLt a.V b.V
def a3k:STO s6 where
 irr x:=b4w.lex.irr x.V
 tr x y z:=b4w.lex.tr x.V y.V z.V
 tri x y h1 h2:=by
  have:=b4w.lex.tri x.V y.V h1 h2;cases x;cases y;simp_all
def c2Z:∀{a b:List d4},okL a->okL b->a1s a b=bif a4R vLt a b then-1 else bif a4R vLt b a then 1 else 0
 | [],[],_,_=>rfl
 | [],_::_,_,_=>rfl
 | _::_,[],_,_=>rfl
 | x::a,y::b,ha,hb=>by
   have hx:=ha x z0D;have hy:=hb y z0D;have ih:=c2Z (okL.tl ha) (okL.tl hb);rw[a1s,<-c8z hx hy,<-c8z hy hx,a4R,a4R];cases h1:vLt x y with
   | true=>rw[b4w.asy h1];rfl
   | false=>
     cases h2:vLt y x with
     | true=>rfl
     | false=>rw[V2,V2,ih];rfl
def bRow_by{a b:d3}(ha:okL a.V)(hb:okL b.V):decide (a1V a.V b.V<0)=s6 a b:=by
 have h:=c2Z ha hb;rw[s6];cases h1:a4R vLt a.V b.V with
 | true=>rw[h1,W8]at h;exact V0 ((b2U ha hb).2 h)
 | false=>
   rw[h1,V2]at h;refine V3 fun h2=>?_
   rw[(b2U ha hb).1 h2]at h;cases h3:a4R vLt b.V a.V<;>rw[h3]at h<;>exact absurd h z00
def b9z{a b:d3}(ha:okL a.V)(hb:okL b.V):(a1s a.V b.V==-1)=s6 a b:=by
 rw[c2Z ha hb,s6];cases a4R vLt a.V b.V with
 | true=>rfl
 | false=>cases a4R vLt b.V a.V<;>rfl
def d4c(l:List d4)(hpre:l.length<1000000):spZ 277 [(false,[.sl false [.i .i64 0,.s []] (l.map d4.cells)])] [] (.one (false,[.sl true [.i .i64 0,.s []] (l.map d4.cells)])):=by
 exact b0a (d:=[.i .i64 0,.s []]) Tryz.cloneVal z0K (hi:=rfl) (hz0:=rfl) (hz1:=rfl) (bytes:=24) (hz2:=rfl) (hzs:=rfl) z00 (fun w=>rfl) _ z0X
noncomputable def c0N:CT:=k8 (fun(x:(List d4)) h=>d4c x h)
@[go_sem] def e2b:=fun l=>nm' (fP' c0N rfl l)
def c1U(r:d3)(hpre:r.V.length<1000000):spZ 227 [(true,[o5 r.V])] [] (.one (true,[a5t r.V])):=by
 refine sy' Tryz.func227 (q' 1 [aX 1 0,aw [.sl l9]] (q' 3 [aG 0 1,ac 277 [4],ao (.bld [.sl l9] [(0,1,.t 5)]),aS 1 2 6] .ret)) [.c 2 true 1] [(277,[],c0N)] ?_;intro hb hE;simp only[go_sem];repeat' first|apply cj'|intro hc|exact om'|fail
noncomputable def a2C:CT:=k8 (fun(x:d3) h=>c1U x h)
@[go_sem] def d4P:=fun x0=>nm' (fP' a2C rfl ⟨x0⟩)
def d8s(a:List d3)(hpre:a.length<4611686018427387904/\∀x∈a,okL x.V):spZ 213 [(false,[.sl true [.sl true [.i .i64 0,.s []] []] (a.map (d3.cells true true))]),(false,[.f 214 []])] [(0,(false,[.sl true [.sl true [.i .i64 0,.s []] []] ((a1R s6 a).map (d3.cells true true))]))] (.tup []):=by
 obtain⟨hlen,hd⟩:=hpre;exact c6n Tryz.sortRow z0K (k:=1) (fun w=>rfl) (fun w=>rfl) (cf:=d3.cells true true) (cb:=d3.cells false false) (z:=[.sl true [.i .i64 0,.s []] []]) rfl (fun x=>by simp only[go_sem]) (fun _=>rfl) (dom:=fun x=>okL x.V) (fun x y=>a1V x.V y.V) a3k (fun x y hx hy=>bRow_by hx hy) (enters_of Tryz.func214 z0K rfl) (fun x y _ _=>b3M x y) a hd hlen
noncomputable def c5O:CT:=k8 (fun(x:(List d3)) h=>d8s x h)
@[go_sem] def e2q:=fun a=>nm' (fP' c5O rfl a)
def e1p(a:List d3)(hpre:a.length<4611686018427387904):spZ 215 [(false,[.sl true [.sl true [.i .i64 0,.s []] []] (a.map (d3.cells true true))]),(false,[.f 151 []])] [] (.one (false,[.sl true [.sl true [.i .i64 0,.s []] []] ((Lib.compact a).map (d3.cells true true))])):=by
 have h:=cpf_out (P:=Tryz.prog) c9V z0K (cf:=d3.cells true true) (cb:=d3.cells false false) (z:=[.sl true [.i .i64 0,.s []] []]) rfl (fun x=>by simp only[go_sem]) (fun _=>rfl) (dom:=fun _=>True) (fun x y:d3=>decide (x.V=y.V)) (enters_of Tryz.func151 z0K rfl) (fun x y _ _=>a9N x y) a (fun _ _=>trivial) hpre;rw[show(fun x y:d3=>decide (x.V=y.V))=fun x y=>decide (x=y)from funext fun x=>funext fun y=>by cases x;cases y;simp,c4q]at h;exact h
noncomputable def c9r:CT:=k8 (fun(x:(List d3)) h=>e1p x h)
@[go_sem] def c_cpfRow_eq:=fun a=>nm' (fP' c9r rfl a)
def c1T(r:d8)(hpre:r.Rows.length<=200000/\∀x∈r.Rows,x.V.length<1000):spZ 170 [(true,[.i .i64 r.Arity,n9 r.Rows])] [] (.one (true,[.i .i64 r.Arity,a4Q r.Rows])):=by
 refine sx' true false none Tryz.func170 (q' 1 [aX 2 0,aw [.i .i64,.sl i5]] (q' 6 [aG 0 1,ao (.bld [.i .i64,.sl i5] [(0,1,.t 7)]),ax (w' 3 [.i .i64,.sl i5]),aS 2 3 8] (.seq (q' 9 [aG 1 1,aN,aK 0] (fO 0 13 [ar 12 11] 13 1 (q' 14 [ai 1 10 12,aE 1,ax (w' 5 [.sl l9]),aS 1 5 15] (rm' [(true,2,e' 18 1 5),(false,0,f' 16 1 3),(false,1,l' 17 16),(false,3,c' 19 227 [18]),(false,4,o' 20 (.bsl 1 1 [.sl l9] [(0,.t 19)])),(false,5,o' 21 (.app 1 24 [.sl l9] (.t 17) (.t 20))),(false,6,f' 22 1 3),(false,7,s' 1 22 21)] [[0,1,3,2,4,5,6,7],[0,1,3,4,2,5,6,7],[0,3,1,2,4,5,6,7],[0,3,1,4,2,5,6,7],[0,3,4,1,2,5,6,7]] [10,11])) (g' 23 [aA 12]))) (q' 24 [ae 2 3,aS 2 2 24] .ret)))) [.c 2 true 2] [(227,[],a2C)] ?_;intro hb hE;obtain⟨hl,hv⟩:=hpre;simp only[go_sem];(repeat' first|apply cj'|intro hc|apply a0f);(all_goals(try(refine(show A3F _ _ _ _ _ _ from ?_);simp only[go_sem]at hc ⊢;simp only[go_sem,K0]at hc ⊢;simp only[hc,K5];done)));all_goals try exact om'
 refine lk' true [(true,6,1,200012)] [2,3,10,11] [4,11] [] (fun i:{i:Nat // i<=r.Rows.length}=>[(12,slV (.i .i64 i.1))]) (fun i=>[(6,[.c (.i .i64 r.Arity),.ow 200012])]) (fun i=>[(200012,b1r,(r.Rows.take i.1).map (d3.cells true true))]) (fun i=>r.Rows.length-i.1) (⟨0,z0D⟩) ?_;intro S0 hS0 i;obtain⟨i,hi⟩:=i;have hm:=fun(h:i<r.Rows.length)=>hv _ (u7 default h)
 have hol:(r.Rows.take i).length=i:=by rw[V1];omega
 have hsn:i<r.Rows.length->r.Rows.take (i+1)=r.Rows.take i++[r.Rows.getD i default]:=fun h=>j3 default h
 simp only[go_sem,hS0];(repeat' first|apply cj'|intro hc|apply a0f);(all_goals(try((first|refine a0B 1 rfl ?_);intro S hS B0 hB;simp only[go_sem,hS0,K6]at hS hB;(repeat(first|replace hS:=And.right hS|replace hS:=CJ.r hS));have Rr3:=congrArg (fun s:St=>s.sl 3) hS;have Rr18:=congrArg (fun s:St=>s.sl 18) hS;have Rb6:=congrArg (fun s:St=>s.bx 6) hS;have Rb10:=congrArg (fun s:St=>s.bx 10) hS;have Rb11:=congrArg (fun s:St=>s.bx 11) hS;have Ro200012:=congrArg (fun s:St=>s.ow 200012) hS;clear hS;simp only[go_sem,hS0]at Rr3 Rr18 Rb6 Rb10 Rb11 Ro200012;(try clear hc);intro K hc;simp only[go_sem,hS0,Rr3,Rr18,Rb6,Rb10,Rb11,Ro200012,hB,K3]at hc ⊢;simp only[go_sem,hS0,Rr3,Rr18,Rb6,Rb10,Rb11,Ro200012,hB,K0]at hc ⊢;(first|(simp only[hc,K5];done)|((repeat' first|exact hc|apply W6);done)))));all_goals try exact om'
 ·(refine lpK_n2 (⟨i+1,z0C⟩) _ z0E ?_;simp only[go_sem,hS0]<;>repeat' first|apply W6|exact on'|fail)
  all_goals rw[hsn z0C]
 ·rw[i4 z0C]
noncomputable def a4t:CT:=k8 (fun(x:d8) h=>c1T x h)
@[go_sem] def d4O:=fun x0 x1=>nm' (fP' a4t rfl ⟨x0,x1⟩)
def a6d(a:Int)(rows:List d3):d8×Bool:=bif decide (300<((Lib.compact (a1R s6 rows)).length:Int))then(default,false)else(⟨a,Lib.compact (a1R s6 rows)⟩,true)
def b3U(arity:Int)(rows:List d3)(hpre:rows.length<=100000/\∀x∈rows,okL x.V/\x.V.length<1000):spZ 157 [(false,[.i .i64 arity]),(false,[n9 rows])] [] (.tup [(true,[.i .i64 (((a6d arity rows).1).Arity),a4Q (((a6d arity rows).1).Rows)]),(false,[.b ((a6d arity rows).2)])]):=by
 refine sx' true false none Tryz.func157 (q' 4 [aw [.i .i64,.sl i5],aU false] (q' 7 [aM [0,1],ao (.bld [.i .i64,.sl i5] [(0,1,.t 7),(1, 1,.t 8)]),ac 170 [9],ax (w' 6 [.i .i64,.sl i5]),aS 2 6 10] (q' 11 [aG 1 6,ao (.call 213 [.t 12,.k (.v false [.c (.f 214 [])])])] (q' 14 [aG 1 6,ao (.call 215 [.t 15,.k (.v false [.c (.f 151 [])])]),af 1 6,aS 1 17 16] (.seq (q' 18 [aG 1 6,aN,aC .gtr 20 300] (ci 21 (q' 22 [ao (.bld [.i .i64,.sl i5] []),aS 2 4 22,ab 5 false] .ret))) (q' 23 [ae 2 6,aS 2 4 23,ab 5 true] .ret)))))) [.c 4 true 2,.t 5] [(170,[],a4t),(213,[0],c5O),(215,[0],c9r)] ?_;intro hb hE;obtain⟨hl,hv⟩:=hpre;have hs:=(a1H s6 rows).length_eq;simp only[go_sem];repeat' first|apply cj'|intro hc|exact om'|fail
 ·exact⟨z0C,fun x hx=>(hv x hx).2⟩
 ·exact⟨z0C,fun x hx=>(hv x hx).1⟩
 ·rw[a6d,V0 hc];exact⟨⟨rfl,rfl⟩,rfl⟩
 ·rw[a6d,V3 hc];exact⟨⟨rfl,rfl⟩,rfl⟩
noncomputable def b3k:CT:=k8 (fun(x:Int×(List d3)) h=>b3U x.1 x.2 h)
@[go_sem] def d9p:=fun x0 x1=>nm' (fP' b3k rfl (x0,x1))
def c2c(arity:Int)(rows:List d3)(hpre:rows.length<=100000/\∀x∈rows,okL x.V/\x.V.length<1000):spZ 157 [(false,[.i .i64 arity]),(false,[n9 rows])] [] (.tup [(true,[.i .i64 (((a6d arity rows).1).Arity),n9 (((a6d arity rows).1).Rows)]),(false,[.b ((a6d arity rows).2)])]):=by
 exact a1h (b3U arity rows hpre) z0M
noncomputable def a4y:CT:=k8 (fun(x:Int×(List d3)) h=>c2c x.1 x.2 h)
@[go_sem] def d4X:=fun x0 x1=>nm' (fP' a4y rfl (x0,x1))
def c7b(l:List d3):Lib.compact (a1R s6 l)=m8 s6 [] l:=
 a4d a3k (SS.puts a3k SS.nil) fun x=>by rw[o8];simp
end Go.Aw
namespace Go.Aw
open Go.Proofs
attribute [local irreducible] aft blk lpK retK AW A0d
set_option linter.all false
set_option maxRecDepth 100000
set_option maxHeartbeats 4000000
attribute [local irreducible] RM
def b1o(r:d3)(hpre:r.V.length<1000000):spZ 177 [(true,[o5 r.V])] [] (.one (true,[a5t r.V])):=by
 refine sy' Tryz.func177 (q' 1 [aX 1 0,aw [.sl l9]] (q' 3 [ao (.bsl 2 0 [.i .i64,.s] []),aG 0 1,ao (.app 2 24 [.i .i64,.s] (.t 3) (.t 5)),ao (.bld [.sl l9] [(0,1,.t 6)]),aS 1 2 7] .ret)) [.c 2 true 1] [] ?_;intro hb hE;simp only[go_sem];repeat' first|apply cj'|intro hc|exact om'|fail
noncomputable def b1d:CT:=k8 (fun(x:d3) h=>b1o x h)
@[go_sem] def d7N:=fun x0=>nm' (fP' b1d rfl ⟨x0⟩)
def b8W(r:d3)(hpre:r.V.length<1000000):spZ 177 [(true,[o5 r.V])] [] (.one (true,[o5 r.V])):=by
 exact a1h (b1o r hpre) z0M
noncomputable def a3N:CT:=k8 (fun(x:d3) h=>b8W x h)
@[go_sem] def d3p:=fun x0=>nm' (fP' a3N rfl ⟨x0⟩)
def a7w{l:List d3}{r:d3}:a0K l r=true↔r∈l:=by
 rw[a0K,q3F];constructor
 ·rintro⟨x,hx,h⟩;have h2:=of_decide_eq_true h;obtain rfl:x=r:=by cases x;cases r;simp_all
  exact hx
 ·exact fun h=>⟨r,h,z0D⟩
def b6s(e:d6)(args:List d5)(hpre:args.length<=6):spZ 248 [(true,[w4 e.Binds]),(false,[l8 args])] [] (.tup [(true,[o5 (((y8 e args).1).V)]),(false,[.b ((y8 e args).2)])]):=by
 exact a1h (a9P e args hpre) z0M
noncomputable def a6L:CT:=k8 (fun(x:d6×(List d5)) h=>b6s x.1 x.2 h)
@[go_sem] def d1Z:=fun x0 x1=>nm' (fP' a6L rfl (⟨x0⟩,x1))
def c5k(l:List d3)(r:d3)(hpre:l.length<=100000/\(okL r.V/\r.V.length<1000)/\∀x∈l,okL x.V):spZ 107 [(false,[n9 l]),(true,[o5 r.V])] [] (.one (false,[n9 (a1f s6 l r)])):=by
 refine sx' false true none Tryz.func107 (q' 3 [aX 1 1,ao (.mov (.k (.v false [.nl i5])))] (.seq (q' 8 [am 0,ae 1 3,ac 176 [8,9]] (ci 10 (q' 11 [am 0,aV 4] .ret))) (q' 12 [ao (.bsl 1 0 [.sl l9] []),aV 5] (q' 6 [aU false] (.seq (q' 13 [am 0,aN,aK 0] (fO 0 16 [ar 15 14] 16 1 (q' 17 [am 15,aV 7] (.seq (.seq (G' 18 [am 6,aO 18,am 19,aH 20 true [be 1 3,bm 0,bm 7,bI 1,bE 1,bc 178 [21,25],bC .eql 26 (-1)],aP 20 27]) (ci 28 (q' 29 [am 5,ae 1 3,ac 177 [30],ao (.bsl 1 1 [.sl l9] [(0,.t 31)]),ao (.app 1 24 [.sl l9] (.t 29) (.t 32)),aV 5] (g' 6 [aU true])))) (g' 34 [aM [5,0,7],aI 1,aE 1,ao (.bsl 1 1 [.sl l9] [(0,.t 38)]),ao (.app 1 24 [.sl l9] (.t 34) (.t 39)),aV 5]))) (g' 41 [aA 15]))) (.seq (q' 42 [am 6,aO 42] (ci 43 (g' 44 [am 5,ae 1 3,ac 177 [45],ao (.bsl 1 1 [.sl l9] [(0,.t 46)]),ao (.app 1 24 [.sl l9] (.t 44) (.t 47)),aV 5]))) (q' 49 [am 5,aV 4] .ret))))))) [.t 4] [(176,[],a3q),(178,[],a3M),(177,[],a3N)] ?_;intro hb hE;obtain⟨hlen,⟨hr,hrl⟩,hl0⟩:=hpre;simp only[go_sem];repeat' first|apply cj'|intro hc|exact om'|fail
 ·rw[a1f,if_pos (a7w.1 hc)]
 have hN:¬r∈l:=fun h=>by rw[a7w.2 h]at hc;cases hc
 clear hc;refine lk' false [(false,5,0,100010)] [0,3,14] [6] [] (fun i:{i:Nat // i<=l.length}=>[(5,.v false [.ow 100010]),(6,slV (.b ((l.take i.1).any (s6 r)))),(15,slV (.i .i64 i.1))]) nl' (fun i=>[(100010,i5,(a1A s6 r (l.take i.1)).map (d3.cells false false))]) (fun i=>l.length-i.1) (⟨0,z0D⟩) ?_;intro S0 hS0 i;obtain⟨i,hi⟩:=i;have hl:=b9v s6 r (l.take i);rw[V1]at hl;have hC:=fun(h:i<l.length)=>hl0 _ (u7 (l:=l) default h)
 have hx:=fun(h:i<l.length)=>j3 (l:=l) default (i:=i) h
 simp only[go_sem,hS0];repeat' first|apply cj'|intro hc|exact om'|fail
 ·have h5:s6 r (l.getD i default)=true:=by rw[<-b9z hr (hC z0C)];exact hc.2
  have h1:(l.take (i+1)).any (s6 r)=true:=by rw[hx z0C,q2A,hc.1,q2L,h5];rfl
  have h2:a1A s6 r (l.take (i+1))=a1A s6 r (l.take i)++[r]++[l.getD i default]:=by rw[hx z0C,b9u hc.1 h5]
  (refine lpK_n2 (⟨i+1,z0C⟩) _ z0E ?_;simp only[go_sem,hS0]<;>repeat' first|apply W6|exact on'|fail)
  all_goals first|rw[h1]|rw[h2]|trace_state
 ·have h3:(l.take (i+1)).any (s6 r)=(l.take i).any (s6 r)/\a1A s6 r (l.take (i+1))=a1A s6 r (l.take i)++[l.getD i default]:=by
   rw[hx z0C];cases h:(l.take i).any (s6 r)with
   | true=>exact⟨z2I,b3E h⟩
   | false=>
     rw[h,b9z hr (hC z0C)]at hc;have hc2:s6 r (l.getD i default)=false:=hc;exact⟨z1X,c7y h hc2⟩
  (refine lpK_n2 (⟨i+1,z0C⟩) _ z0E ?_;simp only[go_sem,hS0]<;>repeat' first|apply W6|exact on'|fail)
  all_goals first|rw[h3.1]|rw[h3.2]|trace_state
 ·rw[i4 z0C]at hc ⊢;rw[b3G hN hc]
 ·rw[i4 z0C]at hc ⊢;rw[b3F hN hc]
noncomputable def a3r:CT:=k8 (fun(x:(List d3)×d3) h=>c5k x.1 x.2 h)
@[go_sem] def d7P:=fun l x0=>nm' (fP' a3r rfl (l,⟨x0⟩))
noncomputable def a3Y(r:c8)(s:c4):List d3:=(o7 r s).1.map fun e=>(y8 e r.Head.Args).1
noncomputable def a0i(r:c8)(s:c4):d8×Bool:=bif (o7 r s).2 then a6d r.Head.Args.length (a3Y r s)else(default,false)
def a3g{r:c8}(h:k7 r=true):r.Head.Args.all z9=true/\r.Head.Args.length<=6:=by
 simp only[k7,a4p,K7]at h;exact⟨h.1.1.2.2,z0C⟩
def b4q{r:c8}{s:c4}(hr:k7 r=true)(hs:j6 s=true):(a3Y r s).length<=2000/\∀x∈a3Y r s,okL x.V/\x.V.length<1000:=by
 refine⟨by rw[a3Y,q0F];exact(a8H hr hs).1,fun x hx=>?_⟩;obtain⟨e,he,rfl⟩:=q0X.1 hx;obtain⟨_,_,vs,hv⟩:=a3h hr hs;have h1:EnvS e.Binds:=by
  rw[o7]at he;cases hj:(a1j r s).2 with
  | false=>rw[hj]at he;cases he
  | true=>
    rw[hj,W8]at he;exact(hv e ((o8.1 he).resolve_left (by intro h;cases h))).1
 have h2:=c1o h1 (a3g hr).1 (a3g hr).2;have h3:=(b6E h2).1;exact⟨a0j h2,by
  have:(y8 e r.Head.Args).1.V.length<=6:=h3;omega⟩
def b3Q(r:c8)(s:c4)(hpre:k7 r=true/\j6 s=true):spZ 147 [(true,[.i .i64 r.Kind,.s r.Head.Name,l8 r.Head.Args,a0g r.Body]),(true,[i6 s.Rels])] [] (.tup [(true,[.i .i64 (((a0i r s).1).Arity),a4Q (((a0i r s).1).Rows)]),(false,[.b ((a0i r s).2)])]):=by
 refine sx' true false none Tryz.func147 (q' 2 [aX 4 0,aX 1 1,aw [.i .i64,.sl i5],aU false] (q' 14 [ae 4 2,ae 1 3,ac 208 [14,15],aV 13,aZ 13 0,aZ 13 1,av 6 17,aV 7] (.seq (q' 19 [am 7,aO 19] (ci 20 (q' 21 [ao (.bld [.i .i64,.sl i5] []),aS 2 4 21,ab 5 false] .ret))) (q' 22 [ao (.bsl 1 0 [.sl l9] []),aV 8] (.seq (q' 23 [am 6,aN,aK 0] (fO 0 26 [ar 25 24] 26 1 (q' 27 [ai 1 23 25,aE 1,ax (w' 10 [.sl j5]),aS 1 10 28] (q' 30 [ae 1 10,af 1 2,aG 1 31,ac 209 [30,33],aV 29,aZ 29 0,aZ 29 1,ax (w' 11 [.sl l9]),aS 1 11 35,aV 12] (g' 37 [am 8,ae 1 11,ao (.bsl 1 1 [.sl l9] [(0,.t 38)]),ao (.app 1 24 [.sl l9] (.t 37) (.t 39)),aV 8]))) (g' 41 [aA 25]))) (q' 42 [af 1 2,aG 1 42,aN,am 8,ac 157 [45,46],aZ 47 0,aZ 47 1,aS 2 4 48,aV 5] .ret)))))) [.c 4 true 2,.t 5] [(208,[],b0K),(209,[],a8Y),(157,[],b3k)] ?_;intro hb hE;have hpre0:=hpre;obtain⟨hr,hs⟩:=hpre;have hH:=a3g hr;have hB:=a8H hr hs;have hR:=b4q hr hs;simp only[go_sem];repeat' first|apply cj'|intro hc|exact om'|fail
 ·rw[a0i,hc];exact⟨⟨rfl,rfl⟩,rfl⟩
 refine a7h 2048 ?_;refine lk' true [(false,8,0,100016)] [2,4,23,24] [4,8] [] (fun i:{i:Nat // i<=(o7 r s).1.length}=>[(8,.v false [.ow 100016]),(25,slV (.i .i64 i.1))]) nl' (fun i=>[(100016,b1r,(((o7 r s).1.take i.1).map fun e=>(y8 e r.Head.Args).1).map (d3.cells true true))]) (fun i=>(o7 r s).1.length-i.1) (⟨0,z0D⟩) ?_;intro S0 hS0 i;obtain⟨i,hi⟩:=i;have hol:((o7 r s).1.take i).length=i:=by rw[V1];omega
 have hsn:i<(o7 r s).1.length->(o7 r s).1.take (i+1)=(o7 r s).1.take i++[(o7 r s).1.getD i default]:=fun h=>j3 default h
 simp only[go_sem,hS0];repeat' first|apply cj'|intro hc|exact om'|fail
 ·(refine lpK_n2 (⟨i+1,z0C⟩) _ z0E ?_;simp only[go_sem,hS0]<;>repeat' first|apply W6|exact on'|fail)
  all_goals(rw[hsn z0C];simp only[q1F,q0E,q1C])
 ·rw[i4 z0C];exact⟨by have:=hB.1;omega,hR.2⟩
 ·rw[i4 z0C,a0i,(by assumption:(o7 r s).2=true)];exact⟨⟨rfl,rfl⟩,rfl⟩
noncomputable def c6X:CT:=k8 (fun(x:c8×c4) h=>b3Q x.1 x.2 h)
@[go_sem] def d9j:=fun x0 x1 x2 x3 x4=>nm' (fP' c6X rfl (⟨x0,⟨x1,x2⟩,x3⟩,⟨x4⟩))
noncomputable def a2N(r:c8)(s:c4):d8:=⟨r.Head.Args.length,m8 s6 [] (a3Y r s)⟩
def b9k(r:c8)(s:c4)(hpre:k7 r=true/\j6 s=true):spZ 197 [(true,[.i .i64 r.Kind,.s r.Head.Name,l8 r.Head.Args,a0g r.Body]),(true,[i6 s.Rels])] [] (.tup [(true,[.i .i64 (((a2N r s,(o7 r s).2).1).Arity),n9 (((a2N r s,(o7 r s).2).1).Rows)]),(false,[.b ((a2N r s,(o7 r s).2).2)])]):=by
 refine sx' false true none Tryz.func197 (q' 2 [aX 4 0,aX 1 1,aw [.i .i64,.sl i5],aU false] (q' 13 [ae 4 2,ae 1 3,ac 247 [13,14],aV 12,aZ 12 0,aZ 12 1,av 6 16,aV 7] (q' 18 [af 1 2,aG 1 18,aN,ao (.bld [.i .i64,.sl i5] [(0,1,.t 21)]),ax (w' 8 [.i .i64,.sl i5]),aS 2 8 22] (.seq (q' 23 [am 6,aN,aK 0] (fO 0 26 [ar 25 24] 26 1 (q' 27 [am 25,aV 9] (.seq (rm' [(true,0,m' 29 6),(true,1,m' 30 9),(true,2,i' 31 1 29 30), (true,3,e' 32 1 31),(true,4,f' 33 1 2),(true,5,f' 34 1 33),(true,6,l' 35 34),(false,7,c' 36 248 [32,35]),(false,8,m' 28 36),(false,9,o' 37 (.ext (.t 28) 0)),(false,10,o' 38 (.ext (.t 28) 1)),(false,11,w' 10 [.sl l9]),(false,12,s' 1 10 37),(false,13,m' 11 38)] [[0, 1,2,3,4,5,6,7,8,9,11,10,12,13],[0,1,2,3,4,5,6,7,8,9,11,12,10,13],[0,1,2,3,4,5,6,7,8,10,9,11,12,13],[0,1,2,3,4,5, 6,7,8,10,11,9,12,13],[0,1,2,3,4,5,6,7,8,11,9,10,12,13],[0,1,2,3,4,5,6,7,8,11,9,12,10,13],[0,1,2,3,4,5,6,7,8,11, 10,9,12,13],[0,1,2,3,4,5,6,7,11,8,9,10,12,13],[0,1,2,3,4,5,6,7,11,8,9,12,10,13],[0,1,2,3,4,5,6,7,11,8,10,9,12, 13],[0,1,2,3,4,5,6,11,7,8,9,10,12,13],[0,1,2,3,4,5,6,11,7,8,9,12,10,13],[0,1,2,3,4,5,6,11,7,8,10,9,12,13]] [4,5]) (g' 39 [aG 1 8,ae 1 10,ac 107 [40,41],af 1 8,aS 1 43 42]))) (g' 44 [aA 25]))) (q' 45 [ae 2 8,am 7,aS 2 4 45,aV 5] .ret))))) [.c 4 true 2,.t 5] [(247,[],a6M),(248,[],a6L),(107,[],a3r)] ?_;intro hb hE;have hpre0:=hpre;obtain⟨hr,hs⟩:=hpre;have hH:=a3g hr;have hB:=a8H hr hs;have hR:=b4q hr hs;simp only[go_sem];(repeat' first|apply cj'|intro hc|apply a0f);(all_goals(try(refine(show A3F _ _ _ _ _ _ from ?_);simp only[go_sem]at hc ⊢;simp only[go_sem,K0]at hc ⊢;simp only[hc,K5];done)));all_goals try exact om'
 refine b9r false [(true,16,1,200032)] ?_;refine a7h 200032 ?_;refine lq' false [2,4,6,7,8,24] [4,8,5] [] (fun i:{i:Nat // i<=(o7 r s).1.length}=>[(25,slV (.i .i64 i.1))]) (fun i=>[(16,[.c (.i .i64 r.Head.Args.length),.c (n9 (m8 s6 [] ((a3Y r s).take i.1)))])]) nl' (fun i=>(o7 r s).1.length-i.1) (⟨0,z0D⟩) ?_;intro S0 hS0 i;obtain⟨i,hi⟩:=i;have hrl:(a3Y r s).length=(o7 r s).1.length:=by rw[a3Y,q0F]
 have hrg:i<(o7 r s).1.length->(a3Y r s).getD i default=(y8 ((o7 r s).1.getD i default) r.Head.Args).1:=fun h=>by
  rw[a3Y,W5,q3K,V6 h,W5,V6 h];rfl
 have hsn:i<(o7 r s).1.length->m8 s6 [] ((a3Y r s).take (i+1))=a1f s6 (m8 s6 [] ((a3Y r s).take i)) (y8 ((o7 r s).1.getD i default) r.Head.Args).1:=fun h=>by
  rw[j3 default (show i<(a3Y r s).length by omega),hrg h,m8,q3A];rfl
 have hpl:=a0M s6 ((a3Y r s).take i) [];rw[V1,q1Z]at hpl;simp only[go_sem,hS0];(repeat' first|apply cj'|intro hc|apply a0f);(all_goals(try((first|refine RM_RS (o9 0 10 (q0B rfl) rfl ?_ (o9 0 11 (q0B rfl) rfl ?_ (o9 2 9 (q0B rfl) rfl ?_ (o9 0 10 (q0B rfl) rfl ?_ (o9 3 9 (q0B rfl) rfl ?_ (o9 0 11 (q0B rfl) rfl ?_ (o9 1 10 (q0B rfl) rfl ?_ (o9 2 8 (q0B rfl) rfl ?_ (o9 0 11 (q0B rfl) rfl ?_ (o9 1 10 (q0B rfl) rfl ?_ (o9 2 7 (q0B rfl) rfl ?_ (o9 0 11 (q0B rfl) rfl ?_ (o9 1 10 (q0B rfl) rfl ?_ d2C))))))))))))))<;>(intro S hS B0 hB;simp only[go_sem,hS0,q1R,q2I,K6,q0H,q0P,q1P,q1O]at hS hB;(repeat(first|replace hS:=And.right hS|replace hS:=CJ.r hS));have Rr32:=congrArg (fun s:St=>s.sl 32) hS;have Rr35:=congrArg (fun s:St=>s.sl 35) hS;have Rr28:=congrArg (fun s:St=>s.sl 28) hS;have Rr36:=congrArg (fun s:St=>s.sl 36) hS;have Rr37:=congrArg (fun s:St=>s.sl 37) hS;have Rr38:=congrArg (fun s:St=>s.sl 38) hS;have Rr10:=congrArg (fun s:St=>s.sl 10) hS;have Rr11:=congrArg (fun s:St=>s.sl 11) hS;have Rb4:=congrArg (fun s:St=>s.bx 4) hS;have Rb5:=congrArg (fun s:St=>s.bx 5) hS;have Rb20:=congrArg (fun s:St=>s.bx 20) hS;clear hS;simp only[go_sem,hS0]at Rr32 Rr35 Rr28 Rr36 Rr37 Rr38 Rr10 Rr11 Rb4 Rb5 Rb20;(try clear hc);intro K hc;simp only[go_sem,hS0,Rr32,Rr35,Rr28,Rr36,Rr37,Rr38,Rr10,Rr11,Rb4,Rb5,Rb20,hB,q1R,q2I,K6,q0H,q0P,q1P,q1O]at hc ⊢;simp only[go_sem,hS0,Rr32,Rr35,Rr28,Rr36,Rr37,Rr38,Rr10,Rr11,Rb4,Rb5,Rb20,hB,K0]at hc ⊢;simp only[hc,K5];done))));all_goals try exact om'
 ·refine⟨⟨⟨z0C, ?_⟩, ?_⟩,fun x hx=>?_⟩
  ·rw[<-hrg z0C];exact(hR.2 _ (u7 default z0C)).1
  ·rw[<-hrg z0C];exact(hR.2 _ (u7 default z0C)).2
  ·exact(hR.2 x (q1V ((o8.1 hx).resolve_left (by intro h;cases h)))).1
 ·(refine lpK_n2 (⟨i+1,z0C⟩) _ rfl ?_;simp only[go_sem,hS0]<;>repeat' first|apply W6|exact on'|fail)
  all_goals rw[hsn z0C]
 ·rw[i4 z0C];exact⟨rfl,rfl⟩
noncomputable def a8l:CT:=k8 (fun(x:c8×c4) h=>b9k x.1 x.2 h)
@[go_sem] def d3C:=fun x0 x1 x2 x3 x4=>nm' (fP' a8l rfl (⟨x0,⟨x1,x2⟩,x3⟩,⟨x4⟩))
def a7B{p:c6}(h:y6 p=true):(∀r∈p.Rules,k7 r=true)/\p.Rules.length<=24:=by
 simp only[y6,K7,q0K]at h;exact⟨h.2,z0C⟩
def a6T(s:c4)(hpre:s.Rels.length<=1000/\∀x∈s.Rels,x.Rel.Rows.length<=100000/\∀y∈x.Rel.Rows,y.V.length<1000):spZ 95 [(true,[i6 s.Rels])] [] (.one (true,[a4f s.Rels])):=by
 refine sx' true false none Tryz.func95 (q' 1 [aX 1 0,aw [.sl i7]] (q' 3 [ax (o' 6 (.bld [.sl i7] [])),aw [.sl i7],aS 1 3 6] (.seq (q' 7 [aG 0 1,aN,aK 0] (fO 0 11 [ar 10 9] 11 1 (q' 12 [ai 3 8 10,aE 3,ax (w' 5 [.s,.i .i64,.sl i5]),aS 3 5 13] (rm' [(true,2,f' 16 0 5),(true,3,l' 17 16), (true,4,f' 18 1 5),(true,5,e' 19 2 18),(false,0,f' 14 0 3),(false,1,l' 15 14),(false,6,c' 20 170 [19]),(false,7,o' 21 (.bld [.s,.i .i64,.sl i5] [(0,1,.t 17),(1,2,.t 20)])),(false,8,o' 22 (.bsl 3 1 [.s,.i .i64,.sl i5] [(0,.t 21)])),(false,9,o' 23 (.app 3 48 [.s,.i .i64,.sl i5] (.t 15) (.t 22))),(false,10,f' 24 0 3),(false,11,s' 1 24 23)] [[0,1,2,3,4,6,5,7,8,9,10,11],[0,1,2,3,4,6,7,5,8,9,10,11],[0,1,2,3,4,6,7,8,5,9,10,11],[0,1,2,3,6,4,5,7,8,9,10, 11],[0,1,2,3,6,4,7,5,8,9,10,11],[0,1,2,3,6,4,7,8,5,9,10,11],[0,1,2,3,6,7,4,5,8,9,10,11],[0,1,2,3,6,7,4,8,5,9, 10,11],[0,1,2,3,6,7,8,4,5,9,10,11]] [10,11])) (g' 25 [aA 10]))) (q' 26 [ae 1 3,aS 1 2 26] .ret)))) [.c 2 true 1] [(170,[],a4t)] ?_;intro hb hE;obtain⟨hl,hv⟩:=hpre;simp only[go_sem];(repeat' first|apply cj'|intro hc|apply a0f);(all_goals(try(refine(show A3F _ _ _ _ _ _ from ?_);simp only[go_sem]at hc ⊢;simp only[go_sem,K0]at hc ⊢;simp only[hc,K5];done)));all_goals try exact om'
 refine lk' true [(true,6,0,200012)] [2,3,8,9] [4,11] [] (fun i:{i:Nat // i<=s.Rels.length}=>[(10,slV (.i .i64 i.1))]) (fun i=>[(6,[.ow 200012])]) (fun i=>[(200012,b0v,(s.Rels.take i.1).map (c9.cells true true))]) (fun i=>s.Rels.length-i.1) (⟨0,z0D⟩) ?_;intro S0 hS0 i;obtain⟨i,hi⟩:=i;have hm:=fun(h:i<s.Rels.length)=>hv _ (u7 default h)
 have hol:(s.Rels.take i).length=i:=by rw[V1];omega
 have hsn:i<s.Rels.length->s.Rels.take (i+1)=s.Rels.take i++[s.Rels.getD i default]:=fun h=>j3 default h
 simp only[go_sem,hS0];(repeat' first|apply cj'|intro hc|apply a0f);(all_goals(try((first|refine a0B 4 rfl ?_);intro S hS B0 hB;simp only[go_sem,hS0,K6]at hS hB;(repeat(first|replace hS:=And.right hS|replace hS:=CJ.r hS));have Rr3:=congrArg (fun s:St=>s.sl 3) hS;have Rr17:=congrArg (fun s:St=>s.sl 17) hS;have Rr19:=congrArg (fun s:St=>s.sl 19) hS;have Rb6:=congrArg (fun s:St=>s.bx 6) hS;have Rb10:=congrArg (fun s:St=>s.bx 10) hS;have Rb11:=congrArg (fun s:St=>s.bx 11) hS;have Ro200012:=congrArg (fun s:St=>s.ow 200012) hS;clear hS;simp only[go_sem,hS0]at Rr3 Rr17 Rr19 Rb6 Rb10 Rb11 Ro200012;(try clear hc);intro K hc;simp only[go_sem,hS0,Rr3,Rr17,Rr19,Rb6,Rb10,Rb11,Ro200012,hB,K3]at hc ⊢;simp only[go_sem,hS0,Rr3,Rr17,Rr19,Rb6,Rb10,Rb11,Ro200012,hB,K0]at hc ⊢;(first|(simp only[hc,K5];done)|((repeat' first|exact hc|apply W6);done)))));all_goals try exact om'
 ·exact⟨by have:=(hm z0C).1;omega,(hm z0C).2⟩
 ·(refine lpK_n2 (⟨i+1,z0C⟩) _ z0E ?_;simp only[go_sem,hS0]<;>repeat' first|apply W6|exact on'|fail)
  all_goals rw[hsn z0C]
 ·rw[i4 z0C]
noncomputable def a6m:CT:=k8 (fun(x:c4) h=>a6T x h)
@[go_sem] def d1v:=fun x0=>nm' (fP' a6m rfl ⟨x0⟩)
def b1X(s:c4)(hpre:s.Rels.length<=1000/\∀x∈s.Rels,x.Rel.Rows.length<=100000/\∀y∈x.Rel.Rows,y.V.length<1000):spZ 95 [(true,[i6 s.Rels])] [] (.one (true,[i6 s.Rels])):=by
 exact a1h (a6T s hpre) z0M
noncomputable def a4u:CT:=k8 (fun(x:c4) h=>b1X x h)
@[go_sem] def c8D:=fun x0=>nm' (fP' a4u rfl ⟨x0⟩)
def c2G(r:d8)(hpre:r.Rows.length<=100000/\∀x∈r.Rows,x.V.length<1000):spZ 169 [(true,[.i .i64 r.Arity,n9 r.Rows])] [] (.one (true,[.i .i64 r.Arity,n9 r.Rows])):=by
 refine sx' false true none Tryz.func169 a7H [.c 2 true 2] [(177,[],a3N)] ?_;intro hb hE;obtain⟨hl,hv⟩:=hpre;simp only[go_sem];(repeat' first|apply cj'|intro hc|apply a0f);(all_goals(try(refine(show A3F _ _ _ _ _ _ from ?_);simp only[go_sem]at hc ⊢;simp only[go_sem,K0]at hc ⊢;simp only[hc,K5];done)));all_goals try exact om'
 refine lk' false [(true,6,1,200012)] [1,2,3,10] [2,4,3] [] (fun i:{i:Nat // i<=r.Rows.length}=>[(11,slV (.i .i64 i.1))]) (fun i=>[(6,[.c (.i .i64 r.Arity),.ow 200012])]) (fun i=>[(200012,i5,(r.Rows.take i.1).map (d3.cells false false))]) (fun i=>r.Rows.length-i.1) (⟨0,z0D⟩) ?_;intro S0 hS0 i;obtain⟨i,hi⟩:=i;have hm:=fun(h:i<r.Rows.length)=>hv _ (u7 default h)
 have hol:(r.Rows.take i).length=i:=by rw[V1];omega
 have hsn:i<r.Rows.length->r.Rows.take (i+1)=r.Rows.take i++[r.Rows.getD i default]:=fun h=>j3 default h
 simp only[go_sem,hS0];(repeat' first|apply cj'|intro hc|apply a0f);(all_goals(try((first|refine a0B 5 rfl ?_);intro S hS B0 hB;simp only[go_sem,hS0,K6]at hS hB;(repeat(first|replace hS:=And.right hS|replace hS:=CJ.r hS));have Rr3:=congrArg (fun s:St=>s.sl 3) hS;have Rr20:=congrArg (fun s:St=>s.sl 20) hS;have Rb6:=congrArg (fun s:St=>s.bx 6) hS;have Rb2:=congrArg (fun s:St=>s.bx 2) hS;have Rb3:=congrArg (fun s:St=>s.bx 3) hS;have Ro200012:=congrArg (fun s:St=>s.ow 200012) hS;clear hS;simp only[go_sem,hS0]at Rr3 Rr20 Rb6 Rb2 Rb3 Ro200012;(try clear hc);intro K hc;simp only[go_sem,hS0,Rr3,Rr20,Rb6,Rb2,Rb3,Ro200012,hB,K3]at hc ⊢;simp only[go_sem,hS0,Rr3,Rr20,Rb6,Rb2,Rb3,Ro200012,hB,K0]at hc ⊢;(first|(simp only[hc,K5];done)|((repeat' first|exact hc|apply W6);done)))));all_goals try exact om'
 ·(refine lpK_n2 (⟨i+1,z0C⟩) _ z0E ?_;simp only[go_sem,hS0]<;>repeat' first|apply W6|exact on'|fail)
  all_goals rw[hsn z0C]
 ·rw[i4 z0C]
noncomputable def a1w:CT:=k8 (fun(x:d8) h=>c2G x h)
@[go_sem] def b3v:=fun x0 x1=>nm' (fP' a1w rfl ⟨x0,x1⟩)
def c2H(s:c4)(hpre:s.Rels.length<=1000/\∀x∈s.Rels,x.Rel.Rows.length<=100000/\∀y∈x.Rel.Rows,y.V.length<1000):spZ 94 [(true,[i6 s.Rels])] [] (.one (true,[i6 s.Rels])):=by
 refine sx' false true none Tryz.func94 (q' 1 [aX 1 0,aw [.sl i7]] (q' 3 [ax (o' 5 (.bld [.sl i7] [])),aw [.sl i7],aS 1 3 5] (.seq (q' 6 [aG 0 1,aN,aK 0] (fO 0 10 [ar 9 8] 10 1 (q' 11 [am 9,aV 4] (rm' [(true,2,f' 14 0 1),(true,3,l' 15 14),(true,4,m' 16 4),(true,5,i' 17 3 15 16),(true,6,f' 18 0 17),(true,7,l' 19 18),(true,8,f' 20 0 1),(true,9,l' 21 20),(true,10,m' 22 4),(true,11,i' 23 3 21 22),(true,12,f' 24 1 23),(true,13,e' 25 2 24),(false,0, f' 12 0 3),(false,1,l' 13 12),(false,14,c' 26 169 [25]),(false,15,o' 27 (.bld [.s,.i .i64,.sl i5] [(0,1,.t 19), (1,2,.t 26)])),(false,16,o' 28 (.bsl 3 1 [.s,.i .i64,.sl i5] [(0,.t 27)])),(false,17,o' 29 (.app 3 48 [.s,.i .i64, .sl i5] (.t 13) (.t 28))),(false,18,f' 30 0 3),(false,19,s' 1 30 29)] [[0,1,2,3,4,5,6,7,8,9,10,11,12,14,13, 15,16,17,18,19],[0,1,2,3,4,5,6,7,8,9,10,11,12,14,15,13,16,17,18,19],[0,1,2,3,4,5,6,7,8,9,10,11,12,14,15,16,13,17, 18,19],[0,1,2,3,4,5,6,7,8,9,10,11,14,12,13,15,16,17,18,19],[0,1,2,3,4,5,6,7,8,9,10,11,14,12,15,13,16,17,18,19],[0, 1,2,3,4,5,6,7,8,9,10,11,14,12,15,16,13,17,18,19],[0,1,2,3,4,5,6,7,8,9,10,11,14,15,12,13,16,17,18,19],[0,1,2,3,4,5, 6,7,8,9,10,11,14,15,12,16,13,17,18,19],[0,1,2,3,4,5,6,7,8,9,10,11,14,15,16,12,13,17,18,19]] [2,3])) (g' 31 [aA 9]))) (q' 32 [ae 1 3,aS 1 2 32] .ret)))) [.c 2 true 1] [(169,[],a1w)] ?_;intro hb hE;obtain⟨hl,hv⟩:=hpre;simp only[go_sem];(repeat' first|apply cj'|intro hc|apply a0f);(all_goals(try(refine(show A3F _ _ _ _ _ _ from ?_);simp only[go_sem]at hc ⊢;simp only[go_sem,K0]at hc ⊢;simp only[hc,K5];done)));all_goals try exact om'
 refine lk' false [(true,6,0,200012)] [1,2,3,8] [2,4,3] [] (fun i:{i:Nat // i<=s.Rels.length}=>[(9,slV (.i .i64 i.1))]) (fun i=>[(6,[.ow 200012])]) (fun i=>[(200012,i7,(s.Rels.take i.1).map (c9.cells false false))]) (fun i=>s.Rels.length-i.1) (⟨0,z0D⟩) ?_;intro S0 hS0 i;obtain⟨i,hi⟩:=i;have hm:=fun(h:i<s.Rels.length)=>hv _ (u7 default h)
 have hol:(s.Rels.take i).length=i:=by rw[V1];omega
 have hsn:i<s.Rels.length->s.Rels.take (i+1)=s.Rels.take i++[s.Rels.getD i default]:=fun h=>j3 default h
 simp only[go_sem,hS0];(repeat' first|apply cj'|intro hc|apply a0f);(all_goals(try((first|refine a0B 12 rfl ?_);intro S hS B0 hB;simp only[go_sem,hS0,K6]at hS hB;(repeat(first|replace hS:=And.right hS|replace hS:=CJ.r hS));have Rr3:=congrArg (fun s:St=>s.sl 3) hS;have Rr19:=congrArg (fun s:St=>s.sl 19) hS;have Rr25:=congrArg (fun s:St=>s.sl 25) hS;have Rb6:=congrArg (fun s:St=>s.bx 6) hS;have Rb2:=congrArg (fun s:St=>s.bx 2) hS;have Rb3:=congrArg (fun s:St=>s.bx 3) hS;have Ro200012:=congrArg (fun s:St=>s.ow 200012) hS;clear hS;simp only[go_sem,hS0]at Rr3 Rr19 Rr25 Rb6 Rb2 Rb3 Ro200012;(try clear hc);intro K hc;simp only[go_sem,hS0,Rr3,Rr19,Rr25,Rb6,Rb2,Rb3,Ro200012,hB,K3]at hc ⊢;simp only[go_sem,hS0,Rr3,Rr19,Rr25,Rb6,Rb2,Rb3,Ro200012,hB,K0]at hc ⊢;(first|(simp only[hc,K5];done)|((repeat' first|exact hc|apply W6);done)))));all_goals try exact om'
 ·exact hm (by omega)
 ·(refine lpK_n2 (⟨i+1,z0C⟩) _ z0E ?_;simp only[go_sem,hS0]<;>repeat' first|apply W6|exact on'|fail)
  all_goals rw[hsn z0C]
 ·rw[i4 z0C]
noncomputable def a2I:CT:=k8 (fun(x:c4) h=>c2H x h)
@[go_sem] def d5D:=fun x0=>nm' (fP' a2I rfl ⟨x0⟩)
set_option maxHeartbeats 40000000
def b6C(l:List c9)(n:List UInt8):∃A B,l=A++B/\a4Z l n=(A.length:Nat)/\(∀v,a2e l n v=A++v::B.filter fun x=>!(x.Name==n))/\(∀x∈A,sLt x.Name n=true)/\(∀b B',B=b::B'->sLt b.Name n=false):=
 ⟨l.takeWhile fun x=>sLt x.Name n,l.dropWhile fun x=>sLt x.Name n,q1Q.symm,c8o l n,fun v=>a7D l n v,fun x hx=>c8w (q:=fun x:c9=>sLt x.Name n) hx,fun b B' h=>a1y (p:=fun x:c9=>sLt x.Name n) h⟩
def d4p{A B:List c9}{b:c9}(hs:SS sLt ((A++b::B).map c9.Name)):∀x∈B,sLt b.Name x.Name=true:=by
 have h:=(q5H.1 (q3R.1 hs)).2.1;exact(q3Y.1 h).1
def set_at{l:List c9}{n:List UInt8}{v:c9}(hs:SS sLt (l.map c9.Name))(h:a4Z l n<l.length)(hn:(l.getD (a4Z l n).toNat default).Name=n):l.set (a4Z l n).toNat v=a2e l n v:=by
 obtain⟨A,B,rfl,hp,hset,hA,hB⟩:=b6C l n;rw[hp]at h hn ⊢;rw[hset];rw[q4M]at hn ⊢;cases B with
 | nil=>simp at h
 | cons b B=>
   have hb:b.Name=n:=by simpa[List.getD]using hn
   have hf:(b::B).filter (fun x=>!(x.Name==n))=B:=by
    rw[List.filter_cons_of_neg z03,List.filter_eq_self];intro x hx;have h1:=d4p hs x hx;rw[hb]at h1;simpa using fun e:x.Name=n=>o0.ne h1 e.symm
   rw[hf];simp
def e1D{l:List c9}{n:List UInt8}(hs:SS sLt (l.map c9.Name))(h:¬(a4Z l n<l.length/\(l.getD (a4Z l n).toNat default).Name=n)):∀x∈l,¬x.Name=n:=by
 obtain⟨A,B,rfl,hp,hset,hA,hB⟩:=b6C l n;rw[hp,q4M]at h;intro x hx;rcases W9.1 hx with hx|hx
 ·exact o0.ne (hA x hx)
 ·cases B with
  | nil=>cases hx
  | cons b B=>
    have hb:¬b.Name=n:=fun e=>h ⟨z0S,by simpa[List.getD]using e⟩
    have h2:sLt n b.Name=true:=by
     cases h3:sLt n b.Name with
     | true=>rfl
     | false=>exact absurd (o0.tri _ _ (hB b B rfl) h3) hb
    rcases V9.1 hx with rfl|hx
    ·exact hb
    ·exact fun e=>o0.ne (o0.tr _ _ _ h2 (d4p hs x hx)) e.symm
def b1n(s:c4)(n:List UInt8)(r:d8)(hpre:SS sLt (s.Rels.map c9.Name)/\s.Rels.length<=1000):spZ 168 [(true,[i6 s.Rels]),(false,[.s n]),(true,[.i .i64 r.Arity,n9 r.Rows])] [] (.one (true,[b9x ((⟨a2e s.Rels n ⟨n,r⟩⟩:c4).Rels)])):=by
 refine sy' Tryz.func168 b2t [.c 6 true 1] [(223,[],a7i),(224,[],a7j),(226,[0,2],b1P)] ?_;intro hb hE;obtain⟨hs,hlen⟩:=hpre;have hle:=d6k s.Rels n;simp only[go_sem];repeat' first|apply cj'|intro hc|exact om'|fail
 ·rename_i h0;have hp:a4Z s.Rels n=(s.Rels.length:Int):=by rw[a4Z,V0 h0];rfl
  exact congrArg (List.map _) (by rw[<-hp];exact b9w (e1D hs (fun h=>z0C)) _)
 ·rename_i h0;have hp:a4Z s.Rels n=a1a (geN n) s.Rels:=by rw[a4Z,V3 h0];rfl
  have hn:(s.Rels.getD (a1a (geN n) s.Rels).toNat default).Name=n:=by simpa using hc.2
  exact congrArg (List.map _) (by rw[hn];rw[<-hp]at hn hc ⊢;exact set_at hs hc.1 hn)
 ·rename_i h0;rw[a4Z,V3 h0]at hle;simp only[V2]at hle;exact⟨hle,z0C⟩
 ·rename_i h0;have hp:a4Z s.Rels n=a1a (geN n) s.Rels:=by rw[a4Z,V3 h0];rfl
  exact congrArg (List.map _) (by rw[<-hp]at hc ⊢;exact b9w (e1D hs (fun h=>by rw[V0 h.1,h.2]at hc;simp at hc)) _)
noncomputable def c4p:CT:=k8 (fun(x:c4×(List UInt8)×d8) h=>b1n x.1 x.2.1 x.2.2 h)
@[go_sem] def d7q:=fun x0 n x1 x2=>nm' (fP' c4p rfl (⟨x0⟩,n,⟨x1,x2⟩))
def c4M(s:c4)(n:List UInt8)(r:d8)(hpre:SS sLt (s.Rels.map c9.Name)/\s.Rels.length<=1000):spZ 168 [(true,[i6 s.Rels]),(false,[.s n]),(true,[.i .i64 r.Arity,n9 r.Rows])] [] (.one (true,[i6 ((⟨a2e s.Rels n ⟨n,r⟩⟩:c4).Rels)])):=by
 exact a1h (b1n s n r hpre) z0M
noncomputable def a5O:CT:=k8 (fun(x:c4×(List UInt8)×d8) h=>c4M x.1 x.2.1 x.2.2 h)
@[go_sem] def d7p:=fun x0 n x1 x2=>nm' (fP' a5O rfl (⟨x0⟩,n,⟨x1,x2⟩))
def b8X(s:c4)(n:List UInt8)(r:d8)(hpre:(s.Rels.length<=1000/\∀x∈s.Rels,x.Rel.Rows.length<=100000/\∀y∈x.Rel.Rows,y.V.length<1000)/\r.Rows.length<=100000/\∀y∈r.Rows,y.V.length<1000):spZ 108 [(true,[i6 s.Rels]),(false,[.s n]),(true,[.i .i64 r.Arity,n9 r.Rows])] [] (.one (true,[i6 ((⟨a2e s.Rels n ⟨n,r⟩⟩:c4).Rels)])):=by
 refine sx' false true none Tryz.func108 a8D [.c 6 true 1] [(169,[],a1w)] ?_;intro hb hE;obtain⟨⟨hlen,hv⟩,hr⟩:=hpre;simp only[go_sem];(repeat' first|apply cj'|intro hc|apply a0f);(all_goals(try((first|refine a0B 12 rfl ?_|refine a0B 2 rfl ?_);intro S hS B0 hB;simp only[go_sem,K6]at hS hB;(repeat(first|replace hS:=And.right hS|replace hS:=CJ.r hS));have Rr7:=congrArg (fun s:St=>s.sl 7) hS;have Rr31:=congrArg (fun s:St=>s.sl 31) hS;have Rr32:=congrArg (fun s:St=>s.sl 32) hS;have Rr53:=congrArg (fun s:St=>s.sl 53) hS;have Rr59:=congrArg (fun s:St=>s.sl 59) hS;have Rr70:=congrArg (fun s:St=>s.sl 70) hS;have Rr71:=congrArg (fun s:St=>s.sl 71) hS;have Rb6:=congrArg (fun s:St=>s.bx 6) hS;have Rb7:=congrArg (fun s:St=>s.bx 7) hS;have Rb10:=congrArg (fun s:St=>s.bx 10) hS;have Rb11:=congrArg (fun s:St=>s.bx 11) hS;have Rb14:=congrArg (fun s:St=>s.bx 14) hS;have Ro200028:=congrArg (fun s:St=>s.ow 200028) hS;have Ro4608:=congrArg (fun s:St=>s.ow 4608) hS;clear hS;simp only[go_sem]at Rr7 Rr31 Rr32 Rr53 Rr59 Rr70 Rr71 Rb6 Rb7 Rb10 Rb11 Rb14 Ro200028 Ro4608;(try clear hc);intro K hc;simp only[go_sem,Rr7,Rr31,Rr32,Rr53,Rr59,Rr70,Rr71,Rb6,Rb7,Rb10,Rb11,Rb14,Ro200028,Ro4608,hB,K3]at hc ⊢;simp only[go_sem,Rr7,Rr31,Rr32,Rr53,Rr59,Rr70,Rr71,Rb6,Rb7,Rb10,Rb11,Rb14,Ro200028,Ro4608,hB,K0]at hc ⊢;(first|(simp only[hc,K5];done)|((repeat' first|exact hc|apply W6);done)))));all_goals try exact om'
 refine lk' false [(true,14,0,200028)] [1,3,5,6,7,13] [6,10,12,7,11] [] (fun i:{i:Nat // i<=s.Rels.length}=>[(8,slV (.b (a6O n ⟨n,r⟩ (s.Rels.take i.1)).2)),(14,slV (.i .i64 i.1))]) (fun i=>[(14,[.ow 200028])]) (fun i=>[(200028,i7,((a6O n ⟨n,r⟩ (s.Rels.take i.1)).1).map (c9.cells false false))]) (fun i=>s.Rels.length-i.1) (⟨0,z0D⟩) ?_;intro S0 hS0 i;obtain⟨i,hi⟩:=i;generalize hfo:a6O n ⟨n,r⟩ (s.Rels.take i)=q;obtain⟨q1,q2⟩:=q;have hm:=fun(h:i<s.Rels.length)=>hv _ (u7 default h)
 have hql:q1.length<=2*i:=by
  have h:=b5E n ⟨n,r⟩ (s.Rels.take i) [] false;rw[show(s.Rels.take i).foldl (a1S n ⟨n,r⟩) ([],false)=(q1,q2)from hfo]at h;rw[V1]at h;simp only[q1Z]at h;omega
 simp only[go_sem,hS0,hfo];(repeat' first|apply cj'|intro hc|apply a0f);(all_goals(try((first|refine a0B 12 rfl ?_|refine a0B 2 rfl ?_);intro S hS B0 hB;simp only[go_sem,hS0,hfo,K6]at hS hB;(repeat(first|replace hS:=And.right hS|replace hS:=CJ.r hS));have Rr7:=congrArg (fun s:St=>s.sl 7) hS;have Rr31:=congrArg (fun s:St=>s.sl 31) hS;have Rr32:=congrArg (fun s:St=>s.sl 32) hS;have Rr53:=congrArg (fun s:St=>s.sl 53) hS;have Rr59:=congrArg (fun s:St=>s.sl 59) hS;have Rr70:=congrArg (fun s:St=>s.sl 70) hS;have Rr71:=congrArg (fun s:St=>s.sl 71) hS;have Rb6:=congrArg (fun s:St=>s.bx 6) hS;have Rb7:=congrArg (fun s:St=>s.bx 7) hS;have Rb10:=congrArg (fun s:St=>s.bx 10) hS;have Rb11:=congrArg (fun s:St=>s.bx 11) hS;have Rb14:=congrArg (fun s:St=>s.bx 14) hS;have Ro200028:=congrArg (fun s:St=>s.ow 200028) hS;have Ro4608:=congrArg (fun s:St=>s.ow 4608) hS;clear hS;simp only[go_sem,hS0,hfo]at Rr7 Rr31 Rr32 Rr53 Rr59 Rr70 Rr71 Rb6 Rb7 Rb10 Rb11 Rb14 Ro200028 Ro4608;(try clear hc);intro K hc;simp only[go_sem,hS0,hfo,Rr7,Rr31,Rr32,Rr53,Rr59,Rr70,Rr71,Rb6,Rb7,Rb10,Rb11,Rb14,Ro200028,Ro4608,hB,K3]at hc ⊢;simp only[go_sem,hS0,hfo,Rr7,Rr31,Rr32,Rr53,Rr59,Rr70,Rr71,Rb6,Rb7,Rb10,Rb11,Rb14,Ro200028,Ro4608,hB,K0]at hc ⊢;(first|(simp only[hc,K5];done)|((repeat' first|exact hc|apply W6);done)))));all_goals try exact om'
 ·exact hr
 ·exact hm (by omega)
 ·rename_i hy;have hs:=a1z n ⟨n,r⟩ (l:=s.Rels) (i:=i) z0C;rw[hfo,b0o hy,hc]at hs;simp only[z0B,q0D]at hs
  (refine lpK_n2 (⟨i+1,z0C⟩) _ z0E ?_;simp only[go_sem,hS0,hfo,hs]<;>repeat' first|apply W6|exact on'|fail)
  all_goals(simp only[q1F,q0E,q1C,c9.cells,q0V];first|done|rfl)
 ·rename_i hy;have hs:=a1z n ⟨n,r⟩ (l:=s.Rels) (i:=i) z0C;rw[hfo,b0o hy,hc]at hs;simp only[z0B,q0D]at hs
  (refine lpK_n2 (⟨i+1,z0C⟩) _ z0E ?_;simp only[go_sem,hS0,hfo,hs]<;>repeat' first|apply W6|exact on'|fail)
  all_goals(simp only[q1F,q0E,q1C,c9.cells,q0V];first|done|rfl)
 ·exact hm (by omega)
 ·rename_i hy;have hs:=a1z n ⟨n,r⟩ (l:=s.Rels) (i:=i) z0C;rw[hfo,b4u hy,hc]at hs;simp only[z0B,q0D]at hs
  (refine lpK_n2 (⟨i+1,z0C⟩) _ z0E ?_;simp only[go_sem,hS0,hfo,hs]<;>repeat' first|apply W6|exact on'|fail)
  all_goals(simp only[q1F,q0E,q1C,c9.cells,q0V];first|done|rfl)
 ·rename_i hy;have hs:=a1z n ⟨n,r⟩ (l:=s.Rels) (i:=i) z0C;rw[hfo,b4u hy,hc]at hs;simp only[z0B,q0D]at hs
  (refine lpK_n2 (⟨i+1,z0C⟩) _ z0E ?_;simp only[go_sem,hS0,hfo,hs]<;>repeat' first|apply W6|exact on'|fail)
  all_goals(simp only[q1F,q0E,q1C,c9.cells,q0V];first|done|rfl)
 ·exact hr
 ·rw[i4 z0C]at hfo;rw[a2e,hfo,hc];rfl
 ·rw[i4 z0C]at hfo;rw[a2e,hfo,hc];rfl
noncomputable def a2f:CT:=k8 (fun(x:c4×(List UInt8)×d8) h=>b8X x.1 x.2.1 x.2.2 h)
@[go_sem] def d3q:=fun x0 n x1 x2=>nm' (fP' a2f rfl (⟨x0⟩,n,⟨x1,x2⟩))
set_option maxHeartbeats 4000000
def isV(p:c6)(v:List UInt8)(r:c8):Bool:=(r.Kind==1&&a0H p r.Head.Name==3)&&r.Head.Name==v
noncomputable def a0W(p:c6)(s:c4)(v:List UInt8)(L:List c8):List d3:=L.flatMap fun r=>bif isV p v r then(a0i r s).1.Rows else[]
noncomputable def hdOk(p:c6)(s:c4)(v:List UInt8)(L:List c8):Bool:=L.all fun r=>!isV p v r||(a0i r s).2
noncomputable def a3T(p:c6)(s:c4)(v:List UInt8):List d3:=(k6 s v).1.Rows++a0W p s v p.Rules
noncomputable def b6w(p:c6)(s:c4)(v:List UInt8):Bool:=hdOk p s v p.Rules&&(a6d (w6 p v) (a3T p s v)).2
noncomputable def c2R(p:c6)(s:c4)(v:List UInt8):d8:=(a6d (w6 p v) (a3T p s v)).1
noncomputable def a4W(p:c6)(s:c4)(n:Int)(o:List c9)(l:d9):List c9:=bif l.N==n then a2e o l.Name ⟨l.Name,c2R p s l.Name⟩else o
noncomputable def a9U(p:c6)(s:c4)(n:Int)(L:List d9):List c9:=L.foldl (a4W p s n) s.Rels
noncomputable def a8G(p:c6)(s:c4)(n:Int)(L:List d9):Bool:=L.all fun l=>!(l.N==n)||b6w p s l.Name
noncomputable def t5(p:c6)(L:List d9)(s:c4)(n:Int):c4×Bool:=bif a8G p s n L&&decide (((a9U p s n L).length:Int)<=24)then(⟨a9U p s n L⟩,true)else(default,false)
variable{n:Int}{v:List UInt8}{j:Nat}
def c3p{p:c6}{s:c4}{o:List c9}{l:d9}(h:(l.N != n)=true):a4W p s n o l=o:=by
 rw[a4W,show(l.N==n)=false by simpa[bne]using h];rfl
def c6o{p:c6}{s:c4}{o:List c9}{l:d9}(h:(l.N != n)=false):a4W p s n o l=a2e o l.Name ⟨l.Name,c2R p s l.Name⟩:=by
 rw[a4W,show(l.N==n)=true by simpa[bne]using h];rfl
def b0m{p:c6}{s:c4}{L:List d9}{i:Nat}(h:i<L.length):a9U p s n (L.take (i+1))=a4W p s n (a9U p s n (L.take i)) (L.getD i default):=by
 rw[j3 default h,a9U,q3A];rfl
def d8I{l:List c9}(hs:SS sLt (l.map c9.Name))(n:List UInt8)(r:d8):SS sLt ((a2e l n ⟨n,r⟩).map c9.Name)/\(a2e l n ⟨n,r⟩).length<=l.length+1:=by
 have h:=c3k hs n r;refine⟨by rw[h];exact hs.put o0 n, ?_⟩;have h2:=congrArg List.length h;rw[q0F]at h2;rw[h2];have:=d6l sLt (l.map c9.Name) n;rw[q0F]at this;omega
def b2f(p:c6){s:c4}(n:Int)(hs:SS sLt (s.Rels.map c9.Name)):∀L:List d9,SS sLt ((a9U p s n L).map c9.Name)/\(a9U p s n L).length<=s.Rels.length+L.length:=by
 intro L;rw[a9U]
 suffices h:∀(L:List d9) (o:List c9),SS sLt (o.map c9.Name)->SS sLt ((L.foldl (a4W p s n) o).map c9.Name)/\(L.foldl (a4W p s n) o).length<=o.length+L.length from h L _ hs
 intro L
 induction L with
 | nil=>intro o ho;exact⟨ho,q0C _⟩
 | cons l L ih=>
   intro o ho;rw[q2D];have h1:SS sLt ((a4W p s n o l).map c9.Name)/\(a4W p s n o l).length<=o.length+1:=by
    rw[a4W];cases l.N==n with
    | true=>exact d8I ho _ _
    | false=>exact⟨ho,by simp only[V2];omega⟩
   obtain⟨h2,h3⟩:=ih _ h1.1;exact⟨h2,z0Z⟩
def a2m{s:c4}(h:j6 s=true):SS sLt (s.Rels.map c9.Name):=by
 refine d2D fun i h0 hi=>?_
 rw[q0F]at hi;simp only[j6,W3,q0M]at h;have h2:=a1U.1 h.2 i hi;simp only[a1b,q0U,q3U,q0Q,q1J]at h2;have e:∀j,j<s.Rels.length->(s.Rels.map c9.Name).getD j []=(s.Rels.getD j default).Name:=fun j hj=>by
  rw[W5,q3K,V6 hj,W5,V6 hj];rfl
 rw[e _ hi,e _ z0C];exact h2.2.resolve_left z0C
def a0r{r:d8}(h:n8 r=true):r.Rows.length<=300/\∀x∈r.Rows,okL x.V/\x.V.length<1000:=by
 refine⟨a1g h,fun x hx=>?_⟩;obtain⟨i,hi,rfl⟩:=q1H hx;have h1:=a2j h hi;have h2:=c3e h hi;rw[j7 default hi]at h1 h2;exact⟨h1,z0C⟩
def a6Y(a:Int)(rows:List d3):(a6d a rows).1.Rows.length<=300/\∀x∈(a6d a rows).1.Rows,x∈rows:=by
 rw[a6d];cases h:decide (300<((Lib.compact (a1R s6 rows)).length:Int))with
 | true=>exact⟨q2H _,fun x hx=>by cases hx⟩
 | false=>
   have h1:=of_decide_eq_false h;exact⟨by show(Lib.compact (a1R s6 rows)).length<=300;omega,fun x hx=>b6z.1 (b7d.1 hx)⟩
def b7c{r:c8}{s:c4}(hr:k7 r=true)(hs:j6 s=true):(a0i r s).1.Rows.length<=300/\∀x∈(a0i r s).1.Rows,okL x.V/\x.V.length<1000:=by
 rw[a0i];cases(o7 r s).2 with
 | false=>exact⟨q2H _,fun x hx=>by cases hx⟩
 | true=>exact⟨(a6Y _ _).1,fun x hx=>(b4q hr hs).2 x ((a6Y _ _).2 x hx)⟩
@[go_sem] def hdRows_nil(p:c6)(s:c4)(v:List UInt8):a0W p s v []=[]:=rfl
def b7b(p:c6)(s:c4)(v:List UInt8){L:List c8}(h:j<L.length):a0W p s v (L.take (j+1))=a0W p s v (L.take j)++(bif isV p v (L.getD j default)then(a0i (L.getD j default) s).1.Rows else[]):=by
 rw[j3 default h,a0W,a0W,q4C];simp
def a4e(p:c6){s:c4}(hs:j6 s=true)(v:List UInt8):∀{L:List c8},(∀r∈L,k7 r=true)->(a0W p s v L).length<=300*L.length/\∀x∈a0W p s v L,okL x.V/\x.V.length<1000
 | [],_=>⟨q0C _,fun x hx=>by cases hx⟩
 | r::L,h=>by
   have h1:=a4e p hs v (L:=L) fun r hr=>h r (by simp[hr])
   have h2:=b7c (h r z0D) hs;have e:a0W p s v (r::L)=(bif isV p v r then(a0i r s).1.Rows else[])++a0W p s v L:=by simp[a0W]
   rw[e];cases isV p v r with
   | true=>
     rw[W8];refine⟨by rw[V5,V7];omega,fun x hx=>?_⟩;rcases W9.1 hx with hx|hx
     ·exact h2.2 x hx
     ·exact h1.2 x hx
   | false=>exact⟨by simp only[V2,q1O,V7];omega,fun x hx=>h1.2 x z2E⟩
def e1k{p:c6}{r:c8}(h:(r.Kind==1&&a0H p r.Head.Name==3)=false\/(r.Head.Name==v)=false):isV p v r=false:=by
 rw[isV];rcases h with h|h<;>rw[h]<;>simp
def c7z{p:c6}{r:c8}(h:((r.Kind==1)=true/\(a0H p r.Head.Name==3)=true)/\(r.Head.Name==v)=true):isV p v r=true:=by
 rw[isV,h.1.1,h.1.2,h.2];rfl
def b0n{p:c6}{L:List d9}{s:c4}{m:Nat}(hm:m<L.length)(hc:((L.getD m default).N != n)=false)(h:b6w p s (L.getD m default).Name=false):t5 p L s n=(default,false):=by
 rw[t5,a8G,all_false (d:=default) hm (by rw[show((L.getD m default).N==n)=true by simpa[bne]using hc,h];rfl)];rfl
def d6d{p:c6}{s:c4}{j:Nat}(hj:j<p.Rules.length)(h1:isV p v (p.Rules.getD j default)=true)(h2:(a0i (p.Rules.getD j default) s).2=false):b6w p s v=false:=by
 rw[b6w,hdOk,all_false (d:=default) hj (by rw[h1,h2];rfl)];rfl
def d4v{p:c6}{s:c4}{L:List d9}{i:Nat}(h:i<L.length)(ha:a8G p s n (L.take i)=true)(hc:((L.getD i default).N != n)=true):a8G p s n (L.take (i+1))=true:=
 a0p (p:=fun l:d9=>!(l.N==n)||b6w p s l.Name) default h ha (by rw[show((L.getD i default).N==n)=false by simpa[bne]using hc];rfl)
def c1V(r:c8)(s:c4)(hpre:k7 r=true/\j6 s=true):spZ 147 [(true,[.i .i64 r.Kind,.s r.Head.Name,l8 r.Head.Args,a0g r.Body]),(true,[i6 s.Rels])] [] (.tup [(true,[.i .i64 (((a0i r s).1).Arity),n9 (((a0i r s).1).Rows)]),(false,[.b ((a0i r s).2)])]):=by
 exact a1h (b3Q r s hpre) z0M
noncomputable def a8Z:CT:=k8 (fun(x:c8×c4) h=>c1V x.1 x.2 h)
@[go_sem] def d4Q:=fun x0 x1 x2 x3 x4=>nm' (fP' a8Z rfl (⟨x0,⟨x1,x2⟩,x3⟩,⟨x4⟩))
def c7S(p:c6)(levels:List d9)(s:c4)(n:Int)(hpre:a0m p=true/\j6 s=true/\levels.length<=100):spZ 206 [(true,[m9 p.Decls,m7 p.Rules]),(false,[b0f levels]),(true,[i6 s.Rels]),(false,[.i .i64 n])] [] (.tup [(true,[i6 (((t5 p levels s n).1).Rels)]),(false,[.b ((t5 p levels s n).2)])]):=by
 refine sx' false true none Tryz.func206 (q' 4 [aX 2 0,ax (o' 6 (.box 1 (.t 2))),ax (w' 8 [.sl i7]),ab 9 false] (q' 10 [ax (e' 22 1 6),aw [.sl i7],aS 1 10 22] (.seq (q' 23 [am 1,aN,aK 0] (fO 0 26 [ar 25 24] 26 1 (q' 27 [ai 2 23 25,aE 2,ax (w' 12 [.s,.i .i64]),aS 2 12 28] (.seq (q' 29 [aG 1 12,am 3,aD .neq 30 31] (ci 32 (.exit 1))) (q' 34 [ae 1 6,aG 0 12,ac 166 [34,36],aV 33,aZ 33 0,aZ 33 1,ax (w' 13 [.i .i64,.sl i5]),aS 2 13 38,aV 14] (q' 40 [aG 1 13,aV 15] (.seq (q' 42 [aG 1 4,aN,aK 0] (fO 2 46 [ar 45 44] 46 3 (q' 47 [ai 4 43 45,aE 4,ax (w' 17 [.i .i64,.s,.sl j5,.sl b4A]),aS 4 17 48] (.seq (q' 49 [ae 2 4,ae 4 17,ac 252 [49,50],aO 51,am 52,aH 53 false [bf 1 17,bF 0,bL,bf 0 12,bL,bD .neq 56 58],aQ 53 59] (ci 60 (.exit 3))) (q' 62 [ae 4 17,ae 1 6,ac 147 [62,63],aV 61,aZ 61 0,aZ 61 1,ax (w' 18 [.i .i64,.sl i5]),aS 2 18 65,aV 19] (.seq (q' 67 [am 19,aO 67] (ci 68 (q' 69 [ao (.bld [.sl i7] []),aS 1 8 69,ab 9 false] .ret))) (.rego [(true,0,m' 70 15),(true,1,m' 71 15),(true,2,n' 72 71),(true,3,m' 73 15),(true,4,n' 74 73),(true,6, f' 76 1 18),(true,7,l' 77 76),(false,5,o' 75 (.slc 1 (.t 70) none (some (.t 72)) (some (.t 74)))),(false,8,o' 78 (.app 1 24 [.sl l9] (.t 75) (.t 77))),(false,9,m' 15 78)] [36,37]))))) (g' 79 [aA 45]))) (q' 81 [ae 2 4,aG 0 12,ac 140 [81,83],am 15,ac 157 [84,85],aV 80,aZ 80 0,aZ 80 1,ax (w' 20 [.i .i64,.sl i5]),aS 2 20 87,aV 21] (.seq (q' 89 [am 21,aO 89] (ci 90 (q' 91 [ao (.bld [.sl i7] []),aS 1 8 91,ab 9 false] .ret))) (g' 92 [ae 1 10,aG 0 12,ae 2 20,ac 168 [92,94,95],aS 1 10 96])))))))) (g' 97 [aA 25]))) (.seq (q' 98 [aG 0 10,aN,aC .gtr 100 24] (ci 101 (q' 102 [ao (.bld [.sl i7] []),aS 1 8 102,ab 9 false] .ret))) (q' 103 [ae 1 10,aS 1 8 103,ab 9 true] .ret))))) [.c 8 true 1,.t 9] [(166,[],a1M),(252,[],a2D),(147,[],a8Z),(140,[],a2A),(157,[],a4y),(168,[],a5O)] ?_;intro hb hE;obtain⟨hg,hs,hL⟩:=hpre;have hSS:=a2m hs;have hsl:s.Rels.length<=24:=by
  have:=hs;simp only[j6,K7]at this;omega
 have hP:=a7B (a0X (a0n hg));simp only[go_sem];repeat' first|apply cj'|intro hc|exact om'|fail
 refine lq' false [3,4,6,8,10,23,24] [8,12,37] [] (fun i:{i:Nat // i<=levels.length/\a8G p s n (levels.take i)=true}=>[(25,slV (.i .i64 i.1))]) (fun i=>[(20,[.c (i6 (a9U p s n (levels.take i.1)))]),(16,[.nl i7])]) nl' (fun i=>levels.length-i.1) (⟨0,by simp[a8G]⟩) ?_;intro S0 hS0 i;obtain⟨m,hi,ha⟩:=i;have hO:=b2f p n hSS (levels.take m);rw[V1]at hO;simp only[go_sem,hS0];repeat' first|apply cj'|intro hc|exact om'|fail
 ·(refine lpK_n2 (⟨m+1,z0C,d4v z0C ha hc⟩) _ rfl ?_;simp only[go_sem,hS0]<;>repeat' first|apply W6|exact on'|fail)
  all_goals rw[b0m z0C,c3p hc]
 ·skip
  generalize hv:levels.getD m default=lv at hc ⊢;refine lq' false [3,4,6,8,10,12,23,24,25,43,44] [8,12,20,24,37] [] (fun i:{j:Nat // j<=p.Rules.length/\hdOk p s lv.Name (p.Rules.take j)=true}=>[(15,.v false [.c (n9 ((k6 s lv.Name).1.Rows++a0W p s lv.Name (p.Rules.take i.1)))]),(45,slV (.i .i64 i.1))]) (fun i=>[(16,[.nl i7])]) nl' (fun i=>p.Rules.length-i.1) (⟨0,by simp[hdOk]⟩) ?_;intro S1 hS1 i;obtain⟨j,hj,hb2⟩:=i;have hv2:=a0r (z5 hs lv.Name);have hR:=fun(h:j<p.Rules.length)=>hP.1 _ (u7 (l:=p.Rules) default h)
  have hH:=a4e p hs lv.Name (L:=p.Rules.take j) fun r hr=>hP.1 r (q1V hr)
  rw[V1]at hH;have hHI:=fun(h:j<p.Rules.length)=>(b7c (hR h) hs).1
  have hsn:=fun(h:j<p.Rules.length)=>b7b p s lv.Name h
  simp only[go_sem,hS0,hS1];repeat' first|apply cj'|intro hc|exact om'|fail
  ·(refine lpK_n2 (⟨j+1,z0C,a0p (p:=fun r:c8=>!isV p lv.Name r||(a0i r s).2) default z0C hb2 (by rw[e1k hc];rfl)⟩) _ rfl ?_;simp only[go_sem,hS0,hS1]<;>repeat' first|apply W6|exact on'|fail)
   all_goals(rw[hsn z0C,e1k hc,V2,q0D])
  ·exact⟨hR z0C,hs⟩
  ·rename_i h1 h2 h3;rw[b0n (m:=m) z0C (by rw[hv];exact h1) (by rw[hv];exact d6d (j:=j) z0C (c7z h3) hc)];exact⟨rfl,rfl⟩
  ·rename_i h3
   (refine lpK_n2 (⟨j+1,z0C,a0p (p:=fun r:c8=>!isV p lv.Name r||(a0i r s).2) default z0C hb2 (by rw[c7z h3,hc];rfl)⟩) _ rfl ?_;simp only[go_sem,hS0,hS1]<;>repeat' first|apply W6|exact on'|fail)
   all_goals(rw[hsn z0C,c7z h3,W8,q0V])
  ·refine⟨z0C,fun x hx=>?_⟩;rcases W9.1 hx with hx|hx
   ·exact hv2.2 x hx
   ·exact hH.2 x hx
  ·rename_i h1 h2 h3;rw[i4 z0C]at hc hb2;rw[b0n (m:=m) z0C (by rw[hv];exact h2) (by rw[hv,b6w,hb2,a3T,hc];rfl)];exact⟨rfl,rfl⟩
  ·exact⟨hO.1,z0C⟩
  ·rename_i h1 h2 h3;rw[i4 z0C]at hc hb2
   (refine lpK_n2 (⟨m+1,z0C,a0p (p:=fun l:d9=>!(l.N==n)||b6w p s l.Name) default z0C ha (by rw[hv,b6w,hb2,a3T,hc];simp)⟩) _ rfl ?_;simp only[go_sem,hS0,hS1]<;>repeat' first|apply W6|exact on'|fail)
   all_goals(rw[b0m z0C,hv,c6o h2,c2R,a3T,show p.Rules.take j=p.Rules from i4 z0C])
 ·have h2:a8G p s n levels=true:=by rwa [i4 z0C]at ha
  rw[i4 z0C]at hc;rw[t5,h2,V3 z0C];exact⟨rfl,rfl⟩
 ·have h2:a8G p s n levels=true:=by rwa [i4 z0C]at ha
  rw[i4 z0C]at hc ⊢;rw[t5,h2,V0 z0C];exact⟨rfl,rfl⟩
noncomputable def b3l:CT:=k8 (fun(x:c6×(List d9)×c4×Int) h=>c7S x.1 x.2.1 x.2.2.1 x.2.2.2 h)
@[go_sem] def d9q:=fun x0 x1 x2 x3 n=>nm' (fP' b3l rfl (⟨x0,x1⟩,x2,⟨x3⟩,n))
def nilR:List d3:=[]
@[go_sem] def l10Copy_nil(a:Int):a1w [(true,[.i .i64 a,.sl false i5 []])]=some (True,[],.one (true,[.i .i64 a,n9 nilR])):=by
 have h:=b3v a [];simpa[nilR]using h
def b6D{r:d8}(h:n8 r=true):SS s6 r.Rows:=by
 refine q2N.2 fun i j hi hj hij=>?_
 have h1:=c8q h hij hj;have h2:=a2j h hi;have h3:=a2j h hj;rw[j7 default hi]at h1 h2;rw[j7 default hj]at h1 h3;rw[<-b9z h2 h3,h1];rfl
def a4i{a:Int}{l r:List d3}(h:SS s6 l):a6d a (l++r)=bif decide (300<((m8 s6 l r).length:Int))then(default,false)else(⟨a,m8 s6 l r⟩,true):=by
 have e:Lib.compact (a1R s6 (l++r))=m8 s6 l r:=a4d a3k (h.puts a3k) fun x=>by rw[o8,W9]
 rw[a6d,e]
def b5H(r:c8)(s:c4):(a0i r s).2=((o7 r s).2&&!decide (300<((a2N r s).Rows.length:Int)))/\((a0i r s).2=true->(a0i r s).1.Rows=(a2N r s).Rows):=by
 rw[a0i,a2N];cases(o7 r s).2 with
 | false=>exact⟨rfl,fun h=>by cases h⟩
 | true=>
   rw[W8,a6d,c7b];cases decide (300<((m8 s6 [] (a3Y r s)).length:Int))with
   | true=>exact⟨rfl,fun h=>by cases h⟩
   | false=>exact⟨rfl,fun _=>rfl⟩
def arOk(p:c6)(s:c4):Prop:=∀x∈s.Rels,a0z p x.Name=true->x.Rel.Arity=w6 p x.Name
def d0W{s:c4}(h:(k6 s v).2=false):(k6 s v).1.Rows=[]:=by
 unfold k6 at h ⊢;split
 ·rename_i e;rw[if_pos e]at h;cases h
 ·rfl
def c3a{s:c4}{v:List UInt8}(h:(k6 s v).2=true):∃x∈s.Rels,x.Name=v/\(k6 s v).1=x.Rel:=by
 unfold k6 at h ⊢;split
 ·rename_i e;have ha:s.Rels.any (fun x:c9=>x.Name==v)=true:=by rw[<-a1l];exact V0 e
  have e2:=e1h ha;have hlt:s.Rels.findIdx (fun x:c9=>x.Name==v)<s.Rels.length:=by
   have:=d5V (p:=fun x:c9=>x.Name==v) (l:=s.Rels);omega
  have hp:=List.findIdx_getElem (p:=fun x:c9=>x.Name==v) (xs:=s.Rels) (w:=hlt);rw[e2,q4M,j7 default hlt];exact⟨_,q1E hlt,by simpa using hp,rfl⟩
 ·rename_i e;rw[if_neg e]at h;cases h
def e1f{p:c6}{s:c4}{v:List UInt8}(l:List d3){L:List c8}(h:j<L.length):m8 s6 l (a0W p s v (L.take (j+1)))=m8 s6 (m8 s6 l (a0W p s v (L.take j))) (bif isV p v (L.getD j default)then(a0i (L.getD j default) s).1.Rows else[]):=by
 rw[b7b p s v h,m8,m8,m8,q3A]
def c2Y(l:List d3){r:List d3}{k:Nat}(h:k<r.length):m8 s6 l (r.take (k+1))=a1f s6 (m8 s6 l (r.take k)) (r.getD k default):=by
 rw[j3 default h,m8,m8,q3A];rfl
def d8A{p:c6}{s:c4}(hP:∀r∈p.Rules,k7 r=true)(hs:j6 s=true)(n:Int):∀L:List d9,∀x∈a9U p s n L,x.Rel.Rows.length<=300/\∀y∈x.Rel.Rows,okL y.V/\y.V.length<1000:=by
 intro L;rw[a9U]
 suffices h:∀(L:List d9) (o:List c9),(∀x∈o,x.Rel.Rows.length<=300/\∀y∈x.Rel.Rows,okL y.V/\y.V.length<1000)->∀x∈L.foldl (a4W p s n) o,x.Rel.Rows.length<=300/\∀y∈x.Rel.Rows,okL y.V/\y.V.length<1000 from h L _ fun x hx=>a0r (a1J hs x hx)
 intro L
 induction L with
 | nil=>intro o ho;exact ho
 | cons l L ih=>
   intro o ho;rw[q2D];refine ih _ fun x hx=>?_
   rw[a4W]at hx;cases hc:l.N==n with
   | false=>rw[hc]at hx;exact ho x hx
   | true=>
     rw[hc,W8]at hx;rcases a9Q hx with rfl|hx
     ·refine⟨(a6Y _ _).1,fun y hy=>?_⟩;rcases W9.1 ((a6Y _ _).2 y hy)with h|h
      ·exact(a0r (z5 hs l.Name)).2 y h
      ·exact(a4e p hs l.Name hP).2 y h
     ·exact ho x hx
def d0l{r:c8}{s:c4}(hr:k7 r=true)(hs:j6 s=true):∀x∈(a2N r s).Rows,okL x.V/\x.V.length<1000:=fun x hx=>
 (b4q hr hs).2 x ((o8.1 hx).resolve_left (by intro h;cases h))
def b0t{p:c6}(hg:a0m p=true)(hv:v∈vwS p):a0z p v=true/\w6 p v=(a0G p v).Arity:=by
 have hd:=(a4V z17).2.1;obtain⟨d,hm,hk,rfl⟩:=d6h.1 hv;have h1:a0z p d.Name=true:=by
  rw[a0z,q3F];exact⟨d,hm,z0D⟩
 refine⟨h1, ?_⟩;obtain⟨i,hi,rfl⟩:=q1H hm;have h2:=hd i hi;rw[v6,j7 default hi]at h2;simp only[q0U]at h2;rw[w6,h2.1.1,h2.1.2,h1];rfl
def e1j{p:c6}(hg:a0m p=true)(hv:v∈vwS p)(hj:j<p.Rules.length):isV p v (p.Rules.getD j default)=((p.Rules.getD j default).Head.Name==v):=by
 have hN:=a4V z17;rw[isV];cases h:((p.Rules.getD j default).Head.Name==v)with
 | false=>rw[q2J]
 | true=>
   have e:(p.Rules.getD j default).Head.Name=v:=by simpa using h
   have hk:a0H p (p.Rules.getD j default).Head.Name=3:=by rw[e];exact(a2s hN.2.1).2 hv
   rw[hk,c1x hN.2.2 hj hk];rfl
def b9n(p:c6)(levels:List d9)(s:c4)(n:Int)(hpre:a0m p=true/\j6 s=true/\arOk p s/\(∀l∈levels,l.Name∈vwS p)/\levels.length<=100):spZ 133 [(true,[m9 p.Decls,m7 p.Rules]),(false,[b0f levels]),(true,[i6 s.Rels]),(false,[.i .i64 n])] [] (.tup [(true,[i6 (((t5 p levels s n).1).Rels)]),(false,[.b ((t5 p levels s n).2)])]):=by
 refine sx' false true none Tryz.func133 (q' 4 [aX 2 0,ax (o' 6 (.box 1 (.t 2))),ax (w' 8 [.sl i7]),ab 9 false] (q' 19 [ae 1 6,ac 94 [19],ax (w' 10 [.sl i7]),aS 1 10 20] (.seq (q' 21 [am 1,aN,aK 0] (fO 0 24 [ar 23 22] 24 1 (q' 25 [ai 2 21 23,aE 2,ax (w' 12 [.s,.i .i64]),aS 2 12 26] (.seq (q' 27 [aG 1 12,am 3,aD .neq 28 29] (ci 30 (.exit 1))) (q' 32 [ae 1 6,aG 0 12,ac 105 [32,34],aV 31,aZ 31 0,aZ 31 1,ax (w' 13 [.i .i64,.sl i5]),aS 2 13 36,aV 14] (.seq (q' 38 [am 14,aO 38] (ci 39 (g' 40 [ae 2 4,aG 0 12,ac 130 [40,42],ao (.fl false 2 1 (.t 43)),ao (.bld [.i .i64,.sl i5] [(0,1,.t 44)]),aS 2 13 45]))) (q' 46 [ae 2 13,ac 169 [46],aS 2 13 47] (.seq (q' 48 [aG 1 4,aN,aK 0] (fO 2 52 [ar 51 50] 52 3 (q' 53 [am 51,aV 15] (.seq (.seq (G' 54 [aG 1 4,am 15,aI 4,aF 1,aG 0 58,aG 0 12,aD .neq 60 62]) (ci 63 (.exit 3))) (.seq (rm' [(true,0,f' 65 1 4),(true,1,l' 66 65),(true,2,m' 67 15),(true,3,i' 68 4 66 67),(true,4,e' 69 4 68), (true,5,e' 70 1 6),(false,6,c' 71 197 [69,70]),(false,7,m' 64 71),(false,8,o' 72 (.ext (.t 64) 0)),(false,9,o' 73 (.ext (.t 64) 1)),(false, 10,w' 16 [.i .i64,.sl i5]),(false,11,s' 2 16 72),(false,12,m' 17 73)] [[0,1,2,3,4,5,6,7,8,10,9,11,12],[0, 1,2,3,4,5,6,7,8,10,11,9,12],[0,1,2,3,4,5,6,7,9,8,10,11,12],[0,1,2,3,4,5,6,7,9,10,8,11,12],[0,1,2,3,4,5,6,7,10, 8,9,11,12],[0,1,2,3,4,5,6,7,10,8,11,9,12],[0,1,2,3,4,5,6,7,10,9,8,11,12],[0,1,2,3,4,5,6,10,7,8,9,11,12],[0,1,2, 3,4,5,6,10,7,8,11,9,12],[0,1,2,3,4,5,6,10,7,9,8,11,12],[0,1,2,3,4,5,10,6,7,8,9,11,12],[0,1,2,3,4,5,10,6,7,8,11, 9,12],[0,1,2,3,4,5,10,6,7,9,8,11,12]] [8,9,12,13]) (.seq (q' 74 [am 17,aO 74,am 75,aH 76 false [bf 1 16,bL,bN,bC .gtr 79 300],aQ 76 80] (ci 81 (q' 82 [ao (.bld [.sl i7] []),aS 1 8 82,ab 9 false] .ret))) (q' 83 [aG 1 16,aN,aK 0] (fO 4 87 [ar 86 85] 87 5 (q' 88 [am 86,aV 18] (.rego [(true,2,f' 91 1 16),(true,3,l' 92 91),(true,4,m' 93 18),(true,5,i' 94 1 92 93),(true,6,e' 95 1 94),(false,0,f' 89 1 13),(false,1,l' 90 89),(false,7,c' 96 107 [90,95]),(false,8,f' 97 1 13),(false,9,s' 1 97 96)] [32,33])) (g' 98 [aA 86]))))))) (g' 99 [aA 51]))) (.seq (q' 100 [aG 1 13,aN,aC .gtr 102 300] (ci 103 (q' 104 [ao (.bld [.sl i7] []),aS 1 8 104,ab 9 false] .ret))) (g' 105 [ae 1 10,aG 0 12,ae 2 13,ac 108 [105,107,108],aS 1 10 109])))))))) (g' 110 [aA 23]))) (.seq (q' 111 [aG 0 10,aN,aC .gtr 113 24] (ci 114 (q' 115 [ao (.bld [.sl i7] []),aS 1 8 115,ab 9 false] .ret))) (q' 116 [ae 1 10,aS 1 8 116,ab 9 true] .ret))))) [.c 8 true 1,.t 9] [(94,[],a2I),(105,[],a1q),(130,[],a1c),(169,[],a1w),(197,[],a8l),(107,[],a3r),(108,[],a2f)] ?_;intro hb hE;obtain⟨hg,hs,hA,hV,hL⟩:=hpre;have hSS:=a2m hs;have hsl:=a0I hs;have hP:=a7B (a0X (a0n hg));have hcp:s.Rels.length<=1000/\∀x∈s.Rels,x.Rel.Rows.length<=100000/\∀y∈x.Rel.Rows,y.V.length<1000:=
  ⟨z0C,fun x hx=>by
   have h:=a0r (a1J hs x hx);exact⟨z0C,fun y hy=>(h.2 y hy).2⟩⟩
 simp only[go_sem];(repeat' first|apply cj'|intro hc|apply a0f);(all_goals(try(refine(show A3F _ _ _ _ _ _ from ?_);simp only[go_sem]at hc ⊢;simp only[go_sem,K0]at hc ⊢;simp only[hc,K5];done)));all_goals try exact om'
 ·exact hcp
 refine lq' false [3,4,6,8,10,21,22] [8,12,9,13,33] [] (fun i:{i:Nat // i<=levels.length/\a8G p s n (levels.take i)=true}=>[(23,slV (.i .i64 i.1))]) (fun i=>[(20,[.c (i6 (a9U p s n (levels.take i.1)))]),(16,[.nl i7])]) nl' (fun i=>levels.length-i.1) (⟨0,by simp[a8G]⟩) ?_;intro S0 hS0 i;obtain⟨m,hi,ha⟩:=i;have hO:=b2f p n hSS (levels.take m);rw[V1]at hO;simp only[go_sem,hS0];(repeat' first|apply cj'|intro hc|apply a0f);(all_goals(try(refine(show A3F _ _ _ _ _ _ from ?_);simp only[go_sem,hS0]at hc ⊢;simp only[go_sem,hS0,K0]at hc ⊢;simp only[hc,K5];done)));all_goals try exact om'
 ·(refine lpK_n2 (⟨m+1,z0C,d4v z0C ha hc⟩) _ rfl ?_;simp only[go_sem,hS0]<;>repeat' first|apply W6|exact on'|fail)
  all_goals rw[b0m z0C,c3p hc]
 rotate_left
 ·have h:=a0r (z5 hs (levels.getD m default).Name);exact⟨z0C,fun x hx=>(h.2 x hx).2⟩
 rotate_left
 ·have h2:a8G p s n levels=true:=by rwa [i4 z0C]at ha
  rw[i4 z0C]at hc;rw[t5,h2,V3 z0C];exact⟨rfl,rfl⟩
 ·have h2:a8G p s n levels=true:=by rwa [i4 z0C]at ha
  rw[i4 z0C]at hc ⊢;rw[t5,h2,V0 z0C];exact⟨rfl,rfl⟩
 all_goals have hvw:=hV _ (u7 (l:=levels) (i:=m) default z0C)
 all_goals have hAr:=b0t hg hvw
 all_goals first
  | rw[show nilR=(k6 s (levels.getD m default).Name).1.Rows from(d0W hc).symm,<-hAr.2]
  | (obtain⟨y,hy1,hy2,hy3⟩:=c3a hc
     rw[show(k6 s (levels.getD m default).Name).1.Arity=w6 p (levels.getD m default).Name by rw[hy3,hA y hy1 (by rw[hy2];exact hAr.1),hy2]])
 all_goals clear hc
 all_goals rename_i hc
 all_goals have hmlt:m<levels.length:=by omega
 all_goals generalize hv:levels.getD m default=lv at hc hvw hAr ⊢
 all_goals(
  skip
  refine lq' false [3,4,6,8,10,12,13,21,22,23,50] [8,12,20,24,9,13,33] [] (fun i:{j:Nat // j<=p.Rules.length/\hdOk p s lv.Name (p.Rules.take j)=true}=>[(51,slV (.i .i64 i.1))]) (fun i=>[(26,[.c (.i .i64 (w6 p lv.Name)),.c (n9 (m8 s6 (k6 s lv.Name).1.Rows (a0W p s lv.Name (p.Rules.take i.1))))]),(16,[.nl i7])]) nl' (fun i=>p.Rules.length-i.1) (⟨0,by simp[hdOk]⟩) ?_;intro S1 hS1 i;obtain⟨j,hj,hb2⟩:=i;have hv2:=a0r (z5 hs lv.Name);have hR:=fun(h:j<p.Rules.length)=>hP.1 _ (u7 (l:=p.Rules) default h)
  have hH:=a4e p hs lv.Name (L:=p.Rules.take j) fun r hr=>hP.1 r (q1V hr)
  rw[V1]at hH;have hsn:=fun(h:j<p.Rules.length)=>e1f (p:=p) (s:=s) (v:=lv.Name) (k6 s lv.Name).1.Rows h
  have hNm:=fun(h:j<p.Rules.length)=>e1j hg hvw h
  have hpl:=a0M s6 (a0W p s lv.Name (p.Rules.take j)) (k6 s lv.Name).1.Rows;have hpm:∀x∈m8 s6 (k6 s lv.Name).1.Rows (a0W p s lv.Name (p.Rules.take j)),okL x.V/\x.V.length<1000:=fun x hx=>(o8.1 hx).elim (hv2.2 x) (hH.2 x)
  simp only[go_sem,hS0,hS1];(repeat' first|apply cj'|intro hc|apply a0f);(all_goals(try((first|refine RM_RS (o9 0 9 (q0B rfl) rfl ?_ (o9 0 10 (q0B rfl) rfl ?_ (o9 2 8 (q0B rfl) rfl ?_ (o9 0 9 (q0B rfl) rfl ?_ (o9 3 8 (q0B rfl) rfl ?_ (o9 0 10 (q0B rfl) rfl ?_ (o9 1 9 (q0B rfl) rfl ?_ (o9 2 7 (q0B rfl) rfl ?_ (o9 0 10 (q0B rfl) rfl ?_ (o9 1 9 (q0B rfl) rfl ?_ (o9 2 6 (q0B rfl) rfl ?_ (o9 0 10 (q0B rfl) rfl ?_ (o9 1 9 (q0B rfl) rfl ?_ d2C))))))))))))))<;>(intro S hS B0 hB;simp only[go_sem,hS0,hS1,q1R,q2I,K6,q0H,q0P,q1P,q1O]at hS hB;(repeat(first|replace hS:=And.right hS|replace hS:=CJ.r hS));have Rr69:=congrArg (fun s:St=>s.sl 69) hS;have Rr70:=congrArg (fun s:St=>s.sl 70) hS;have Rr71:=congrArg (fun s:St=>s.sl 71) hS;have Rr64:=congrArg (fun s:St=>s.sl 64) hS;have Rr72:=congrArg (fun s:St=>s.sl 72) hS;have Rr73:=congrArg (fun s:St=>s.sl 73) hS;have Rr16:=congrArg (fun s:St=>s.sl 16) hS;have Rr17:=congrArg (fun s:St=>s.sl 17) hS;have Rb8:=congrArg (fun s:St=>s.bx 8) hS;have Rb9:=congrArg (fun s:St=>s.bx 9) hS;have Rb12:=congrArg (fun s:St=>s.bx 12) hS;have Rb13:=congrArg (fun s:St=>s.bx 13) hS;have Rb32:=congrArg (fun s:St=>s.bx 32) hS;clear hS;simp only[go_sem,hS0,hS1]at Rr69 Rr70 Rr71 Rr64 Rr72 Rr73 Rr16 Rr17 Rb8 Rb9 Rb12 Rb13 Rb32;(try clear hc);intro K hc;simp only[go_sem,hS0,hS1,Rr69,Rr70,Rr71,Rr64,Rr72,Rr73,Rr16,Rr17,Rb8,Rb9,Rb12,Rb13,Rb32,hB,q1R,q2I,K6,q0H,q0P,q1P,q1O]at hc ⊢;simp only[go_sem,hS0,hS1,Rr69,Rr70,Rr71,Rr64,Rr72,Rr73,Rr16,Rr17,Rb8,Rb9,Rb12,Rb13,Rb32,hB,K0]at hc ⊢;simp only[hc,K5];done))));all_goals try exact om'
  ·(refine lpK_n2 (⟨j+1,z0C,a0p (p:=fun r:c8=>!isV p lv.Name r||(a0i r s).2) default z0C hb2 (by rw[hNm z0C,hc];rfl)⟩) _ rfl ?_;simp only[go_sem,hS0,hS1]<;>repeat' first|apply W6|exact on'|fail)
   all_goals(rw[hsn z0C,hNm z0C,hc];rfl)
  ·exact⟨hR z0C,hs⟩
  ·rename_i h1 h2 h3;have hf:(a0i (p.Rules.getD j default) s).2=false:=by
    rw[(b5H _ s).1];rcases hc with h|h
    ·rw[h];rfl
    ·rw[V0 h];simp
   rw[b0n (m:=m) hmlt (by rw[hv];exact h1) (by rw[hv];exact d6d (j:=j) z0C (by rw[hNm z0C];exact h3) hf)];exact⟨rfl,rfl⟩
  ·rename_i h1 h2 h3;obtain⟨hb,hl3⟩:=hc;have hjl:j<p.Rules.length:=by omega
   have hf:(a0i (p.Rules.getD j default) s).2=true:=by rw[(b5H _ s).1,hb,V3 hl3];rfl
   have hrow:=(b5H (p.Rules.getD j default) s).2 hf;have hHL:=d0l (hR hjl) hs;have hsn2:=hsn hjl;have hN2:isV p lv.Name (p.Rules.getD j default)=true:=by rw[hNm hjl];exact h3
   rw[hN2,W8,hrow]at hsn2;generalize hrr:p.Rules.getD j default=r at hf hrow hHL hsn2 hN2 hl3 ⊢;refine lq' false [3,4,6,8,10,12,13,16,21,22,23,50,51,85] [8,12,16,20,24,32,9,13,33] [] (fun i:{k:Nat // k<=(a2N r s).Rows.length}=>[(86,slV (.i .i64 i.1))]) (fun i=>[(26,[.c (.i .i64 (w6 p lv.Name)),.c (n9 (m8 s6 (m8 s6 (k6 s lv.Name).1.Rows (a0W p s lv.Name (p.Rules.take j))) ((a2N r s).Rows.take i.1)))])]) nl' (fun i=>(a2N r s).Rows.length-i.1) (⟨0,z0D⟩) ?_;intro S2 hS2 i;obtain⟨k,hk⟩:=i;have hp2:=a0M s6 ((a2N r s).Rows.take k) (m8 s6 (k6 s lv.Name).1.Rows (a0W p s lv.Name (p.Rules.take j)));rw[V1]at hp2;have hgk:=fun(h:k<(a2N r s).Rows.length)=>hHL _ (u7 (l:=(a2N r s).Rows) default h)
   simp only[go_sem,hS0,hS1,hS2];(repeat' first|apply cj'|intro hc|apply a0f);(all_goals(try((first|refine RM_RS (o9 0 9 (q0B rfl) rfl ?_ (o9 0 10 (q0B rfl) rfl ?_ (o9 2 8 (q0B rfl) rfl ?_ (o9 0 9 (q0B rfl) rfl ?_ (o9 3 8 (q0B rfl) rfl ?_ (o9 0 10 (q0B rfl) rfl ?_ (o9 1 9 (q0B rfl) rfl ?_ (o9 2 7 (q0B rfl) rfl ?_ (o9 0 10 (q0B rfl) rfl ?_ (o9 1 9 (q0B rfl) rfl ?_ (o9 2 6 (q0B rfl) rfl ?_ (o9 0 10 (q0B rfl) rfl ?_ (o9 1 9 (q0B rfl) rfl ?_ d2C))))))))))))))<;>(intro S hS B0 hB;simp only[go_sem,hS0,hS1,hS2,q1R,q2I,K6,q0H,q0P,q1P,q1O]at hS hB;(repeat(first|replace hS:=And.right hS|replace hS:=CJ.r hS));have Rr69:=congrArg (fun s:St=>s.sl 69) hS;have Rr70:=congrArg (fun s:St=>s.sl 70) hS;have Rr71:=congrArg (fun s:St=>s.sl 71) hS;have Rr64:=congrArg (fun s:St=>s.sl 64) hS;have Rr72:=congrArg (fun s:St=>s.sl 72) hS;have Rr73:=congrArg (fun s:St=>s.sl 73) hS;have Rr16:=congrArg (fun s:St=>s.sl 16) hS;have Rr17:=congrArg (fun s:St=>s.sl 17) hS;have Rb8:=congrArg (fun s:St=>s.bx 8) hS;have Rb9:=congrArg (fun s:St=>s.bx 9) hS;have Rb12:=congrArg (fun s:St=>s.bx 12) hS;have Rb13:=congrArg (fun s:St=>s.bx 13) hS;have Rb32:=congrArg (fun s:St=>s.bx 32) hS;clear hS;simp only[go_sem,hS0,hS1,hS2]at Rr69 Rr70 Rr71 Rr64 Rr72 Rr73 Rr16 Rr17 Rb8 Rb9 Rb12 Rb13 Rb32;(try clear hc);intro K hc;simp only[go_sem,hS0,hS1,hS2,Rr69,Rr70,Rr71,Rr64,Rr72,Rr73,Rr16,Rr17,Rb8,Rb9,Rb12,Rb13,Rb32,hB,q1R,q2I,K6,q0H,q0P,q1P,q1O]at hc ⊢;simp only[go_sem,hS0,hS1,hS2,Rr69,Rr70,Rr71,Rr64,Rr72,Rr73,Rr16,Rr17,Rb8,Rb9,Rb12,Rb13,Rb32,hB,K0]at hc ⊢;simp only[hc,K5];done))));all_goals try exact om'
   ·exact⟨⟨⟨z0C,(hgk z0C).1⟩,(hgk z0C).2⟩,fun x hx=>((o8.1 hx).elim (hpm x) (fun h=>hHL x (q1V h))).1⟩
   ·(refine lpK_n2 (⟨k+1,z0C⟩) _ rfl ?_;simp only[go_sem,hS0,hS1,hS2]<;>repeat' first|apply W6|exact on'|fail)
    all_goals rw[c2Y _ z0C]
   ·(refine lpK_n2 (⟨j+1,z0C,a0p (p:=fun r:c8=>!isV p lv.Name r||(a0i r s).2) default z0C hb2 (by rw[hrr,hN2,hf];rfl)⟩) _ rfl ?_;simp only[go_sem,hS0,hS1,hS2]<;>repeat' first|apply W6|exact on'|fail)
    all_goals(rw[hsn2,i4 (l:=(a2N r s).Rows) (i:=k) z0C])
  ·rename_i h1 h2 h3;rw[i4 (l:=p.Rules) (i:=j) z0C]at hc hb2;rw[b0n (m:=m) hmlt (by rw[hv];exact h2) (by rw[hv,b6w,hb2,a3T,a4i (b6D (z5 hs lv.Name)),V0 hc];rfl)];exact⟨rfl,rfl⟩
  ·exact⟨⟨⟨z0C,fun x hx=>by
    have h:=d8A hP.1 hs n (levels.take m) x hx;exact⟨z0C,fun y hy=>(h.2 y hy).2⟩⟩,z0C⟩,fun y hy=>(hpm y hy).2⟩
  ·rename_i h1 h2 h3;rw[i4 (l:=p.Rules) (i:=j) z0C]at hc hb2
   (refine lpK_n2 (⟨m+1,z0C,a0p (p:=fun l:d9=>!(l.N==n)||b6w p s l.Name) default z0C ha (by rw[hv,b6w,hb2,a3T,a4i (b6D (z5 hs lv.Name)),V3 hc];simp)⟩) _ rfl ?_;simp only[go_sem,hS0,hS1]<;>repeat' first|apply W6|exact on'|fail)
   all_goals(rw[b0m z0C,hv,c6o h2,c2R,a3T,a4i (b6D (z5 hs lv.Name)),V3 hc,i4 (l:=p.Rules) (i:=j) z0C];rfl))
noncomputable def a8o:CT:=k8 (fun(x:c6×(List d9)×c4×Int) h=>b9n x.1 x.2.1 x.2.2.1 x.2.2.2 h)
@[go_sem] def d3F:=fun x0 x1 x2 x3 n=>nm' (fP' a8o rfl (⟨x0,x1⟩,x2,⟨x3⟩,n))
end Go.Aw
