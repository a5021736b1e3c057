/- Environments in their order; the bodies of a rule. No condition. -/
import Derived.Test.YtkophkhamikaoaaGreatkbT37
import Derived.Test.YtkophkhamikaoaaGreatlBx15kb
import Derived.Test.YtkophkhamikaoaaGreatlBx14kb
namespace Go.Aw
open Go.Proofs Go.Shelf
attribute [local irreducible] aft blk lpK retK AW A0e
set_option linter.all false
set_option maxRecDepth 100000
set_option maxHeartbeats 4000000
attribute [local irreducible] RM
def Comp(vs:List (List UInt8))(e:e7):Prop:=EnvS e.Binds/\e.Binds.map d7.Var=vs
def Comp.len{vs:List (List UInt8)}{a b:e7}(ha:Comp vs a)(hb:Comp vs b):a.Binds.length=b.Binds.length:=by
 have:=congrArg List.length (ha.2.trans hb.2.symm);simpa using this
def Comp.cmp{vs:List (List UInt8)}{a b:e7}(ha:Comp vs a)(hb:Comp vs b):a4Y a.Binds b.Binds=bif a0z a b then-1 else bif a0z b a then 1 else 0:=
 c0X (fun x hx=>(ha.1.1 x hx).2) (fun x hx=>(hb.1.1 x hx).2) (ha.2.trans hb.2.symm)
def Comp.eq0{vs:List (List UInt8)}{a b:e7}(ha:Comp vs a)(hb:Comp vs b)(h:(a4Y a.Binds b.Binds==0)=true):a=b:=by
 rw[ha.cmp hb]at h;cases h1:a0z a b with
 | true=>rw[h1,W8]at h;exact absurd h (by decide)
 | false=>
   cases h2:a0z b a with
   | true=>rw[h1,h2,V2,W8]at h;exact absurd h (by decide)
   | false=>exact a3f.tri _ _ h1 h2
def Comp.ne0{vs:List (List UInt8)}{a b:e7}(ha:Comp vs a)(hb:Comp vs b)(h:(a4Y a.Binds b.Binds==0)=false):¬a=b:=by
 rintro rfl;rw[ha.cmp hb,a3f.irr]at h;exact absurd h z02
def Comp.lt1{vs:List (List UInt8)}{a b:e7}(ha:Comp vs a)(hb:Comp vs b):(a4Y a.Binds b.Binds==-1)=a0z a b:=by
 rw[ha.cmp hb];cases a0z a b with
 | true=>rfl
 | false=>cases a0z b a<;>rfl
def Comp.by{vs:List (List UInt8)}{a b:e7}(ha:Comp vs a)(hb:Comp vs b):decide (a4a a.Binds.length (c7h a.Binds b.Binds)<0)=a0z a b:=by
 have h1:sgn (a4a a.Binds.length (c7h a.Binds b.Binds))=a4Y a.Binds b.Binds:=c9N fun i hi=>b6R (ha.1.1 _ (u4 default hi)).2 (hb.1.1 _ (u4 default (by rw[<-ha.len hb];exact hi))).2
 rw[ha.cmp hb]at h1;generalize a4a a.Binds.length (c7h a.Binds b.Binds)=x at h1;unfold sgn at h1;cases h:a0z a b with
 | true=>rw[h,W8]at h1;exact V3 (by omega)
 | false=>
   rw[h,V2]at h1;cases h2:a0z b a with
   | true=>rw[h2,W8]at h1;exact V5 (by omega)
   | false=>rw[h2,V2]at h1;exact V5 z0D
def b8W(a:e7)(b:e7)(hpre:a.Binds.length=b.Binds.length):spZ 253 [(true,[a0b a.Binds]),(true,[a0b b.Binds])] [] (.one (false,[.i .i64 (a4Y a.Binds b.Binds)])):=by
 refine sy' Tryz.func253 (q' 2 [aX 1 0,aX 1 1,aK 0] (.seq (q' 6 [aG 0 2,aN,aK 0] (fO 0 10 [ar 9 8] 10 1 (q' 11 [am 9,aV 5] (.seq (.seq (G' 12 [aG 0 2,am 5,aI 3,aF 1,aE 2,aG 0 3,am 5,aI 3,aF 1,aE 2,ac 193 [17,23]]) (ci 24 (q' 4 [ao (.mov (.k (.v false [.c (.i .i64 (-1))])))] .ret))) (.seq (G' 25 [aG 0 3,am 5,aI 3,aF 1,aE 2,aG 0 2,am 5,aI 3,aF 1,aE 2,ac 193 [30,36]]) (ci 37 (q' 4 [aK 1] .ret))))) (g' 38 [aA 9]))) (q' 4 [aK 0] .ret))) [.t 4] [(193,[],a4R)] ?_;intro hb hE;simp only[go_sem];repeat' first|apply cj'|intro hc|exact om'|fail
 refine lq' false [2,3,8] [4,6] [] (fun i:{i:Nat // i<=a.Binds.length/\∀j,j<i->b0q (a.Binds.getD j default).Val (b.Binds.getD j default).Val=0}=>[(9,slV (.i .i64 i.1))]) nl' nl' (fun i=>a.Binds.length-i.1) (⟨0,z0E⟩) ?_;intro S0 hS0 i;obtain⟨i,hi,hz⟩:=i;simp only[go_sem,hS0];repeat' first|apply cj'|intro hc|exact om'|fail
 ·rw[b6H hz (by rw[b0q,hc,W8];decide) z0D,b0q,hc];rfl
 ·rename_i h1;rw[b6H hz (by rw[b0q,h1,hc];decide) z0D,b0q,h1,hc];rfl
 ·rename_i h1;exact nx0 ⟨i+1,z0D,fun j hj=>(q3T.1 hj).elim (hz j) (fun q=>q▸(by rw[b0q,h1,hc];rfl))⟩
 ·rw[c9X fun j hj=>hz j z0D]
noncomputable def a8g:CT:=n9 (fun(x:e7×e7) h=>b8W x.1 x.2 h)
@[go_sem] def d3J:=fun x0 x1=>nm' (fP' a8g rfl (⟨x0⟩,⟨x1⟩))
def c5l(l:List e7)(e:e7)(hpre:l.length<=4000/\∃vs,Comp vs e/\∀x∈l,Comp vs x):spZ 190 [(false,[d6g l]),(true,[a0b e.Binds])] [] (.one (false,[d6g (a1j a0z l e)])):=by
 refine sx' false true none Tryz.func190 (q' 3 [aX 1 1,ao (.mov (.k (.v false [.nl a3R])))] (q' 9 [ao (.bsl 1 0 [.sl k9] []),aV 5] (q' 6 [aU false] (.seq (q' 10 [am 0,aN,aK 0] (fO 0 13 [ar 12 11] 13 1 (q' 14 [am 12,aV 7] (.seq (G' 15 [ae 1 3,aM [0,7],aI 1,aE 1,ac 253 [15,19],aV 8]) (.seq (q' 21 [am 8,aC .eql 21 0] (ci 22 (q' 23 [am 0,aV 4] .ret))) (.seq (q' 24 [am 6,aO 24,am 25,aH 26 true [bm 8,bC .eql 27 (-1)],aP 26 28] (ci 29 (q' 30 [am 5,ae 1 3,ao (.bsl 1 1 [.sl k9] [(0,.t 31)]),ao (.app 1 24 [.sl k9] (.t 30) (.t 32)),aV 5] (g' 6 [aU true])))) (g' 34 [aM [5,0,7],aI 1,aE 1,ao (.bsl 1 1 [.sl k9] [(0,.t 38)]),ao (.app 1 24 [.sl k9] (.t 34) (.t 39)),aV 5]))))) (g' 41 [aA 12]))) (.seq (q' 42 [am 6,aO 42] (ci 43 (g' 44 [am 5,ae 1 3,ao (.bsl 1 1 [.sl k9] [(0,.t 45)]),ao (.app 1 24 [.sl k9] (.t 44) (.t 46)),aV 5]))) (q' 48 [am 5,aV 4] .ret)))))) [.t 4] [(253,[],a8g)] ?_;intro hb hE;obtain⟨hlen,vs,he,hl0⟩:=hpre;simp only[go_sem];repeat' first|apply cj'|intro hc|exact om'|fail
 refine lk' false [(false,5,0,100010)] [0,3,11] [6] [] (fun i:{i:Nat // i<=l.length/\¬e∈l.take i}=>[(5,.v false [.ow 100010]),(6,slV (.b ((l.take i.1).any (a0z e)))),(12,slV (.i .i64 i.1))]) nl' (fun i=>[(100010,a3R,(a1O a0z e (l.take i.1)).map (e7.cells false false))]) (fun i=>l.length-i.1) (⟨0,z0E⟩) ?_;intro S0 hS0 i;obtain⟨i,hi,hm⟩:=i;have hl:=b9d a0z e (l.take i);rw[V1]at hl;have hC:=fun(h:i<l.length)=>hl0 _ (u4 (l:=l) default h)
 simp only[go_sem,hS0];repeat' first|apply cj'|intro hc|exact om'|fail
 ·exact he.len (hC z0D)
 ·have hm2:e∈l:=by rw[he.eq0 (hC z0D) hc];exact u4 default (by omega)
  rw[a1j,if_pos hm2]
 ·rename_i h0;have hx:=j6 (l:=l) default (i:=i) z0D;have hn:¬e∈l.take (i+1):=by rw[hx];simp only[V0,q0E];rintro(h|h);exact hm h;exact he.ne0 (hC z0D) h0 h
  have h5:a0z e (l.getD i default)=true:=by rw[<-he.lt1 (hC z0D)];exact hc.2
  have h1:(l.take (i+1)).any (a0z e)=true:=by rw[hx,q2F,hc.1,q2P,h5];rfl
  have h2:a1O a0z e (l.take (i+1))=a1O a0z e (l.take i)++[e]++[l.getD i default]:=by rw[hx,b9c hc.1 h5]
  (refine lpK_n2 (⟨i+1,z0D,hn⟩) _ z0H ?_;simp only[go_sem,hS0]<;>repeat' first|apply W6|exact on'|fail)
  all_goals first|rw[h1]|rw[h2]|trace_state
 ·rename_i h0;have hx:=j6 (l:=l) default (i:=i) z0D;have hn:¬e∈l.take (i+1):=by rw[hx];simp only[V0,q0E];rintro(h|h);exact hm h;exact he.ne0 (hC z0D) h0 h
  have h3:(l.take (i+1)).any (a0z e)=(l.take i).any (a0z e)/\a1O a0z e (l.take (i+1))=a1O a0z e (l.take i)++[l.getD i default]:=by
   rw[hx];cases h:(l.take i).any (a0z e)with
   | true=>exact⟨z2R,b3u h⟩
   | false=>
     rw[h,he.lt1 (hC z0D)]at hc;have hc2:a0z e (l.getD i default)=false:=hc;exact⟨z12,c7D h hc2⟩
  (refine lpK_n2 (⟨i+1,z0D,hn⟩) _ z0H ?_;simp only[go_sem,hS0]<;>repeat' first|apply W6|exact on'|fail)
  all_goals first|rw[h3.1]|rw[h3.2]|trace_state
 ·rw[j5 z0D]at hc hm ⊢;rw[b3w hm hc]
 ·rw[j5 z0D]at hc hm ⊢;rw[b3v hm hc]
noncomputable def b0V:CT:=n9 (fun(x:(List e7)×e7) h=>c5l x.1 x.2 h)
@[go_sem] def d8w:=fun l x0=>nm' (fP' b0V rfl (l,⟨x0⟩))
def d8R(a:List e7)(hpre:a.length<4611686018427387904/\∃vs,∀x∈a,Comp vs x):spZ 221 [(false,[.sl true [.sl false [.s [],.i .i64 0,.s []] []] (a.map (e7.cells false false))]),(false,[.f 222 []])] [(0,(false,[.sl true [.sl false [.s [],.i .i64 0,.s []] []] ((a1a a0z a).map (e7.cells false false))]))] (.tup []):=by
 obtain⟨hlen,vs,hd⟩:=hpre;exact c6o Tryz.sortEnv z0L (k:=1) (fun w=>rfl) (fun w=>rfl) (cf:=e7.cells false false) (cb:=e7.cells false false) (z:=[.sl false [.s [],.i .i64 0,.s []] []]) rfl (fun x=>by simp only[go_sem]) (fun _=>rfl) (dom:=Comp vs) (fun x y=>a4a x.Binds.length (c7h x.Binds y.Binds)) a3f (fun x y hx hy=>hx.by hy) (enters_of Tryz.func222 z0L rfl) (fun x y hx hy=>b3A x y (hx.len hy)) a hd hlen
noncomputable def c5F:CT:=n9 (fun(x:(List e7)) h=>d8R x h)
@[go_sem] def e3d:=fun a=>nm' (fP' c5F rfl a)
def a9Y{r:c8}{s:c6}{l:List e7}{i:Nat}(h:i<l.length):a6k r s (l.take (i+1))=a6k r s (l.take i)++(bif a6f r s (eqE r (l.getD i default))then[eqE r (l.getD i default)]else[]):=by
 rw[a6k,a6k,j6 default h,q1B,q3Q]
 congr 1
 all_goals(simp only[q0D,q1D,q3M,q5R];cases a6f r s (eqE r (l.getD i default))<;>rfl)
def a3i{r:c8}{s:c6}(hr:l8 r=true)(hs:j9 s=true):(a1n r s).1.length<=2000/\(∀e∈(a1n r s).1,e.Binds.length<=100/\EnvS e.Binds/\∀l∈r.Body,Rooted s e l)/\∃vs,∀e∈a6k r s (a1n r s).1,Comp vs e:=by
 rw[a1n];cases h:a1t r s r.Body.length with
 | none=>exact⟨z0E,z0E,[],by simp[a6k]⟩
 | some l=>
   have hJ:=Jn.all hr hs (q0F _) h;have h8:=body8 hr;obtain⟨vs,ha⟩:=hJ.alk;obtain⟨ws,hb⟩:=d1a (s:=s) hr ha;refine⟨b5u h,fun e he=>⟨by have:=hJ.len e he;omega,ha.ok e he,fun x hx=>?_⟩,ws,fun e he=>⟨hb.ok e he,hb.dom e he⟩⟩;obtain⟨i,hi,rfl⟩:=q1I hx;have:=hJ.root e he i hi
   rwa [k8 default hi]at this
def d4d{r:c8}{s:c6}(hr:l8 r=true)(hs:j9 s=true):(a6k r s (a1n r s).1).Nodup:=by
 rw[a1n];cases h:a1t r s r.Body.length with
 | none=>simp[a6k]
 | some l=>
   obtain⟨vs,ha⟩:=(Jn.all hr hs (q0F _) h).alk;obtain⟨ws,hb⟩:=d1a (s:=s) hr ha;exact hb.nd
def d9q{l:List e7}(h:l.Nodup):a1a a0z l=l5 a0z [] l:=by
 refine SS.uniq a3f (SS.of_sorted a3f (a7w a3f l) ((a1q a0z l).nodup_iff.2 h)) (SS.puts a3f SS.nil) fun x=>?_
 rw[b6e,o7];simp
def c4q(r:c8)(s:c6)(hpre:l8 r=true/\j9 s=true):spZ 164 [(true,[.i .i64 r.Kind,.s r.Head.Name,o6 r.Head.Args,a0s r.Body]),(true,[j7 s.Rels])] [] (.tup [(false,[kTEnv ((u1 r s).1)]),(false,[.b ((u1 r s).2)])]):=by
 refine sy' Tryz.func164 (q' 2 [aX 4 0,aX 1 1,ao (.mov (.k (.v false [.nl a3R]))),aU false] (q' 12 [ae 4 2,ae 1 3,ac 218 [12,13],aV 11,aZ 11 0,aZ 11 1,av 6 15,aV 7] (.seq (q' 17 [am 7,aO 17] (ci 18 (q' 4 [ao (.mov (.k (.v false [.nl a3R]))),aU false] .ret))) (q' 19 [ao (.bsl 1 0 [.sl k9] []),aV 8] (.seq (q' 20 [am 6,aN,aK 0] (fO 0 23 [ar 22 21] 23 1 (q' 24 [ai 1 20 22,aE 1,ax (w' 10 [.sl k9]),aS 1 10 25] (q' 26 [ae 4 2,ae 1 10,ac 219 [26,27],aS 1 10 28] (q' 29 [ae 4 2,ae 1 3,ae 1 10,ac 220 [29,30,31]] (ci 32 (g' 33 [am 8,ae 1 10,ao (.bsl 1 1 [.sl k9] [(0,.t 34)]),ao (.app 1 24 [.sl k9] (.t 33) (.t 35)),aV 8]))))) (g' 37 [aA 22]))) (q' 38 [am 8,ao (.call 221 [.t 38,.k (.v false [.c (.f 222 [])])])] (q' 40 [am 8,aV 4,ab 5 true] .ret))))))) [.t 4,.t 5] [(218,[],b0z),(219,[],a7E),(220,[],b2Q),(221,[0],c5F)] ?_;intro hb hE;have hpre0:=hpre;obtain⟨hr,hs⟩:=hpre;obtain⟨hl,hf,vs,hv⟩:=a3i hr hs;have hnd:=d4d hr hs;simp only[go_sem];repeat' first|apply cj'|intro hc|exact om'|fail
 ·rw[u1,hc];exact⟨rfl,rfl⟩
 refine lk' false [(false,8,0,100016)] [2,3,20,21] [4,6] [1792] (fun i:{i:Nat // i<=(a1n r s).1.length}=>[(8,.v false [.ow 100016]),(22,slV (.i .i64 i.1))]) nl' (fun i=>[(100016,a3R,(a6k r s ((a1n r s).1.take i.1)).map (e7.cells false false))]) (fun i=>(a1n r s).1.length-i.1) (⟨0,z0E⟩) ?_;intro S0 hS0 i;obtain⟨i,hi⟩:=i;have hol:=b3V r s ((a1n r s).1.take i);rw[V1]at hol;have hm:=fun(h:i<(a1n r s).1.length)=>hf _ (u4 default h)
 simp only[go_sem,hS0];repeat' first|apply cj'|intro hc|exact om'|fail
 ·exact⟨⟨hr,hs⟩,e1p hr (hm z0D).2.1⟩
 ·(refine lpK_n2 (⟨i+1,z0D⟩) _ z0H ?_;simp only[go_sem,hS0]<;>repeat' first|apply W6|exact on'|fail)
  all_goals(rw[a9Y z0D,hc];rfl)
 ·(refine lpK_n2 (⟨i+1,z0D⟩) _ z0H ?_;simp only[go_sem,hS0]<;>repeat' first|apply W6|exact on'|fail)
  all_goals(rw[a9Y z0D,hc];simp)
 ·rw[j5 z0D];exact⟨by have:=b3V r s (a1n r s).1;omega,vs,hv⟩
 ·rename_i h1;rw[j5 z0D,d9q hnd,u1,h1];exact⟨rfl,rfl⟩
noncomputable def b0v:CT:=n9 (fun(x:c8×c6) h=>c4q x.1 x.2 h)
@[go_sem] def d7A:=fun x0 x1 x2 x3 x4=>nm' (fP' b0v rfl (⟨x0,⟨x1,x2⟩,x3⟩,⟨x4⟩))
def e2o{vs:List (List UInt8)}:∀{l a:List e7},(∀x∈a,Comp vs x)->(∀x∈l,Comp vs x)->∀x∈l5 a0z a l,Comp vs x:=fun{l a} h1 h2 x hx=>(o7.1 hx).elim (h1 x) (h2 x)
def c1p{r:c8}{s:c6}{e:e7}(hr:l8 r=true)(h:∀l∈r.Body,Rooted s e l):a9z r s (eqE r e)=a6f r s (eqE r e):=
 e1G hr fun l hl=>(h l hl).ext (b9b r e.Binds)
def e2j{r:c8}{s:c6}{l:List e7}{i:Nat}{x:e7}(h:x∈a6k r s (l.take i)):x∈a6k r s l:=by
 rw[a6k,q0N,q0R]at h ⊢;obtain⟨⟨e,he,hx⟩,h2⟩:=h;exact⟨⟨e,q1L he,hx⟩,h2⟩
def d4t(a l:List e7)(e:e7):l5 a0z a (l++[e])=a1j a0z (l5 a0z a l) e:=by
 simp only[l5,q2V,q2E,List.foldl_nil]
def b5W(r:c8)(s:c6)(hpre:l8 r=true/\j9 s=true):spZ 133 [(true,[.i .i64 r.Kind,.s r.Head.Name,o6 r.Head.Args,a0s r.Body]),(true,[j7 s.Rels])] [] (.tup [(false,[d6g ((u1 r s).1)]),(false,[.b ((u1 r s).2)])]):=by
 refine sx' false true none Tryz.func133 (q' 2 [aX 4 0,aX 1 1,ao (.mov (.k (.v false [.nl a3R]))),aU false] (q' 19 [ao (.bld [.sl k9] []),ao (.bsl 1 1 [.sl k9] [(0,.t 19)]),aV 6] (.seq (q' 21 [aG 3 2,aN,aK 0] (fO 0 25 [ar 24 23] 25 1 (q' 26 [am 24,aV 7] (q' 27 [aG 3 2,am 7,aI 10,aE 10,ax (w' 8 [.i .i64,.s,.sl k9,.i .i64,.s,.i .i64,.s,.s,.i .i64,.s]),aS 10 8 31] (.seq (q' 32 [aG 0 8,aC .neq 33 1] (ci 34 (.exit 1))) (q' 36 [ae 1 3,af 1 8,aG 0 37,ac 89 [36,39],aV 35,aZ 35 0,aZ 35 1,ax (w' 9 [.i .i64,.sl k7]),aS 2 9 41,aV 10] (q' 43 [ao (.bsl 1 0 [.sl k9] []),aV 11] (.seq (q' 44 [am 6,aN,aK 0] (fO 2 47 [ar 46 45] 47 3 (q' 48 [am 46,aV 12] (.seq (q' 49 [aG 1 9,aN,aK 0] (fO 4 53 [ar 52 51] 53 5 (q' 54 [am 52,aV 13] (.seq (rm' [(true,0,m' 56 6),(true,1,m' 57 12),(true,2,i' 58 1 56 57),(true,3,e' 59 1 58),(true,4,f' 60 1 8),(true,5,f' 61 1 60),(true,6,l' 62 61),(true,7,f' 63 1 9),(true,8,l' 64 63),(true,9,m' 65 13),(true,10,i' 66 1 64 65),(true,11,e' 67 1 66),(false,12,c' 68 187 [59,62,67]),(false,13,m' 55 68),(false,14,o' 69 (.ext (.t 55) 0)),(false,15,o' 70 (.ext (.t 55) 1)),(false,16,w' 14 [.sl k9]),(false,17,s' 1 14 69),(false,18,m' 15 70)] [[0,1,2,3,4,5,6,7,8,9,10,11,12,13,14, 16,15,17,18],[0,1,2,3,4,5,6,7,8,9,10,11,12,13,14,16,17,15,18],[0,1,2,3,4,5,6,7,8,9,10,11,12,13,15,14,16,17,18],[0, 1,2,3,4,5,6,7,8,9,10,11,12,13,15,16,14,17,18],[0,1,2,3,4,5,6,7,8,9,10,11,12,13,16,14,15,17,18],[0,1,2,3,4,5,6,7, 8,9,10,11,12,13,16,14,17,15,18],[0,1,2,3,4,5,6,7,8,9,10,11,12,13,16,15,14,17,18],[0,1,2,3,4,5,6,7,8,9,10,11,12,16, 13,14,15,17,18],[0,1,2,3,4,5,6,7,8,9,10,11,12,16,13,14,17,15,18],[0,1,2,3,4,5,6,7,8,9,10,11,12,16,13,15,14,17,18], [0,1,2,3,4,5,6,7,8,9,10,11,16,12,13,14,15,17,18],[0,1,2,3,4,5,6,7,8,9,10,11,16,12,13,14,17,15,18],[0,1,2,3,4,5,6, 7,8,9,10,11,16,12,13,15,14,17,18]] [16,17,18,19]) (q' 71 [am 15] (ci 71 (g' 72 [am 11,ae 1 14,ao (.bsl 1 1 [.sl k9] [(0, .t 73)]),ao (.app 1 24 [.sl k9] (.t 72) (.t 74)),aV 11]))))) (g' 76 [aA 52]))) (q' 77 [am 11,aN,aC .gtr 78 2000] (ci 79 (q' 4 [ao (.mov (.k (.v false [.nl a3R]))),aU false] .ret))))) (g' 80 [aA 46]))) (g' 81 [am 11,aV 6]))))))) (g' 82 [aA 24]))) (q' 83 [ao (.bsl 1 0 [.sl k9] []),aV 16] (.seq (q' 84 [am 6,aN,aK 0] (fO 6 87 [ar 86 85] 87 7 (q' 88 [am 86,aV 17] (.seq (rm' [(true,0,e' 89 4 2),(true,1,m' 90 6),(true,2,m' 91 17),(true,3,i' 92 1 90 91),(true,4,e' 93 1 92),(false,5,c' 94 188 [89,93]),(false,6,w' 18 [.sl k9]),(false,7,s' 1 18 94)] [[0,1,2,3,4,6,5,7]] [4,5]) (q' 95 [ae 4 2,ae 1 3,ae 1 18,ac 189 [95,96,97]] (ci 98 (g' 99 [am 16,ae 1 18,ac 190 [99,100],aV 16]))))) (g' 102 [aA 86]))) (q' 103 [am 16,aV 4,ab 5 true] .ret)))))) [.t 4,.t 5] [(89,[],a3v),(187,[],a8c),(188,[],a8e),(189,[],a8f),(190,[],b0V)] ?_;intro hb hE;obtain⟨hr,hs⟩:=hpre;have hb8:=body8 hr;simp only[go_sem];(repeat' first|apply cj'|intro hc|apply a0o);(all_goals(try(refine(show A3H _ _ _ _ _ _ from ?_);simp only[go_sem]at hc ⊢;simp only[go_sem,K0]at hc ⊢;simp only[hc,K5];done)));all_goals try exact om'
 refine lk' false [(false,6,0,100012)] [2,3,23] [4,6,17,19,5] [] (fun i:{q:Nat×List e7 // q.1<=r.Body.length/\a1t r s q.1=some q.2}=>[(6,.v false [.ow 100012]),(24,slV (.i .i64 i.1.1))]) nl' (fun i=>[(100012,a3R,i.1.2.map (e7.cells false false))]) (fun i=>r.Body.length-i.1.1) (⟨(0,[⟨[]⟩]),z0E,rfl⟩) ?_;intro S0 hS0 i;obtain⟨⟨n,now⟩,hn,hj⟩:=i;simp only at hn hj;have hJ:=Jn.all hr hs hn hj;have hl:=b5u hj;have hR:=a0I hs (r.Body.getD n default).Atom.Name;have hRl:=a6X hR;have hRe:(arR r s n).length=(w4 s (r.Body.getD n default).Atom.Name).1.Rows.length:=rfl;simp only[go_sem,hS0];(repeat' first|apply cj'|intro hc|apply a0o);(all_goals(try(refine(show A3H _ _ _ _ _ _ from ?_);simp only[go_sem,hS0]at hc ⊢;simp only[go_sem,hS0,K0]at hc ⊢;simp only[hc,K5];done)));all_goals try exact om'
 ·exact nk0 ⟨(n+1,now),z0G,c1u hj (by simpa[bne]using hc)⟩
 ·have hk:((r.Body.getD n default).Kind==1)=true:=by simpa[bne]using hc
  refine a2B 100012 ?_;refine lk' false [(false,11,0,100022)] [2,3,6,8,9,23,24,45] [4,6,16,18,17,19,5] [] (fun i:{j:Nat // j<=now.length/\(a0f (arA r n) (arR r s n) (now.take j)).length<=2000}=>[(11,.v false [.ow 100022]),(46,slV (.i .i64 i.1))]) nl' (fun i=>[(100022,a3R,(a0f (arA r n) (arR r s n) (now.take i.1)).map (e7.cells false false))]) (fun i=>now.length-i.1) (⟨0,z0E,by simp[a0f]⟩) ?_;intro S1 hS1 i;obtain⟨j,hj1,hj2⟩:=i;simp only[go_sem,hS0,hS1];(repeat' first|apply cj'|intro hc|apply a0o);(all_goals(try(refine(show A3H _ _ _ _ _ _ from ?_);simp only[go_sem,hS0,hS1]at hc ⊢;simp only[go_sem,hS0,hS1,K0]at hc ⊢;simp only[hc,K5];done)));all_goals try exact om'
  ·have hm:=u4 (l:=now) default (i:=j) z0D;have he6:=hJ.len _ hm;have hall:=c9k (A:=arA r n) (R:=arR r s n) (now:=now) (j:=j) z0D;refine lk' false [(false,11,0,100022)] [2,3,6,8,9,12,23,24,45,46,51] [4,6,16,18,17,19,5] [] (fun i:{k:Nat // k<=(arR r s n).length}=>[(11,.v false [.ow 100022]),(52,slV (.i .i64 i.1))]) nl' (fun i=>[(100022,a3R,(b8a (arA r n) (now.getD j default) (arR r s n) (a0f (arA r n) (arR r s n) (now.take j)) i.1).map (e7.cells false false))]) (fun i=>(arR r s n).length-i.1) (⟨0,z0E⟩) ?_;intro S2 hS2 i;obtain⟨k,hk1⟩:=i;have hlk:=c9l (A:=arA r n) (e:=now.getD j default) (R:=arR r s n) (base:=a0f (arA r n) (arR r s n) (now.take j)) hk1;simp only[go_sem,hS0,hS1,hS2];(repeat' first|apply cj'|intro hc|apply a0o);(all_goals(try((first|refine a0V 12 rfl ?_);intro S hS B0 hB;simp only[go_sem,hS0,hS1,hS2,z0B]at hS hB;(repeat(first|replace hS:=And.right hS|replace hS:=CJ.r hS));have Rr59:=congrArg (fun s:St=>s.sl 59) hS;have Rr62:=congrArg (fun s:St=>s.sl 62) hS;have Rr67:=congrArg (fun s:St=>s.sl 67) hS;have Rb16:=congrArg (fun s:St=>s.bx 16) hS;have Rb17:=congrArg (fun s:St=>s.bx 17) hS;have Rb18:=congrArg (fun s:St=>s.bx 18) hS;have Rb19:=congrArg (fun s:St=>s.bx 19) hS;clear hS;simp only[go_sem,hS0,hS1,hS2]at Rr59 Rr62 Rr67 Rb16 Rb17 Rb18 Rb19;(try clear hc);intro K hc;simp only[go_sem,hS0,hS1,hS2,Rr59,Rr62,Rr67,Rb16,Rb17,Rb18,Rb19,hB,K6]at hc ⊢;simp only[go_sem,hS0,hS1,hS2,Rr59,Rr62,Rr67,Rb16,Rb17,Rb18,Rb19,hB,K0]at hc ⊢;(first|(simp only[hc,K5];done)|((repeat' first|exact hc|apply W6);done)))));all_goals try exact om'
   ·exact⟨z0D,c2W hR z0D⟩
   ·(refine lpK_n2 (⟨k+1,z0D⟩) _ z0M ?_;simp only[go_sem,hS0,hS1,hS2]<;>repeat' first|apply W6|exact on'|fail)
    all_goals(rw[b8a,c1f hc];rfl)
   ·(refine lpK_n2 (⟨k+1,z0D⟩) _ z0M ?_;simp only[go_sem,hS0,hS1,hS2]<;>repeat' first|apply W6|exact on'|fail)
    all_goals(rw[b8a,c7s hc];simp)
   ·obtain rfl:k=(arR r s n).length:=by omega
    rw[hall]at hc;rw[u1,c5R hj z0D hk (j:=j+1) (show 2000<(a0f (arA r n) (arR r s n) (now.take (j+1))).length by omega)];exact⟨rfl,rfl⟩
   ·obtain rfl:k=(arR r s n).length:=by omega
    rw[hall]at hc
    (refine lpK_n2 (⟨j+1,z0D,z0D⟩) _ z0M ?_;simp only[go_sem,hS0,hS1,hS2]<;>repeat' first|apply W6|exact on'|fail)
    all_goals rw[hall]
  ·rw[j5 z0D]at hj2
   (refine lpK_n2 (⟨(n+1,a0f (arA r n) (arR r s n) now),z0G,d0o hj hk hj2⟩) _ z0M ?_;simp only[go_sem,hS0,hS1]<;>repeat' first|apply W6|exact on'|fail)
   all_goals rw[j5 z0D]
 obtain rfl:n=r.Body.length:=by omega
 have hJR:=d0p hj;obtain⟨_,hf,vs,hv⟩:=a3i hr hs;rw[hJR]at hf hv;simp only at hf hv;refine a2B 100012 ?_;refine a2B 10624 ?_;refine lq' false [2,3,6,85] [4,6,5] [] (fun i:{i:Nat // i<=now.length}=>[(16,.v false [.c (d6g (l5 a0z [] (a6k r s (now.take i.1))))]),(86,slV (.i .i64 i.1))]) nl' nl' (fun i=>now.length-i.1) (⟨0,z0E⟩) ?_;intro S3 hS3 i;obtain⟨i,hi⟩:=i;have hol:=b3V r s (now.take i);rw[V1]at hol;have hpl:=a0u a0z (a6k r s (now.take i)) [];have hm:=fun(h:i<now.length)=>hf _ (u4 default h)
 have hsub:∀k,∀x∈a6k r s (now.take k),Comp vs x:=fun k x hx=>hv x (e2j hx)
 have hsy:=fun(h:i<now.length) (hc:a9z r s (eqE r (now.getD i default))=true)=>(a9Y (r:=r) (s:=s) h).trans (by rw[(c1p hr (hm h).2.2).symm,hc,W8])
 have hsn:=fun(h:i<now.length) (hc:a9z r s (eqE r (now.getD i default))=false)=>(a9Y (r:=r) (s:=s) h).trans (by rw[(c1p hr (hm h).2.2).symm,hc,V2,q0A])
 simp only[go_sem,hS0,hS3];(repeat' first|apply cj'|intro hc|apply a0o);(all_goals(try((first|refine a0V 5 rfl ?_);intro S hS B0 hB;simp only[go_sem,hS0,hS3,z0B]at hS hB;(repeat(first|replace hS:=And.right hS|replace hS:=CJ.r hS));have Rr89:=congrArg (fun s:St=>s.sl 89) hS;have Rr93:=congrArg (fun s:St=>s.sl 93) hS;have Rb4:=congrArg (fun s:St=>s.bx 4) hS;have Rb5:=congrArg (fun s:St=>s.bx 5) hS;clear hS;simp only[go_sem,hS0,hS3]at Rr89 Rr93 Rb4 Rb5;(try clear hc);intro K hc;simp only[go_sem,hS0,hS3,Rr89,Rr93,Rb4,Rb5,hB,K6]at hc ⊢;simp only[go_sem,hS0,hS3,Rr89,Rr93,Rb4,Rb5,hB,K0]at hc ⊢;(first|(simp only[hc,K5];done)|((repeat' first|exact hc|apply W6);done)))));all_goals try exact om'
 ·have h1:=hsy z0D hc;refine⟨by simp only[q1R]at hpl;omega,vs,hsub (i+1) _ (by rw[h1];simp),e2o (by intro x hx;cases hx) (hsub i)⟩
 ·have h1:=hsy z0D hc
  (refine lpK_n2 (⟨i+1,z0D⟩) _ rfl ?_;simp only[go_sem,hS0,hS3]<;>repeat' first|apply W6|exact on'|fail)
  all_goals rw[h1,d4t]
 ·have h1:=hsn z0D hc
  (refine lpK_n2 (⟨i+1,z0D⟩) _ rfl ?_;simp only[go_sem,hS0,hS3]<;>repeat' first|apply W6|exact on'|fail)
  all_goals rw[h1]
 ·rw[j5 z0D,u1,hJR];exact⟨rfl,rfl⟩
noncomputable def a6K:CT:=n9 (fun(x:c8×c6) h=>b5W x.1 x.2 h)
@[go_sem] def d1Y:=fun x0 x1 x2 x3 x4=>nm' (fP' a6K rfl (⟨x0,⟨x1,x2⟩,x3⟩,⟨x4⟩))
end Go.Aw
namespace Go.Aw
open Go.Proofs
attribute [local irreducible] aft blk lpK retK AW A0e
set_option linter.all false
set_option maxRecDepth 100000
set_option maxHeartbeats 4000000
attribute [local irreducible] RM
def a8z{r:c8}{s:c6}(hr:l8 r=true)(hs:j9 s=true):(u1 r s).1.length<=2000/\∀e∈(u1 r s).1,e.Binds.length<=164:=by
 obtain⟨hl,hf,_⟩:=a3i hr hs;rw[u1];cases(a1n r s).2 with
 | false=>exact⟨q2D _,by intro e he;cases he⟩
 | true=>
   rw[W8];refine⟨?_,fun e he=>?_⟩
   ·have h1:=a0u a0z (a6k r s (a1n r s).1) [];have h2:=b3V r s (a1n r s).1;simp only[q1R]at h1;simp only;omega
   ·have h1:=(o7.1 he).resolve_left (by intro h;cases h);rw[a6k,q0N,q0R]at h1;obtain⟨⟨e',he',rfl⟩,_⟩:=h1;have h3:=(hf e' he').1;have h4:=eqR_len r e'.Binds;have h5:=a4C hr;simp only[eqE];omega
end Go.Aw
namespace Go.Aw
open Go.Proofs Go.Shelf Go.Sort Go.Lib Go.RowKit
set_option linter.all false
set_option maxRecDepth 1000000
set_option maxHeartbeats 4000000
def c9P(a:Option Addr)(cap:Nat)(g:Nat)(w:World):Calls Tryz.prog 173 #[.slice a 0 cap,.func (.func g) #[] #[]] w fun e w'=>e=.returned (.slice a 0 cap)/\w'=w:=by
 have h1:((0:Nat):Int)<2:=by omega
 go_enter Tryz.func173,Tryz.ntmps173
 go_wp2
 go_ret
 exact⟨rfl,rfl⟩
def d3R{α:Type}[Inhabited α](k:Nat)(zE:∀w,(Go.sizeOf 65).run Tryz.prog w=.ok k w)(z:Value)(hzv:∀w,(zeroValue 65).run Tryz.prog w=.ok z w)(hzs:z.cells.size=k)(hz1:∀n,∀v∈(Builtin.zeroCells z.cells n).toList,v.oneCell'=true)(enc:α->List Value)(hk:∀x,(enc x).length=k)(h1:∀x,∀v∈enc x,v.oneCell'=true)(eq:α->α->Bool)(g:Nat)(eg:∀args w,(callFunc g args).run Tryz.prog w=.ok (.enter g args) w)
  (blk off cap:Nat) (d:Array α) (w:World) (hq:c6w Tryz.prog g enc k eq blk off d.size w) (hH:HoldsK enc k w blk off d) (hblk:blk<w.heap.size) (hcap:d.size<=cap) (hsz:d.size<4611686018427387904):
  Calls Tryz.prog 173 #[.slice (some ⟨blk,off,none⟩) d.size cap,.func (.func g) #[] #[]] w fun e w'=>e=.returned (.slice (some ⟨blk,off,none⟩) (keptUpTo (kpE eq d) d d.size).length cap)/\a7b enc k w blk off d (kpE eq d) w':=by
 have u0:=run_underlying Tryz.underlying126;have mixed:Tryz.prog.follows Departure.mixedOrders=true:=by kernel_rfl
 have aE:∀w,(isAgg 65).run Tryz.prog w=.ok true w:=fun w=>rfl
 have R:RowK enc k w blk off d:=⟨hk,h1,hH,hblk⟩
 obtain⟨kp,HK⟩:∃kp:Nat->Bool,Hid (kp=kpE eq d):=⟨_,rfl⟩
 rw[show kpE eq d=kp from HK.out.symm];have same:∀W,SWK enc k w blk off d W->(∀j,j<d.size->kp j=true)->(keptUpTo kp d d.size).length=d.size/\a7b enc k w blk off d kp W:=by
  rintro W ⟨n,os,rfl⟩ hall;have e:keptUpTo kp d d.size=d.toList:=by rw[keptUpTo_all kp d _ hall,range_map_get]
  unfold a7b;rw[e];refine⟨z0E,n,os,d,[],rfl,fun j hj=>?_,z0E,rfl⟩;have hj':j<d.size:=by simpa using hj
  rw[getElem!_pos d j hj',V7 hj];simp
 have hz0:∀j,j<1->kp j=true:=fun j hj=>by
  obtain rfl:j=0:=by omega
  rw[HK.out];simp[kpE]
 have HZ:Aside (∀w,(zeroValue 65).run Tryz.prog w=.ok z w):=hzv;have HZ1:Aside (∀n,∀v∈(Builtin.zeroCells z.cells n).toList,v.oneCell'=true):=hz1;have HZS:Aside (z.cells.size=k):=hzs;clear hzv hz1 hzs;have HS:Aside _:=same;have HC:Aside _:=hq;have HR:Aside _:=R;clear same hq R hH hblk hk h1;by_cases h2:d.size<2
 ·have h2z:(d.size:Int)<2:=by omega
  go_enter Tryz.func173,Tryz.ntmps173
  go_wp2
  go_ret
  obtain⟨e1,e2⟩:=HS.out w (SWK.start HR.out.hH) (fun j hj=>hz0 j z0D);exact⟨by rw[e1];rfl,e2⟩
 ·have h2z:¬(d.size:Int)<2:=by omega
  go_enter Tryz.func173,Tryz.ntmps173
  go_wp2
  go_loopg [5] d.size (fun gg s5 wr=>∃kk:Nat,1<=kk/\kk<=d.size/\d.size-kk<=gg/\s5=.int .i64 kk/\Aside (SWK enc k w blk off d wr)/\Aside (∀j,j<kk->kp j=true))
  case atStart=>exact⟨1,q0F _,z0D,z0D,rfl,SWK.start HR.out.hH,hz0⟩
  case round=>
   obtain⟨kk,hk1,hkd,hg,rfl,SW,A⟩:=hrel;by_cases hlt:kk<d.size
   ·have hltz:(kk:Int)<(d.size:Int):=by omega
    obtain⟨kq,rfl⟩:∃kq,kk=kq+1:=⟨kk-1,z0D⟩
    have hwp:IntKind.i64.wrap (kq:Int)=(kq:Int):=by rw[IntKind.wrap_i64];omega
    have jz:(kq:Int)+1<(d.size:Int):=by omega
    have jz1:(kq:Int)<(d.size:Int):=by omega
    have p0:(0:Int)<=(kq:Int)+1:=by omega
    have e0:((kq:Int)+1).toNat=kq+1:=by omega
    have lj:=SW.out.ld HR.out rfl Tryz.prog (kq+1) hlt;have lp:=SW.out.ld HR.out rfl Tryz.prog kq z0D;have hcg:=e0F SW.out HC.out rfl d[kq+1]! d[kq]!;generalize hx:d[kq+1]! = x at lj hcg;generalize hy:d[kq]! = y at lp hcg;have B:Aside (d[kq+1]! = x/\d[kq]! = y):=⟨hx,hy⟩
    clear hx hy hz0;cases hq:eq x y with
    | false=>
      rw[hq]at hcg
      go_wp2_with fail
      go_quiet_grown (first|(go_at_fn g;refine Calls.grown_of (hcg _ _)))
      go_wp2
      go_roundg (d.size-(kq+2))
      case measure=>omega
      case rel=>
       refine⟨kq+2,z0D,z0D,q0F _,by go_num,SW.out.grown _ _,(show Aside _ from fun j hj=>?_)⟩;by_cases e:j=kq+1
       ·subst e;rw[HK.out];exact d6l (by rw[B.out.1,Nat.add_sub_cancel,B.out.2];exact hq)
       ·exact A.out j (by omega)
    | true=>
      rw[hq]at hcg
      go_wp2_with fail
      go_quiet_grown (first|(go_at_fn g;refine Calls.grown_of (hcg _ _)))
      have SW2:Aside (SWK enc k w blk off d (grow (wr.drewN nq) osq)):=SW.out.grown nq osq;clear lj lp hcg;show Exit.then _ _ _ _ (grow (wr.drewN nq) osq);generalize grow (wr.drewN nq) osq=w2 at SW2 ⊢;have hkc:(kq:Int)+1<=(d.size:Int):=by omega
      have hkc2:(kq:Int)+1<=(cap:Int):=by omega
      have hdc:(d.size:Int)<=(cap:Int):=by omega
      go_wp2
      go_loopg [5,7] d.size (fun gg s5 s7 wr2=>∃(i m:Nat) (dk:Array α),s5=.int .i64 i/\s7=.int .i64 m/\1<=m/\kq+1+m<=d.size/\d.size-(kq+1+m)<=gg/\Aside (SWK enc k w blk off dk wr2)/\Aside (KeptInv kp d (kq+1+m) i dk))
      case atStart=>exact⟨kq+1,1,d,by first|rfl|go_num,rfl,q0F _,z0D,z0D,SW2,KeptInv.start A.out (by rw[HK.out];exact d6k z0D (by rw[B.out.1,Nat.add_sub_cancel,B.out.2];exact hq))⟩
      case round=>
       obtain⟨i,m,dk,rfl,rfl,hm1,hmd,hg2,SWr,I⟩:=hrel;have hds:=I.out.size;have hil:=I.out.lt;by_cases hlt2:kq+1+m<d.size
       ·obtain⟨mq,rfl⟩:∃mq,m=mq+1:=⟨m-1,z0D⟩
        have hadd:∀z,off+(kq+1)*k+z*k=off+(kq+1+z)*k:=fun z=>by rw[q2C (kq+1) z k];omega
        have lj:=SWr.out.ld HR.out hds Tryz.prog (kq+1+(mq+1)) z0D;have lp:=SWr.out.ld HR.out hds Tryz.prog (kq+1+mq) z0D;have hcg:=e0F SWr.out HC.out hds dk[kq+1+(mq+1)]! dk[kq+1+mq]!;have hx2:dk[kq+1+(mq+1)]! = d[kq+1+(mq+1)]!:=I.out.high _ z0D;have hy2:dk[kq+1+mq]! = d[kq+1+mq]!:=I.out.high _ z0D;generalize dk[kq+1+(mq+1)]! = u at lj hcg hx2;generalize dk[kq+1+mq]! = v at lp hcg hy2;have C:Aside (u=d[kq+1+(mq+1)]!/\v=d[kq+1+mq]!):=⟨hx2,hy2⟩
        clear hx2 hy2;have hwm:IntKind.i64.wrap (mq:Int)=(mq:Int):=by rw[IntKind.wrap_i64];omega
        have m0:(0:Int)<=(mq:Int)+1:=by omega
        have m1:((mq:Int)+1).toNat=mq+1:=by omega
        have mz:(mq:Int)+1<((d.size-(kq+1):Nat):Int):=by omega
        have mz1:(mq:Int)<((d.size-(kq+1):Nat):Int):=by omega
        have hsm:mq+1<d.size-(kq+1):=by omega
        have hsm1:mq<d.size-(kq+1):=by omega
        have hB:i*k+k<=dk.size*k:=by
         have:=q1S k (show i+1<=dk.size by omega);rwa [q2C,q4K]at this
        have iz:(i:Int)<(d.size:Int):=by omega
        have izn:i<d.size:=by omega
        cases hq2:eq u v with
        | false=>
          rw[hq2]at hcg
          go_wp2_with fail
          go_quiet_grown (first|(go_at_fn g;refine Calls.grown_of (hcg _ _)))
          have SW3:=SWr.out.grown nq osq;clear lj lp hcg;show Exit.then _ _ _ _ (grow (wr.drewN nq) osq);generalize grow (wr.drewN nq) osq=w3 at SW3 ⊢;have lj3:=SW3.load HR.out hds Tryz.prog (kq+1+(mq+1)) z0D;have hx2:dk[kq+1+(mq+1)]! = u:=(I.out.high _ z0D).trans C.out.1.symm;rw[hx2]at lj3;have s1:Sem.run Tryz.prog (storeCells ⟨blk,off+i*k,none⟩ (enc u) 0) w3=.ok () (w3.setCells blk (off+i*k) (enc u)):=stores_of_holds Tryz.prog (SW3.holds HR.out.hblk HR.out.hH hds) (i*k) _ (by rw[HR.out.hk,size_flatK];exact hB) (HR.out.h1 _);have hsU:(enc u).length=k:=HR.out.hk _;have SW4:Aside (SWK enc k w blk off (dk.setIfInBounds i u) (w3.setCells blk (off+i*k) (enc u))):=c5q SW3 HR.out.hk HR.out.hblk i z0D u;clear SW3 hx2 hB;obtain⟨cU,hcU⟩:∃c,c=enc u:=⟨_,rfl⟩
          rw[<-hcU]at lj3 s1 hsU SW4;clear hcU
          go_wp2
          go_roundg (d.size-(kq+1+(mq+2)))
          case measure=>omega
          case rel=>
           refine⟨i+1,mq+2,dk.setIfInBounds i u,by go_num,by go_num,z0D,z0D,q0F _,SW4,(show Aside _ from ?_)⟩;have:=I.out.keep hlt2 (by rw[HK.out];exact d6l z1E)
           rwa [<-C.out.1]at this
        | true=>
          rw[hq2]at hcg
          go_wp2_with fail
          go_quiet_grown (first|(go_at_fn g;refine Calls.grown_of (hcg _ _)))
          have SW3:Aside (SWK enc k w blk off dk (grow (wr.drewN nq) osq)):=SWr.out.grown nq osq;clear lj lp hcg;show Exit.then _ _ _ _ (grow (wr.drewN nq) osq);generalize grow (wr.drewN nq) osq=w3 at SW3 ⊢
          go_wp2
          go_roundg (d.size-(kq+1+(mq+2)))
          case measure=>omega
          case rel=>exact⟨i,mq+2,dk,rfl,by go_num,z0D,z0D,q0F _,SW3,I.out.skip (by rw[HK.out];exact d6k z0D z1E)⟩
       ·have hend:kq+1+m=d.size:=by omega
        have hmz:¬(m:Int)<((d.size-(kq+1):Nat):Int):=by omega
        have hmn:¬m<d.size-(kq+1):=by omega
        have hin:0<d.size-i:=by omega
        have hidz:(i:Int)<=(d.size:Int):=by omega
        have hicz:(i:Int)<=(cap:Int):=by omega
        have hHk:HoldsK enc k wr blk off dk:=SWr.out.holds HR.out.hblk HR.out.hH hds;have hzl:(Builtin.zeroCells z.cells (d.size-i)).toList.length=(d.size-i)*k:=by simp[Builtin.zeroCells,HZS.out]
        have hcl:∀ty,(Builtin.clear_ #[126] ty #[.slice (some ⟨blk,off+i*k,none⟩) (d.size-i) (cap-i)]).run Tryz.prog wr=.ok (.tuple #[]) (wr.setCells blk (off+i*k) (Builtin.zeroCells z.cells (d.size-i)).toList):=fun ty=>
         b6P wr _ _ ty z Tryz.underlying126 HZ.out (HZ1.out _) blk (off+i*k) _ hin
          (fun j hj=>z0V)
          (fun j hj=>z0U)
        generalize(Builtin.zeroCells z.cells (d.size-i)).toList=zs at hcl hzl;clear hHk
        go_wp2
        go_ret
        have hI:=I.out;rw[hend]at hI;refine⟨by rw[hI.len];rfl, ?_⟩;obtain⟨n,os,hw⟩:=SWr.out;refine⟨n,os,dk,zs,hds,fun j hj=>hI.low j (by rw[<-hI.len];exact hj), ?_,by rw[hI.len,<-hw]⟩;rw[hI.len,hzl,<-q2C];exact q1S k (by omega)
   ·obtain rfl:kk=d.size:=by omega
    have hltz:¬(d.size:Int)<(d.size:Int):=by omega
    go_wp2
    go_ret
    obtain⟨e1,e2⟩:=HS.out _ SW.out A.out;exact⟨by rw[e1];rfl,e2⟩
def c9Q:CpfRuns Tryz.prog 173 1:=⟨c9P,fun enc hk h1 eq g eg blk off cap d w hq hH hblk hcap hsz=>d3R 1 (fun w=>rfl) (.agg #[.slice none 0 0]) (fun w=>rfl) rfl (b1h z02 (by simp[Value.cells,Value.oneCell'])) enc hk h1 eq g eg blk off cap d w hq hH hblk hcap hsz⟩
end Go.Aw
namespace Go.Aw
open Go.Proofs Go.Shelf
attribute [local irreducible] aft blk lpK retK AW A0e
set_option linter.all false
set_option maxRecDepth 100000
set_option maxHeartbeats 4000000
attribute [local irreducible] RM
def o5(a b:c7):Bool:=a4s vLt a.V b.V
def a0R:STO o5 where
 irr x:=b4h.lex.irr x.V
 tr x y z:=b4h.lex.tr x.V y.V z.V
 tri x y h1 h2:=by
  have:=b4h.lex.tri x.V y.V h1 h2;cases x;cases y;simp_all
def c2Q:∀{a b:List d8},okL a->okL b->a1C a b=bif a4s vLt a b then-1 else bif a4s vLt b a then 1 else 0
 | [],[],_,_=>rfl
 | [],_::_,_,_=>rfl
 | _::_,[],_,_=>rfl
 | x::a,y::b,ha,hb=>by
   have hx:=ha x z0E;have hy:=hb y z0E;have ih:=c2Q (okL.tl ha) (okL.tl hb);rw[a1C,<-c8A hx hy,<-c8A hy hx,a4s,a4s];cases h1:vLt x y with
   | true=>rw[b4h.asy h1];rfl
   | false=>
     cases h2:vLt y x with
     | true=>rfl
     | false=>rw[V2,V2,ih];rfl
def bRow_by{a b:c7}(ha:okL a.V)(hb:okL b.V):decide (a2f a.V b.V<0)=o5 a b:=by
 have h:=c2Q ha hb;rw[o5];cases h1:a4s vLt a.V b.V with
 | true=>rw[h1,W8]at h;exact V3 ((b2B ha hb).2 h)
 | false=>
   rw[h1,V2]at h;refine V5 fun h2=>?_
   rw[(b2B ha hb).1 h2]at h;cases h3:a4s vLt b.V a.V<;>rw[h3]at h<;>exact absurd h z02
def b9m{a b:c7}(ha:okL a.V)(hb:okL b.V):(a1C a.V b.V==-1)=o5 a b:=by
 rw[c2Q ha hb,o5];cases a4s vLt a.V b.V with
 | true=>rfl
 | false=>cases a4s vLt b.V a.V<;>rfl
def d4f(l:List d8)(hpre:l.length<1000000):spZ 299 [(false,[.sl false [.i .i64 0,.s []] (l.map d8.cells)])] [] (.one (false,[.sl true [.i .i64 0,.s []] (l.map d8.cells)])):=by
 exact a6L (d:=[.i .i64 0,.s []]) Tryz.cloneVal z0L (hi:=rfl) (hz0:=rfl) (hz1:=rfl) (bytes:=24) (hz2:=rfl) (hzs:=rfl) z02 (fun w=>rfl) _ z01
noncomputable def c0F:CT:=n9 (fun(x:(List d8)) h=>d4f x h)
@[go_sem] def e2N:=fun l=>nm' (fP' c0F rfl l)
def c1M(r:c7)(hpre:r.V.length<1000000):spZ 236 [(true,[l9 r.V])] [] (.one (true,[a5D r.V])):=by
 refine sy' Tryz.func236 (q' 1 [aX 1 0,aw [.sl l7]] (q' 3 [aG 0 1,ac 299 [4],ao (.bld [.sl l7] [(0,1,.t 5)]),aS 1 2 6] .ret)) [.c 2 true 1] [(299,[],c0F)] ?_;intro hb hE;simp only[go_sem];repeat' first|apply cj'|intro hc|exact om'|fail
noncomputable def a8P:CT:=n9 (fun(x:c7) h=>c1M x h)
@[go_sem] def d4V:=fun x0=>nm' (fP' a8P rfl ⟨x0⟩)
def d8U(a:List c7)(hpre:a.length<4611686018427387904/\∀x∈a,okL x.V):spZ 172 [(false,[.sl true [.sl true [.i .i64 0,.s []] []] (a.map (c7.cells true true))]),(false,[.f 155 []])] [(0,(false,[.sl true [.sl true [.i .i64 0,.s []] []] ((a1a o5 a).map (c7.cells true true))]))] (.tup []):=by
 obtain⟨hlen,hd⟩:=hpre;exact c6o Tryz.sortRow z0L (k:=1) (fun w=>rfl) (fun w=>rfl) (cf:=c7.cells true true) (cb:=c7.cells false false) (z:=[.sl true [.i .i64 0,.s []] []]) rfl (fun x=>by simp only[go_sem]) (fun _=>rfl) (dom:=fun x=>okL x.V) (fun x y=>a2f x.V y.V) a0R (fun x y hx hy=>bRow_by hx hy) (enters_of Tryz.func155 z0L rfl) (fun x y _ _=>b3B x y) a hd hlen
noncomputable def c5I:CT:=n9 (fun(x:(List c7)) h=>d8U x h)
@[go_sem] def e3g:=fun a=>nm' (fP' c5I rfl a)
def e1P(a:List c7)(hpre:a.length<4611686018427387904):spZ 173 [(false,[.sl true [.sl true [.i .i64 0,.s []] []] (a.map (c7.cells true true))]),(false,[.f 112 []])] [] (.one (false,[.sl true [.sl true [.i .i64 0,.s []] []] ((Lib.compact a).map (c7.cells true true))])):=by
 have h:=cpf_out (P:=Tryz.prog) c9Q z0L (cf:=c7.cells true true) (cb:=c7.cells false false) (z:=[.sl true [.i .i64 0,.s []] []]) rfl (fun x=>by simp only[go_sem]) (fun _=>rfl) (dom:=fun _=>True) (fun x y:c7=>decide (x.V=y.V)) (enters_of Tryz.func112 z0L rfl) (fun x y _ _=>a9B x y) a (fun _ _=>trivial) hpre;rw[show(fun x y:c7=>decide (x.V=y.V))=fun x y=>decide (x=y)from funext fun x=>funext fun y=>by cases x;cases y;simp,c4g]at h;exact h
noncomputable def c9t:CT:=n9 (fun(x:(List c7)) h=>e1P x h)
@[go_sem] def c_cpfRow_eq:=fun a=>nm' (fP' c9t rfl a)
def c1L(r:f8)(hpre:r.Rows.length<=200000/\∀x∈r.Rows,x.V.length<1000):spZ 171 [(true,[.i .i64 r.Arity,u7 r.Rows])] [] (.one (true,[.i .i64 r.Arity,b3x r.Rows])):=by
 refine sx' true false none Tryz.func171 (q' 1 [aX 2 0,aw [.i .i64,.sl k7]] (q' 6 [aG 0 1,ao (.bld [.i .i64,.sl k7] [(0,1,.t 7)]),ax (w' 3 [.i .i64,.sl k7]),aS 2 3 8] (.seq (q' 9 [aG 1 1,aN,aK 0] (fO 0 13 [ar 12 11] 13 1 (q' 14 [ai 1 10 12,aE 1,ax (w' 5 [.sl l7]),aS 1 5 15] (rm' [(true,2,e' 18 1 5),(false,0,f' 16 1 3),(false,1,l' 17 16),(false,3,c' 19 236 [18]),(false,4,o' 20 (.bsl 1 1 [.sl l7] [(0,.t 19)])),(false,5,o' 21 (.app 1 24 [.sl l7] (.t 17) (.t 20))),(false,6,f' 22 1 3),(false,7,s' 1 22 21)] [[0,1,3,2,4,5,6,7],[0,1,3,4,2,5,6,7],[0,3,1,2,4,5,6,7],[0,3,1,4,2,5,6,7],[0,3,4,1,2,5,6,7]] [10,11])) (g' 23 [aA 12]))) (q' 24 [ae 2 3,aS 2 2 24] .ret)))) [.c 2 true 2] [(236,[],a8P)] ?_;intro hb hE;obtain⟨hl,hv⟩:=hpre;simp only[go_sem];(repeat' first|apply cj'|intro hc|apply a0o);(all_goals(try(refine(show A3H _ _ _ _ _ _ from ?_);simp only[go_sem]at hc ⊢;simp only[go_sem,K0]at hc ⊢;simp only[hc,K5];done)));all_goals try exact om'
 refine lk' true [(true,6,1,200012)] [2,3,10,11] [4,11] [] (fun i:{i:Nat // i<=r.Rows.length}=>[(12,slV (.i .i64 i.1))]) (fun i=>[(6,[.c (.i .i64 r.Arity),.ow 200012])]) (fun i=>[(200012,b6T,(r.Rows.take i.1).map (c7.cells true true))]) (fun i=>r.Rows.length-i.1) (⟨0,z0E⟩) ?_;intro S0 hS0 i;obtain⟨i,hi⟩:=i;have hm:=fun(h:i<r.Rows.length)=>hv _ (u4 default h)
 have hol:(r.Rows.take i).length=i:=by rw[V1];omega
 have hsn:i<r.Rows.length->r.Rows.take (i+1)=r.Rows.take i++[r.Rows.getD i default]:=fun h=>j6 default h
 simp only[go_sem,hS0];(repeat' first|apply cj'|intro hc|apply a0o);(all_goals(try((first|refine a0V 1 rfl ?_);intro S hS B0 hB;simp only[go_sem,hS0,z0B]at hS hB;(repeat(first|replace hS:=And.right hS|replace hS:=CJ.r hS));have Rr3:=congrArg (fun s:St=>s.sl 3) hS;have Rr18:=congrArg (fun s:St=>s.sl 18) hS;have Rb6:=congrArg (fun s:St=>s.bx 6) hS;have Rb10:=congrArg (fun s:St=>s.bx 10) hS;have Rb11:=congrArg (fun s:St=>s.bx 11) hS;have Ro200012:=congrArg (fun s:St=>s.ow 200012) hS;clear hS;simp only[go_sem,hS0]at Rr3 Rr18 Rb6 Rb10 Rb11 Ro200012;(try clear hc);intro K hc;simp only[go_sem,hS0,Rr3,Rr18,Rb6,Rb10,Rb11,Ro200012,hB,K6]at hc ⊢;simp only[go_sem,hS0,Rr3,Rr18,Rb6,Rb10,Rb11,Ro200012,hB,K0]at hc ⊢;(first|(simp only[hc,K5];done)|((repeat' first|exact hc|apply W6);done)))));all_goals try exact om'
 ·(refine lpK_n2 (⟨i+1,z0D⟩) _ z0H ?_;simp only[go_sem,hS0]<;>repeat' first|apply W6|exact on'|fail)
  all_goals rw[hsn z0D]
 ·rw[j5 z0D]
noncomputable def a8O:CT:=n9 (fun(x:f8) h=>c1L x h)
@[go_sem] def d4U:=fun x0 x1=>nm' (fP' a8O rfl ⟨x0,x1⟩)
def a6n(a:Int)(rows:List c7):f8×Bool:=bif decide (300<((Lib.compact (a1a o5 rows)).length:Int))then(default,false)else(⟨a,Lib.compact (a1a o5 rows)⟩,true)
def b3G(arity:Int)(rows:List c7)(hpre:rows.length<=100000/\∀x∈rows,okL x.V/\x.V.length<1000):spZ 118 [(false,[.i .i64 arity]),(false,[u7 rows])] [] (.tup [(true,[.i .i64 (((a6n arity rows).1).Arity),b3x (((a6n arity rows).1).Rows)]),(false,[.b ((a6n arity rows).2)])]):=by
 refine sx' true false none Tryz.func118 (q' 4 [aw [.i .i64,.sl k7],aU false] (q' 7 [aM [0,1],ao (.bld [.i .i64,.sl k7] [(0,1,.t 7),(1, 1,.t 8)]),ac 171 [9],ax (w' 6 [.i .i64,.sl k7]),aS 2 6 10] (q' 11 [aG 1 6,ao (.call 172 [.t 12,.k (.v false [.c (.f 155 [])])])] (q' 14 [aG 1 6,ao (.call 173 [.t 15,.k (.v false [.c (.f 112 [])])]),af 1 6,aS 1 17 16] (.seq (q' 18 [aG 1 6,aN,aC .gtr 20 300] (ci 21 (q' 22 [ao (.bld [.i .i64,.sl k7] []),aS 2 4 22,ab 5 false] .ret))) (q' 23 [ae 2 6,aS 2 4 23,ab 5 true] .ret)))))) [.c 4 true 2,.t 5] [(171,[],a8O),(172,[0],c5I),(173,[0],c9t)] ?_;intro hb hE;obtain⟨hl,hv⟩:=hpre;have hs:=(a1q o5 rows).length_eq;simp only[go_sem];repeat' first|apply cj'|intro hc|exact om'|fail
 ·exact⟨z0D,fun x hx=>(hv x hx).2⟩
 ·exact⟨z0D,fun x hx=>(hv x hx).1⟩
 ·rw[a6n,V3 hc];exact⟨⟨rfl,rfl⟩,rfl⟩
 ·rw[a6n,V5 hc];exact⟨⟨rfl,rfl⟩,rfl⟩
noncomputable def b2S:CT:=n9 (fun(x:Int×(List c7)) h=>b3G x.1 x.2 h)
@[go_sem] def d9P:=fun x0 x1=>nm' (fP' b2S rfl (x0,x1))
def c1S(arity:Int)(rows:List c7)(hpre:rows.length<=100000/\∀x∈rows,okL x.V/\x.V.length<1000):spZ 118 [(false,[.i .i64 arity]),(false,[u7 rows])] [] (.tup [(true,[.i .i64 (((a6n arity rows).1).Arity),u7 (((a6n arity rows).1).Rows)]),(false,[.b ((a6n arity rows).2)])]):=by
 exact a4y (b3G arity rows hpre) z0Z
noncomputable def a2J:CT:=n9 (fun(x:Int×(List c7)) h=>c1S x.1 x.2 h)
@[go_sem] def d5d:=fun x0 x1=>nm' (fP' a2J rfl (x0,x1))
def b2T:OkC Tryz.prog 118 a2J:=a4p _
def c7j(l:List c7):Lib.compact (a1a o5 l)=l5 o5 [] l:=
 a2N a0R (SS.puts a0R SS.nil) fun x=>by rw[o7];simp
end Go.Aw
namespace Go.Aw
open Go.Proofs
attribute [local irreducible] aft blk lpK retK AW A0e
set_option linter.all false
set_option maxRecDepth 100000
set_option maxHeartbeats 4000000
attribute [local irreducible] RM
def b1d(r:c7)(hpre:r.V.length<1000000):spZ 132 [(true,[l9 r.V])] [] (.one (true,[a5D r.V])):=by
 refine sy' Tryz.func132 (q' 1 [aX 1 0,aw [.sl l7]] (q' 3 [ao (.bsl 2 0 [.i .i64,.s] []),aG 0 1,ao (.app 2 24 [.i .i64,.s] (.t 3) (.t 5)),ao (.bld [.sl l7] [(0,1,.t 6)]),aS 1 2 7] .ret)) [.c 2 true 1] [] ?_;intro hb hE;simp only[go_sem];repeat' first|apply cj'|intro hc|exact om'|fail
noncomputable def b0S:CT:=n9 (fun(x:c7) h=>b1d x h)
@[go_sem] def d8o:=fun x0=>nm' (fP' b0S rfl ⟨x0⟩)
def b8H(r:c7)(hpre:r.V.length<1000000):spZ 132 [(true,[l9 r.V])] [] (.one (true,[l9 r.V])):=by
 exact a4y (b1d r hpre) z0Z
noncomputable def a3W:CT:=n9 (fun(x:c7) h=>b8H x h)
@[go_sem] def d3w:=fun x0=>nm' (fP' a3W rfl ⟨x0⟩)
def a5b{l:List c7}{r:c7}:s8 l r=true↔r∈l:=by
 rw[s8,q3E];constructor
 ·rintro⟨x,hx,h⟩;have h2:=of_decide_eq_true h;obtain rfl:x=r:=by cases x;cases r;simp_all
  exact hx
 ·exact fun h=>⟨r,h,z0E⟩
def b5V(e:e7)(args:List d9)(hpre:args.length<=6):spZ 134 [(true,[a0b e.Binds]),(false,[o6 args])] [] (.tup [(true,[l9 (((a0i e args).1).V)]),(false,[.b ((a0i e args).2)])]):=by
 exact a4y (a9D e args hpre) z0Z
noncomputable def a6J:CT:=n9 (fun(x:e7×(List d9)) h=>b5V x.1 x.2 h)
@[go_sem] def d1X:=fun x0 x1=>nm' (fP' a6J rfl (⟨x0⟩,x1))
def c5e(l:List c7)(r:c7)(hpre:l.length<=100000/\(okL r.V/\r.V.length<1000)/\∀x∈l,okL x.V):spZ 92 [(false,[u7 l]),(true,[l9 r.V])] [] (.one (false,[u7 (a1j o5 l r)])):=by
 refine sx' false true none Tryz.func92 (q' 3 [aX 1 1,ao (.mov (.k (.v false [.nl k7])))] (.seq (q' 8 [am 0,ae 1 3,ac 135 [8,9]] (ci 10 (q' 11 [am 0,aV 4] .ret))) (q' 12 [ao (.bsl 1 0 [.sl l7] []),aV 5] (q' 6 [aU false] (.seq (q' 13 [am 0,aN,aK 0] (fO 0 16 [ar 15 14] 16 1 (q' 17 [am 15,aV 7] (.seq (.seq (G' 18 [am 6,aO 18,am 19,aH 20 true [be 1 3,bm 0,bm 7,bI 1,bE 1,bc 136 [21,25],bC .eql 26 (-1)],aP 20 27]) (ci 28 (q' 29 [am 5,ae 1 3,ac 132 [30],ao (.bsl 1 1 [.sl l7] [(0,.t 31)]),ao (.app 1 24 [.sl l7] (.t 29) (.t 32)),aV 5] (g' 6 [aU true])))) (g' 34 [aM [5,0,7],aI 1,aE 1,ao (.bsl 1 1 [.sl l7] [(0,.t 38)]),ao (.app 1 24 [.sl l7] (.t 34) (.t 39)),aV 5]))) (g' 41 [aA 15]))) (.seq (q' 42 [am 6,aO 42] (ci 43 (g' 44 [am 5,ae 1 3,ac 132 [45],ao (.bsl 1 1 [.sl l7] [(0,.t 46)]),ao (.app 1 24 [.sl l7] (.t 44) (.t 47)),aV 5]))) (q' 49 [am 5,aV 4] .ret))))))) [.t 4] [(135,[],a3t),(136,[],a3V),(132,[],a3W)] ?_;intro hb hE;obtain⟨hlen,⟨hr,hrl⟩,hl0⟩:=hpre;simp only[go_sem];repeat' first|apply cj'|intro hc|exact om'|fail
 ·rw[a1j,if_pos (a5b.1 hc)]
 have hN:¬r∈l:=fun h=>by rw[a5b.2 h]at hc;cases hc
 clear hc;refine lk' false [(false,5,0,100010)] [0,3,14] [6] [] (fun i:{i:Nat // i<=l.length}=>[(5,.v false [.ow 100010]),(6,slV (.b ((l.take i.1).any (o5 r)))),(15,slV (.i .i64 i.1))]) nl' (fun i=>[(100010,k7,(a1O o5 r (l.take i.1)).map (c7.cells false false))]) (fun i=>l.length-i.1) (⟨0,z0E⟩) ?_;intro S0 hS0 i;obtain⟨i,hi⟩:=i;have hl:=b9d o5 r (l.take i);rw[V1]at hl;have hC:=fun(h:i<l.length)=>hl0 _ (u4 (l:=l) default h)
 have hx:=fun(h:i<l.length)=>j6 (l:=l) default (i:=i) h
 simp only[go_sem,hS0];repeat' first|apply cj'|intro hc|exact om'|fail
 ·have h5:o5 r (l.getD i default)=true:=by rw[<-b9m hr (hC z0D)];exact hc.2
  have h1:(l.take (i+1)).any (o5 r)=true:=by rw[hx z0D,q2F,hc.1,q2P,h5];rfl
  have h2:a1O o5 r (l.take (i+1))=a1O o5 r (l.take i)++[r]++[l.getD i default]:=by rw[hx z0D,b9c hc.1 h5]
  (refine lpK_n2 (⟨i+1,z0D⟩) _ z0H ?_;simp only[go_sem,hS0]<;>repeat' first|apply W6|exact on'|fail)
  all_goals first|rw[h1]|rw[h2]|trace_state
 ·have h3:(l.take (i+1)).any (o5 r)=(l.take i).any (o5 r)/\a1O o5 r (l.take (i+1))=a1O o5 r (l.take i)++[l.getD i default]:=by
   rw[hx z0D];cases h:(l.take i).any (o5 r)with
   | true=>exact⟨z2R,b3u h⟩
   | false=>
     rw[h,b9m hr (hC z0D)]at hc;have hc2:o5 r (l.getD i default)=false:=hc;exact⟨z12,c7D h hc2⟩
  (refine lpK_n2 (⟨i+1,z0D⟩) _ z0H ?_;simp only[go_sem,hS0]<;>repeat' first|apply W6|exact on'|fail)
  all_goals first|rw[h3.1]|rw[h3.2]|trace_state
 ·rw[j5 z0D]at hc ⊢;rw[b3w hN hc]
 ·rw[j5 z0D]at hc ⊢;rw[b3v hN hc]
noncomputable def a3u:CT:=n9 (fun(x:(List c7)×c7) h=>c5e x.1 x.2 h)
@[go_sem] def d8q:=fun l x0=>nm' (fP' a3u rfl (l,⟨x0⟩))
noncomputable def a3M(r:c8)(s:c6):List c7:=(u1 r s).1.map fun e=>(a0i e r.Head.Args).1
noncomputable def t6(r:c8)(s:c6):f8×Bool:=bif (u1 r s).2 then a6n r.Head.Args.length (a3M r s)else(default,false)
def a3h{r:c8}(h:l8 r=true):r.Head.Args.all a0j=true/\r.Head.Args.length<=6:=by
 simp only[l8,a4E,K7]at h;exact⟨h.1.1.2.2,z0D⟩
def b3Z{r:c8}{s:c6}(hr:l8 r=true)(hs:j9 s=true):(a3M r s).length<=2000/\∀x∈a3M r s,okL x.V/\x.V.length<1000:=by
 refine⟨by rw[a3M,q0C];exact(a8z hr hs).1,fun x hx=>?_⟩;obtain⟨e,he,rfl⟩:=q0R.1 hx;obtain⟨_,_,vs,hv⟩:=a3i hr hs;have h1:EnvS e.Binds:=by
  rw[u1]at he;cases hj:(a1n r s).2 with
  | false=>rw[hj]at he;cases he
  | true=>
    rw[hj,W8]at he;exact(hv e ((o7.1 he).resolve_left (by intro h;cases h))).1
 have h2:=c1d h1 (a3h hr).1 (a3h hr).2;have h3:=(c6k h2).1;exact⟨a0v h2,by
  have:(a0i e r.Head.Args).1.V.length<=6:=h3;omega⟩
def b3D(r:c8)(s:c6)(hpre:l8 r=true/\j9 s=true):spZ 106 [(true,[.i .i64 r.Kind,.s r.Head.Name,o6 r.Head.Args,a0s r.Body]),(true,[j7 s.Rels])] [] (.tup [(true,[.i .i64 (((t6 r s).1).Arity),b3x (((t6 r s).1).Rows)]),(false,[.b ((t6 r s).2)])]):=by
 refine sx' true false none Tryz.func106 (q' 2 [aX 4 0,aX 1 1,aw [.i .i64,.sl k7],aU false] (q' 14 [ae 4 2,ae 1 3,ac 164 [14,15],aV 13,aZ 13 0,aZ 13 1,av 6 17,aV 7] (.seq (q' 19 [am 7,aO 19] (ci 20 (q' 21 [ao (.bld [.i .i64,.sl k7] []),aS 2 4 21,ab 5 false] .ret))) (q' 22 [ao (.bsl 1 0 [.sl l7] []),aV 8] (.seq (q' 23 [am 6,aN,aK 0] (fO 0 26 [ar 25 24] 26 1 (q' 27 [ai 1 23 25,aE 1,ax (w' 10 [.sl k9]),aS 1 10 28] (q' 30 [ae 1 10,af 1 2,aG 1 31,ac 165 [30,33],aV 29,aZ 29 0,aZ 29 1,ax (w' 11 [.sl l7]),aS 1 11 35,aV 12] (g' 37 [am 8,ae 1 11,ao (.bsl 1 1 [.sl l7] [(0,.t 38)]),ao (.app 1 24 [.sl l7] (.t 37) (.t 39)),aV 8]))) (g' 41 [aA 25]))) (q' 42 [af 1 2,aG 1 42,aN,am 8,ac 118 [45,46],aZ 47 0,aZ 47 1,aS 2 4 48,aV 5] .ret)))))) [.c 4 true 2,.t 5] [(164,[],b0v),(165,[],a8Q),(118,[],b2S)] ?_;intro hb hE;have hpre0:=hpre;obtain⟨hr,hs⟩:=hpre;have hH:=a3h hr;have hB:=a8z hr hs;have hR:=b3Z hr hs;simp only[go_sem];repeat' first|apply cj'|intro hc|exact om'|fail
 ·rw[t6,hc];exact⟨⟨rfl,rfl⟩,rfl⟩
 refine a2B 2048 ?_;refine lk' true [(false,8,0,100016)] [2,4,23,24] [4,8] [] (fun i:{i:Nat // i<=(u1 r s).1.length}=>[(8,.v false [.ow 100016]),(25,slV (.i .i64 i.1))]) nl' (fun i=>[(100016,b6T,(((u1 r s).1.take i.1).map fun e=>(a0i e r.Head.Args).1).map (c7.cells true true))]) (fun i=>(u1 r s).1.length-i.1) (⟨0,z0E⟩) ?_;intro S0 hS0 i;obtain⟨i,hi⟩:=i;have hol:((u1 r s).1.take i).length=i:=by rw[V1];omega
 have hsn:i<(u1 r s).1.length->(u1 r s).1.take (i+1)=(u1 r s).1.take i++[(u1 r s).1.getD i default]:=fun h=>j6 default h
 simp only[go_sem,hS0];repeat' first|apply cj'|intro hc|exact om'|fail
 ·(refine lpK_n2 (⟨i+1,z0D⟩) _ z0H ?_;simp only[go_sem,hS0]<;>repeat' first|apply W6|exact on'|fail)
  all_goals(rw[hsn z0D];simp only[q1B,q0D,q1D])
 ·rw[j5 z0D];exact⟨by have:=hB.1;omega,hR.2⟩
 ·rw[j5 z0D,t6,(by assumption:(u1 r s).2=true)];exact⟨⟨rfl,rfl⟩,rfl⟩
noncomputable def c7g:CT:=n9 (fun(x:c8×c6) h=>b3D x.1 x.2 h)
@[go_sem] def d9L:=fun x0 x1 x2 x3 x4=>nm' (fP' c7g rfl (⟨x0,⟨x1,x2⟩,x3⟩,⟨x4⟩))
noncomputable def a1e(r:c8)(s:c6):f8:=⟨r.Head.Args.length,l5 o5 [] (a3M r s)⟩
def b8U(r:c8)(s:c6)(hpre:l8 r=true/\j9 s=true):spZ 91 [(true,[.i .i64 r.Kind,.s r.Head.Name,o6 r.Head.Args,a0s r.Body]),(true,[j7 s.Rels])] [] (.tup [(true,[.i .i64 (((a1e r s,(u1 r s).2).1).Arity),u7 (((a1e r s,(u1 r s).2).1).Rows)]),(false,[.b ((a1e r s,(u1 r s).2).2)])]):=by
 refine sx' false true none Tryz.func91 (q' 2 [aX 4 0,aX 1 1,aw [.i .i64,.sl k7],aU false] (q' 13 [ae 4 2,ae 1 3,ac 133 [13,14],aV 12,aZ 12 0,aZ 12 1,av 6 16,aV 7] (q' 18 [af 1 2,aG 1 18,aN,ao (.bld [.i .i64,.sl k7] [(0,1,.t 21)]),ax (w' 8 [.i .i64,.sl k7]),aS 2 8 22] (.seq (q' 23 [am 6,aN,aK 0] (fO 0 26 [ar 25 24] 26 1 (q' 27 [am 25,aV 9] (.seq (rm' [(true,0,m' 29 6),(true,1,m' 30 9),(true,2,i' 31 1 29 30), (true,3,e' 32 1 31),(true,4,f' 33 1 2),(true,5,f' 34 1 33),(true,6,l' 35 34),(false,7,c' 36 134 [32,35]),(false,8,m' 28 36),(false,9,o' 37 (.ext (.t 28) 0)),(false,10,o' 38 (.ext (.t 28) 1)),(false,11,w' 10 [.sl l7]),(false,12,s' 1 10 37),(false,13,m' 11 38)] [[0, 1,2,3,4,5,6,7,8,9,11,10,12,13],[0,1,2,3,4,5,6,7,8,9,11,12,10,13],[0,1,2,3,4,5,6,7,8,10,9,11,12,13],[0,1,2,3,4,5, 6,7,8,10,11,9,12,13],[0,1,2,3,4,5,6,7,8,11,9,10,12,13],[0,1,2,3,4,5,6,7,8,11,9,12,10,13],[0,1,2,3,4,5,6,7,8,11, 10,9,12,13],[0,1,2,3,4,5,6,7,11,8,9,10,12,13],[0,1,2,3,4,5,6,7,11,8,9,12,10,13],[0,1,2,3,4,5,6,7,11,8,10,9,12, 13],[0,1,2,3,4,5,6,11,7,8,9,10,12,13],[0,1,2,3,4,5,6,11,7,8,9,12,10,13],[0,1,2,3,4,5,6,11,7,8,10,9,12,13]] [4,5]) (g' 39 [aG 1 8,ae 1 10,ac 92 [40,41],af 1 8,aS 1 43 42]))) (g' 44 [aA 25]))) (q' 45 [ae 2 8,am 7,aS 2 4 45,aV 5] .ret))))) [.c 4 true 2,.t 5] [(133,[],a6K),(134,[],a6J),(92,[],a3u)] ?_;intro hb hE;have hpre0:=hpre;obtain⟨hr,hs⟩:=hpre;have hH:=a3h hr;have hB:=a8z hr hs;have hR:=b3Z hr hs;simp only[go_sem];(repeat' first|apply cj'|intro hc|apply a0o);(all_goals(try(refine(show A3H _ _ _ _ _ _ from ?_);simp only[go_sem]at hc ⊢;simp only[go_sem,K0]at hc ⊢;simp only[hc,K5];done)));all_goals try exact om'
 refine c6Z false [(true,16,1,200032)] ?_;refine a2B 200032 ?_;refine lq' false [2,4,6,7,8,24] [4,8,5] [] (fun i:{i:Nat // i<=(u1 r s).1.length}=>[(25,slV (.i .i64 i.1))]) (fun i=>[(16,[.c (.i .i64 r.Head.Args.length),.c (u7 (l5 o5 [] ((a3M r s).take i.1)))])]) nl' (fun i=>(u1 r s).1.length-i.1) (⟨0,z0E⟩) ?_;intro S0 hS0 i;obtain⟨i,hi⟩:=i;have hrl:(a3M r s).length=(u1 r s).1.length:=by rw[a3M,q0C]
 have hrg:i<(u1 r s).1.length->(a3M r s).getD i default=(a0i ((u1 r s).1.getD i default) r.Head.Args).1:=fun h=>by
  rw[a3M,W5,q3G,V7 h,W5,V7 h];rfl
 have hsn:i<(u1 r s).1.length->l5 o5 [] ((a3M r s).take (i+1))=a1j o5 (l5 o5 [] ((a3M r s).take i)) (a0i ((u1 r s).1.getD i default) r.Head.Args).1:=fun h=>by
  rw[j6 default (show i<(a3M r s).length by omega),hrg h,l5,q2V];rfl
 have hpl:=a0u o5 ((a3M r s).take i) [];rw[V1,q1R]at hpl;simp only[go_sem,hS0];(repeat' first|apply cj'|intro hc|apply a0o);(all_goals(try((first|refine c5p (l6 0 10 (W9 rfl) rfl ?_ (l6 0 11 (W9 rfl) rfl ?_ (l6 2 9 (W9 rfl) rfl ?_ (l6 0 10 (W9 rfl) rfl ?_ (l6 3 9 (W9 rfl) rfl ?_ (l6 0 11 (W9 rfl) rfl ?_ (l6 1 10 (W9 rfl) rfl ?_ (l6 2 8 (W9 rfl) rfl ?_ (l6 0 11 (W9 rfl) rfl ?_ (l6 1 10 (W9 rfl) rfl ?_ (l6 2 7 (W9 rfl) rfl ?_ (l6 0 11 (W9 rfl) rfl ?_ (l6 1 10 (W9 rfl) rfl ?_ b4p))))))))))))))<;>(intro S hS B0 hB;simp only[go_sem,hS0,K4]at hS hB;(repeat(first|replace hS:=And.right hS|replace hS:=CJ.r hS));have Rr32:=congrArg (fun s:St=>s.sl 32) hS;have Rr35:=congrArg (fun s:St=>s.sl 35) hS;have Rr28:=congrArg (fun s:St=>s.sl 28) hS;have Rr36:=congrArg (fun s:St=>s.sl 36) hS;have Rr37:=congrArg (fun s:St=>s.sl 37) hS;have Rr38:=congrArg (fun s:St=>s.sl 38) hS;have Rr10:=congrArg (fun s:St=>s.sl 10) hS;have Rr11:=congrArg (fun s:St=>s.sl 11) hS;have Rb4:=congrArg (fun s:St=>s.bx 4) hS;have Rb5:=congrArg (fun s:St=>s.bx 5) hS;have Rb20:=congrArg (fun s:St=>s.bx 20) hS;clear hS;simp only[go_sem,hS0]at Rr32 Rr35 Rr28 Rr36 Rr37 Rr38 Rr10 Rr11 Rb4 Rb5 Rb20;(try clear hc);intro K hc;simp only[go_sem,hS0,Rr32,Rr35,Rr28,Rr36,Rr37,Rr38,Rr10,Rr11,Rb4,Rb5,Rb20,hB,K4]at hc ⊢;simp only[go_sem,hS0,Rr32,Rr35,Rr28,Rr36,Rr37,Rr38,Rr10,Rr11,Rb4,Rb5,Rb20,hB,K0]at hc ⊢;simp only[hc,K5];done))));all_goals try exact om'
 ·refine⟨⟨⟨z0D, ?_⟩, ?_⟩,fun x hx=>?_⟩
  ·rw[<-hrg z0D];exact(hR.2 _ (u4 default z0D)).1
  ·rw[<-hrg z0D];exact(hR.2 _ (u4 default z0D)).2
  ·exact(hR.2 x (q1L ((o7.1 hx).resolve_left (by intro h;cases h)))).1
 ·(refine lpK_n2 (⟨i+1,z0D⟩) _ rfl ?_;simp only[go_sem,hS0]<;>repeat' first|apply W6|exact on'|fail)
  all_goals rw[hsn z0D]
 ·rw[j5 z0D];exact⟨rfl,rfl⟩
noncomputable def a3Y:CT:=n9 (fun(x:c8×c6) h=>b8U x.1 x.2 h)
@[go_sem] def d3H:=fun x0 x1 x2 x3 x4=>nm' (fP' a3Y rfl (⟨x0,⟨x1,x2⟩,x3⟩,⟨x4⟩))
def a0B{p:c4}(h:a0g p=true):(∀r∈p.Rules,l8 r=true)/\p.Rules.length<=24:=by
 simp only[a0g,K7,q0I]at h;exact⟨h.2,z0D⟩
def c2u(r:f8)(hpre:r.Rows.length<=100000/\∀x∈r.Rows,x.V.length<1000):spZ 88 [(true,[.i .i64 r.Arity,u7 r.Rows])] [] (.one (true,[.i .i64 r.Arity,u7 r.Rows])):=by
 refine sx' false true none Tryz.func88 a7z [.c 2 true 2] [(132,[],a3W)] ?_;intro hb hE;obtain⟨hl,hv⟩:=hpre;simp only[go_sem];(repeat' first|apply cj'|intro hc|apply a0o);(all_goals(try(refine(show A3H _ _ _ _ _ _ from ?_);simp only[go_sem]at hc ⊢;simp only[go_sem,K0]at hc ⊢;simp only[hc,K5];done)));all_goals try exact om'
 refine lk' false [(true,6,1,200012)] [1,2,3,10] [2,4,3] [] (fun i:{i:Nat // i<=r.Rows.length}=>[(11,slV (.i .i64 i.1))]) (fun i=>[(6,[.c (.i .i64 r.Arity),.ow 200012])]) (fun i=>[(200012,k7,(r.Rows.take i.1).map (c7.cells false false))]) (fun i=>r.Rows.length-i.1) (⟨0,z0E⟩) ?_;intro S0 hS0 i;obtain⟨i,hi⟩:=i;have hm:=fun(h:i<r.Rows.length)=>hv _ (u4 default h)
 have hol:(r.Rows.take i).length=i:=by rw[V1];omega
 have hsn:i<r.Rows.length->r.Rows.take (i+1)=r.Rows.take i++[r.Rows.getD i default]:=fun h=>j6 default h
 simp only[go_sem,hS0];(repeat' first|apply cj'|intro hc|apply a0o);(all_goals(try((first|refine a0V 5 rfl ?_);intro S hS B0 hB;simp only[go_sem,hS0,z0B]at hS hB;(repeat(first|replace hS:=And.right hS|replace hS:=CJ.r hS));have Rr3:=congrArg (fun s:St=>s.sl 3) hS;have Rr20:=congrArg (fun s:St=>s.sl 20) hS;have Rb6:=congrArg (fun s:St=>s.bx 6) hS;have Rb2:=congrArg (fun s:St=>s.bx 2) hS;have Rb3:=congrArg (fun s:St=>s.bx 3) hS;have Ro200012:=congrArg (fun s:St=>s.ow 200012) hS;clear hS;simp only[go_sem,hS0]at Rr3 Rr20 Rb6 Rb2 Rb3 Ro200012;(try clear hc);intro K hc;simp only[go_sem,hS0,Rr3,Rr20,Rb6,Rb2,Rb3,Ro200012,hB,K6]at hc ⊢;simp only[go_sem,hS0,Rr3,Rr20,Rb6,Rb2,Rb3,Ro200012,hB,K0]at hc ⊢;(first|(simp only[hc,K5];done)|((repeat' first|exact hc|apply W6);done)))));all_goals try exact om'
 ·(refine lpK_n2 (⟨i+1,z0D⟩) _ z0H ?_;simp only[go_sem,hS0]<;>repeat' first|apply W6|exact on'|fail)
  all_goals rw[hsn z0D]
 ·rw[j5 z0D]
noncomputable def a1H:CT:=n9 (fun(x:f8) h=>c2u x h)
@[go_sem] def b3k:=fun x0 x1=>nm' (fP' a1H rfl ⟨x0,x1⟩)
def c2v(s:c6)(hpre:s.Rels.length<=1000/\∀x∈s.Rels,x.Rel.Rows.length<=100000/\∀y∈x.Rel.Rows,y.V.length<1000):spZ 52 [(true,[j7 s.Rels])] [] (.one (true,[j7 s.Rels])):=by
 refine sx' false true none Tryz.func52 (q' 1 [aX 1 0,aw [.sl o0]] (q' 3 [ax (o' 5 (.bld [.sl o0] [])),aw [.sl o0],aS 1 3 5] (.seq (q' 6 [aG 0 1,aN,aK 0] (fO 0 10 [ar 9 8] 10 1 (q' 11 [am 9,aV 4] (rm' [(true,2,f' 14 0 1),(true,3,l' 15 14),(true,4,m' 16 4),(true,5,i' 17 3 15 16),(true,6,f' 18 0 17),(true,7,l' 19 18),(true,8,f' 20 0 1),(true,9,l' 21 20),(true,10,m' 22 4),(true,11,i' 23 3 21 22),(true,12,f' 24 1 23),(true,13,e' 25 2 24),(false,0, f' 12 0 3),(false,1,l' 13 12),(false,14,c' 26 88 [25]),(false,15,o' 27 (.bld [.s,.i .i64,.sl k7] [(0,1,.t 19),(1, 2,.t 26)])),(false,16,o' 28 (.bsl 3 1 [.s,.i .i64,.sl k7] [(0,.t 27)])),(false,17,o' 29 (.app 3 48 [.s,.i .i64,.sl k7] (.t 13) (.t 28))),(false,18,f' 30 0 3),(false,19,s' 1 30 29)] [[0,1,2,3,4,5,6,7,8,9,10,11,12,14,13,15, 16,17,18,19],[0,1,2,3,4,5,6,7,8,9,10,11,12,14,15,13,16,17,18,19],[0,1,2,3,4,5,6,7,8,9,10,11,12,14,15,16,13,17,18, 19],[0,1,2,3,4,5,6,7,8,9,10,11,14,12,13,15,16,17,18,19],[0,1,2,3,4,5,6,7,8,9,10,11,14,12,15,13,16,17,18,19],[0,1,2, 3,4,5,6,7,8,9,10,11,14,12,15,16,13,17,18,19],[0,1,2,3,4,5,6,7,8,9,10,11,14,15,12,13,16,17,18,19],[0,1,2,3,4,5,6,7, 8,9,10,11,14,15,12,16,13,17,18,19],[0,1,2,3,4,5,6,7,8,9,10,11,14,15,16,12,13,17,18,19]] [2,3])) (g' 31 [aA 9]))) (q' 32 [ae 1 3,aS 1 2 32] .ret)))) [.c 2 true 1] [(88,[],a1H)] ?_;intro hb hE;obtain⟨hl,hv⟩:=hpre;simp only[go_sem];(repeat' first|apply cj'|intro hc|apply a0o);(all_goals(try(refine(show A3H _ _ _ _ _ _ from ?_);simp only[go_sem]at hc ⊢;simp only[go_sem,K0]at hc ⊢;simp only[hc,K5];done)));all_goals try exact om'
 refine lk' false [(true,6,0,200012)] [1,2,3,8] [2,4,3] [] (fun i:{i:Nat // i<=s.Rels.length}=>[(9,slV (.i .i64 i.1))]) (fun i=>[(6,[.ow 200012])]) (fun i=>[(200012,o0,(s.Rels.take i.1).map (c9.cells false false))]) (fun i=>s.Rels.length-i.1) (⟨0,z0E⟩) ?_;intro S0 hS0 i;obtain⟨i,hi⟩:=i;have hm:=fun(h:i<s.Rels.length)=>hv _ (u4 default h)
 have hol:(s.Rels.take i).length=i:=by rw[V1];omega
 have hsn:i<s.Rels.length->s.Rels.take (i+1)=s.Rels.take i++[s.Rels.getD i default]:=fun h=>j6 default h
 simp only[go_sem,hS0];(repeat' first|apply cj'|intro hc|apply a0o);(all_goals(try((first|refine a0V 12 rfl ?_);intro S hS B0 hB;simp only[go_sem,hS0,z0B]at hS hB;(repeat(first|replace hS:=And.right hS|replace hS:=CJ.r hS));have Rr3:=congrArg (fun s:St=>s.sl 3) hS;have Rr19:=congrArg (fun s:St=>s.sl 19) hS;have Rr25:=congrArg (fun s:St=>s.sl 25) hS;have Rb6:=congrArg (fun s:St=>s.bx 6) hS;have Rb2:=congrArg (fun s:St=>s.bx 2) hS;have Rb3:=congrArg (fun s:St=>s.bx 3) hS;have Ro200012:=congrArg (fun s:St=>s.ow 200012) hS;clear hS;simp only[go_sem,hS0]at Rr3 Rr19 Rr25 Rb6 Rb2 Rb3 Ro200012;(try clear hc);intro K hc;simp only[go_sem,hS0,Rr3,Rr19,Rr25,Rb6,Rb2,Rb3,Ro200012,hB,K6]at hc ⊢;simp only[go_sem,hS0,Rr3,Rr19,Rr25,Rb6,Rb2,Rb3,Ro200012,hB,K0]at hc ⊢;(first|(simp only[hc,K5];done)|((repeat' first|exact hc|apply W6);done)))));all_goals try exact om'
 ·exact hm (by omega)
 ·(refine lpK_n2 (⟨i+1,z0D⟩) _ z0H ?_;simp only[go_sem,hS0]<;>repeat' first|apply W6|exact on'|fail)
  all_goals rw[hsn z0D]
 ·rw[j5 z0D]
noncomputable def a4T:CT:=n9 (fun(x:c6) h=>c2v x h)
@[go_sem] def d5G:=fun x0=>nm' (fP' a4T rfl ⟨x0⟩)
set_option maxHeartbeats 40000000
def b6g(l:List c9)(n:List UInt8):∃A B,l=A++B/\a5m l n=(A.length:Nat)/\(∀v,a1D l n v=A++v::B.filter fun x=>!(x.Name==n))/\(∀x∈A,sLt x.Name n=true)/\(∀b B',B=b::B'->sLt b.Name n=false):=
 ⟨l.takeWhile fun x=>sLt x.Name n,l.dropWhile fun x=>sLt x.Name n,q1Y.symm,c8r l n,fun v=>b0b l n v,fun x hx=>c8x (q:=fun x:c9=>sLt x.Name n) hx,fun b B' h=>a1J (p:=fun x:c9=>sLt x.Name n) h⟩
def d4v{A B:List c9}{b:c9}(hs:SS sLt ((A++b::B).map c9.Name)):∀x∈B,sLt b.Name x.Name=true:=by
 have h:=(q5K.1 (q4H.1 hs)).2.1;exact(q3J.1 h).1
def set_at{l:List c9}{n:List UInt8}{v:c9}(hs:SS sLt (l.map c9.Name))(h:a5m l n<l.length)(hn:(l.getD (a5m l n).toNat default).Name=n):l.set (a5m l n).toNat v=a1D l n v:=by
 obtain⟨A,B,rfl,hp,hset,hA,hB⟩:=b6g l n;rw[hp]at h hn ⊢;rw[hset];rw[q3V]at hn ⊢;cases B with
 | nil=>simp at h
 | cons b B=>
   have hb:b.Name=n:=by simpa[List.getD]using hn
   have hf:(b::B).filter (fun x=>!(x.Name==n))=B:=by
    rw[List.filter_cons_of_neg z08,List.filter_eq_self];intro x hx;have h1:=d4v hs x hx;rw[hb]at h1;simpa using fun e:x.Name=n=>t5.ne h1 e.symm
   rw[hf];simp
def e2e{l:List c9}{n:List UInt8}(hs:SS sLt (l.map c9.Name))(h:¬(a5m l n<l.length/\(l.getD (a5m l n).toNat default).Name=n)):∀x∈l,¬x.Name=n:=by
 obtain⟨A,B,rfl,hp,hset,hA,hB⟩:=b6g l n;rw[hp,q3V]at h;intro x hx;rcases V0.1 hx with hx|hx
 ·exact t5.ne (hA x hx)
 ·cases B with
  | nil=>cases hx
  | cons b B=>
    have hb:¬b.Name=n:=fun e=>h ⟨z0X,by simpa[List.getD]using e⟩
    have h2:sLt n b.Name=true:=by
     cases h3:sLt n b.Name with
     | true=>rfl
     | false=>exact absurd (t5.tri _ _ (hB b B rfl) h3) hb
    rcases q0B.1 hx with rfl|hx
    ·exact hb
    ·exact fun e=>t5.ne (t5.tr _ _ _ h2 (d4v hs x hx)) e.symm
def b1c(s:c6)(n:List UInt8)(r:f8)(hpre:SS sLt (s.Rels.map c9.Name)/\s.Rels.length<=1000):spZ 102 [(true,[j7 s.Rels]),(false,[.s n]),(true,[.i .i64 r.Arity,u7 r.Rows])] [] (.one (true,[b9f ((⟨a1D s.Rels n ⟨n,r⟩⟩:c6).Rels)])):=by
 refine sy' Tryz.func102 b2g [.c 6 true 1] [(158,[],a7f),(159,[],a7g),(161,[0,2],b1F)] ?_;intro hb hE;obtain⟨hs,hlen⟩:=hpre;have hle:=d6y s.Rels n;simp only[go_sem];repeat' first|apply cj'|intro hc|exact om'|fail
 ·rename_i h0;have hp:a5m s.Rels n=(s.Rels.length:Int):=by rw[a5m,V3 h0];rfl
  exact congrArg (List.map _) (by rw[<-hp];exact b9e (e2e hs (fun h=>z0D)) _)
 ·rename_i h0;have hp:a5m s.Rels n=a0A (geN n) s.Rels:=by rw[a5m,V5 h0];rfl
  have hn:(s.Rels.getD (a0A (geN n) s.Rels).toNat default).Name=n:=by simpa using hc.2
  exact congrArg (List.map _) (by rw[hn];rw[<-hp]at hn hc ⊢;exact set_at hs hc.1 hn)
 ·rename_i h0;rw[a5m,V5 h0]at hle;simp only[V2]at hle;exact⟨hle,z0D⟩
 ·rename_i h0;have hp:a5m s.Rels n=a0A (geN n) s.Rels:=by rw[a5m,V5 h0];rfl
  exact congrArg (List.map _) (by rw[<-hp]at hc ⊢;exact b9e (e2e hs (fun h=>by rw[V3 h.1,h.2]at hc;simp at hc)) _)
noncomputable def c4f:CT:=n9 (fun(x:c6×(List UInt8)×f8) h=>b1c x.1 x.2.1 x.2.2 h)
@[go_sem] def d7O:=fun x0 n x1 x2=>nm' (fP' c4f rfl (⟨x0⟩,n,⟨x1,x2⟩))
def c4D(s:c6)(n:List UInt8)(r:f8)(hpre:SS sLt (s.Rels.map c9.Name)/\s.Rels.length<=1000):spZ 102 [(true,[j7 s.Rels]),(false,[.s n]),(true,[.i .i64 r.Arity,u7 r.Rows])] [] (.one (true,[j7 ((⟨a1D s.Rels n ⟨n,r⟩⟩:c6).Rels)])):=by
 exact a4y (b1c s n r hpre) z0Z
noncomputable def a3r:CT:=n9 (fun(x:c6×(List UInt8)×f8) h=>c4D x.1 x.2.1 x.2.2 h)
@[go_sem] def b5f:=fun x0 n x1 x2=>nm' (fP' a3r rfl (⟨x0⟩,n,⟨x1,x2⟩))
def b8I(s:c6)(n:List UInt8)(r:f8)(hpre:(s.Rels.length<=1000/\∀x∈s.Rels,x.Rel.Rows.length<=100000/\∀y∈x.Rel.Rows,y.V.length<1000)/\r.Rows.length<=100000/\∀y∈r.Rows,y.V.length<1000):spZ 84 [(true,[j7 s.Rels]),(false,[.s n]),(true,[.i .i64 r.Arity,u7 r.Rows])] [] (.one (true,[j7 ((⟨a1D s.Rels n ⟨n,r⟩⟩:c6).Rels)])):=by
 refine sx' false true none Tryz.func84 a8v [.c 6 true 1] [(88,[],a1H)] ?_;intro hb hE;obtain⟨⟨hlen,hv⟩,hr⟩:=hpre;simp only[go_sem];(repeat' first|apply cj'|intro hc|apply a0o);(all_goals(try((first|refine a0V 12 rfl ?_|refine a0V 2 rfl ?_);intro S hS B0 hB;simp only[go_sem,z0B]at hS hB;(repeat(first|replace hS:=And.right hS|replace hS:=CJ.r hS));have Rr7:=congrArg (fun s:St=>s.sl 7) hS;have Rr31:=congrArg (fun s:St=>s.sl 31) hS;have Rr32:=congrArg (fun s:St=>s.sl 32) hS;have Rr53:=congrArg (fun s:St=>s.sl 53) hS;have Rr59:=congrArg (fun s:St=>s.sl 59) hS;have Rr70:=congrArg (fun s:St=>s.sl 70) hS;have Rr71:=congrArg (fun s:St=>s.sl 71) hS;have Rb6:=congrArg (fun s:St=>s.bx 6) hS;have Rb7:=congrArg (fun s:St=>s.bx 7) hS;have Rb10:=congrArg (fun s:St=>s.bx 10) hS;have Rb11:=congrArg (fun s:St=>s.bx 11) hS;have Rb14:=congrArg (fun s:St=>s.bx 14) hS;have Ro200028:=congrArg (fun s:St=>s.ow 200028) hS;have Ro4608:=congrArg (fun s:St=>s.ow 4608) hS;clear hS;simp only[go_sem]at Rr7 Rr31 Rr32 Rr53 Rr59 Rr70 Rr71 Rb6 Rb7 Rb10 Rb11 Rb14 Ro200028 Ro4608;(try clear hc);intro K hc;simp only[go_sem,Rr7,Rr31,Rr32,Rr53,Rr59,Rr70,Rr71,Rb6,Rb7,Rb10,Rb11,Rb14,Ro200028,Ro4608,hB,K6]at hc ⊢;simp only[go_sem,Rr7,Rr31,Rr32,Rr53,Rr59,Rr70,Rr71,Rb6,Rb7,Rb10,Rb11,Rb14,Ro200028,Ro4608,hB,K0]at hc ⊢;(first|(simp only[hc,K5];done)|((repeat' first|exact hc|apply W6);done)))));all_goals try exact om'
 refine lk' false [(true,14,0,200028)] [1,3,5,6,7,13] [6,10,12,7,11] [] (fun i:{i:Nat // i<=s.Rels.length}=>[(8,slV (.b (a6O n ⟨n,r⟩ (s.Rels.take i.1)).2)),(14,slV (.i .i64 i.1))]) (fun i=>[(14,[.ow 200028])]) (fun i=>[(200028,o0,((a6O n ⟨n,r⟩ (s.Rels.take i.1)).1).map (c9.cells false false))]) (fun i=>s.Rels.length-i.1) (⟨0,z0E⟩) ?_;intro S0 hS0 i;obtain⟨i,hi⟩:=i;generalize hfo:a6O n ⟨n,r⟩ (s.Rels.take i)=q;obtain⟨q1,q2⟩:=q;have hm:=fun(h:i<s.Rels.length)=>hv _ (u4 default h)
 have hql:q1.length<=2*i:=by
  have h:=b5p n ⟨n,r⟩ (s.Rels.take i) [] false;rw[show(s.Rels.take i).foldl (a2d n ⟨n,r⟩) ([],false)=(q1,q2)from hfo]at h;rw[V1]at h;simp only[q1R]at h;omega
 simp only[go_sem,hS0,hfo];(repeat' first|apply cj'|intro hc|apply a0o);(all_goals(try((first|refine a0V 12 rfl ?_|refine a0V 2 rfl ?_);intro S hS B0 hB;simp only[go_sem,hS0,hfo,z0B]at hS hB;(repeat(first|replace hS:=And.right hS|replace hS:=CJ.r hS));have Rr7:=congrArg (fun s:St=>s.sl 7) hS;have Rr31:=congrArg (fun s:St=>s.sl 31) hS;have Rr32:=congrArg (fun s:St=>s.sl 32) hS;have Rr53:=congrArg (fun s:St=>s.sl 53) hS;have Rr59:=congrArg (fun s:St=>s.sl 59) hS;have Rr70:=congrArg (fun s:St=>s.sl 70) hS;have Rr71:=congrArg (fun s:St=>s.sl 71) hS;have Rb6:=congrArg (fun s:St=>s.bx 6) hS;have Rb7:=congrArg (fun s:St=>s.bx 7) hS;have Rb10:=congrArg (fun s:St=>s.bx 10) hS;have Rb11:=congrArg (fun s:St=>s.bx 11) hS;have Rb14:=congrArg (fun s:St=>s.bx 14) hS;have Ro200028:=congrArg (fun s:St=>s.ow 200028) hS;have Ro4608:=congrArg (fun s:St=>s.ow 4608) hS;clear hS;simp only[go_sem,hS0,hfo]at Rr7 Rr31 Rr32 Rr53 Rr59 Rr70 Rr71 Rb6 Rb7 Rb10 Rb11 Rb14 Ro200028 Ro4608;(try clear hc);intro K hc;simp only[go_sem,hS0,hfo,Rr7,Rr31,Rr32,Rr53,Rr59,Rr70,Rr71,Rb6,Rb7,Rb10,Rb11,Rb14,Ro200028,Ro4608,hB,K6]at hc ⊢;simp only[go_sem,hS0,hfo,Rr7,Rr31,Rr32,Rr53,Rr59,Rr70,Rr71,Rb6,Rb7,Rb10,Rb11,Rb14,Ro200028,Ro4608,hB,K0]at hc ⊢;(first|(simp only[hc,K5];done)|((repeat' first|exact hc|apply W6);done)))));all_goals try exact om'
 ·exact hr
 ·exact hm (by omega)
 ·rename_i hy;have hs:=a1K n ⟨n,r⟩ (l:=s.Rels) (i:=i) z0D;rw[hfo,b0c hy,hc]at hs;simp only[z0C,q0A]at hs
  (refine lpK_n2 (⟨i+1,z0D⟩) _ z0H ?_;simp only[go_sem,hS0,hfo,hs]<;>repeat' first|apply W6|exact on'|fail)
  all_goals(simp only[q1B,q0D,q1D,c9.cells,q0X];first|done|rfl)
 ·rename_i hy;have hs:=a1K n ⟨n,r⟩ (l:=s.Rels) (i:=i) z0D;rw[hfo,b0c hy,hc]at hs;simp only[z0C,q0A]at hs
  (refine lpK_n2 (⟨i+1,z0D⟩) _ z0H ?_;simp only[go_sem,hS0,hfo,hs]<;>repeat' first|apply W6|exact on'|fail)
  all_goals(simp only[q1B,q0D,q1D,c9.cells,q0X];first|done|rfl)
 ·exact hm (by omega)
 ·rename_i hy;have hs:=a1K n ⟨n,r⟩ (l:=s.Rels) (i:=i) z0D;rw[hfo,b4e hy,hc]at hs;simp only[z0C,q0A]at hs
  (refine lpK_n2 (⟨i+1,z0D⟩) _ z0H ?_;simp only[go_sem,hS0,hfo,hs]<;>repeat' first|apply W6|exact on'|fail)
  all_goals(simp only[q1B,q0D,q1D,c9.cells,q0X];first|done|rfl)
 ·rename_i hy;have hs:=a1K n ⟨n,r⟩ (l:=s.Rels) (i:=i) z0D;rw[hfo,b4e hy,hc]at hs;simp only[z0C,q0A]at hs
  (refine lpK_n2 (⟨i+1,z0D⟩) _ z0H ?_;simp only[go_sem,hS0,hfo,hs]<;>repeat' first|apply W6|exact on'|fail)
  all_goals(simp only[q1B,q0D,q1D,c9.cells,q0X];first|done|rfl)
 ·exact hr
 ·rw[j5 z0D]at hfo;rw[a1D,hfo,hc];rfl
 ·rw[j5 z0D]at hfo;rw[a1D,hfo,hc];rfl
noncomputable def a1r:CT:=n9 (fun(x:c6×(List UInt8)×f8) h=>b8I x.1 x.2.1 x.2.2 h)
@[go_sem] def b1G:=fun x0 n x1 x2=>nm' (fP' a1r rfl (⟨x0⟩,n,⟨x1,x2⟩))
set_option maxHeartbeats 4000000
def isV(p:c4)(v:List UInt8)(r:c8):Bool:=(r.Kind==1&&a0P p r.Head.Name==3)&&r.Head.Name==v
noncomputable def a1d(p:c4)(s:c6)(v:List UInt8)(L:List c8):List c7:=L.flatMap fun r=>bif isV p v r then(t6 r s).1.Rows else[]
noncomputable def hdOk(p:c4)(s:c6)(v:List UInt8)(L:List c8):Bool:=L.all fun r=>!isV p v r||(t6 r s).2
noncomputable def a4c(p:c4)(s:c6)(v:List UInt8):List c7:=(w4 s v).1.Rows++a1d p s v p.Rules
noncomputable def b6b(p:c4)(s:c6)(v:List UInt8):Bool:=hdOk p s v p.Rules&&(a6n (z9 p v) (a4c p s v)).2
noncomputable def c2H(p:c4)(s:c6)(v:List UInt8):f8:=(a6n (z9 p v) (a4c p s v)).1
noncomputable def a3O(p:c4)(s:c6)(n:Int)(o:List c9)(l:f5):List c9:=bif l.N==n then a1D o l.Name ⟨l.Name,c2H p s l.Name⟩else o
noncomputable def a6V(p:c4)(s:c6)(n:Int)(L:List f5):List c9:=L.foldl (a3O p s n) s.Rels
noncomputable def a8m(p:c4)(s:c6)(n:Int)(L:List f5):Bool:=L.all fun l=>!(l.N==n)||b6b p s l.Name
noncomputable def v6(p:c4)(L:List f5)(s:c6)(n:Int):c6×Bool:=bif a8m p s n L&&decide (((a6V p s n L).length:Int)<=24)then(⟨a6V p s n L⟩,true)else(default,false)
variable{n:Int}{v:List UInt8}{j:Nat}
def c3f{p:c4}{s:c6}{o:List c9}{l:f5}(h:(l.N != n)=true):a3O p s n o l=o:=by
 rw[a3O,show(l.N==n)=false by simpa[bne]using h];rfl
def c6q{p:c4}{s:c6}{o:List c9}{l:f5}(h:(l.N != n)=false):a3O p s n o l=a1D o l.Name ⟨l.Name,c2H p s l.Name⟩:=by
 rw[a3O,show(l.N==n)=true by simpa[bne]using h];rfl
def a9Z{p:c4}{s:c6}{L:List f5}{i:Nat}(h:i<L.length):a6V p s n (L.take (i+1))=a3O p s n (a6V p s n (L.take i)) (L.getD i default):=by
 rw[j6 default h,a6V,q2V];rfl
def c6m{l:List c9}(hs:SS sLt (l.map c9.Name))(n:List UInt8)(r:f8):SS sLt ((a1D l n ⟨n,r⟩).map c9.Name)/\(a1D l n ⟨n,r⟩).length<=l.length+1:=by
 have h:=c3c hs n r;refine⟨by rw[h];exact hs.put t5 n, ?_⟩;have h2:=congrArg List.length h;rw[q0C]at h2;rw[h2];have:=d6A sLt (l.map c9.Name) n;rw[q0C]at this;omega
def b1U(p:c4){s:c6}(n:Int)(hs:SS sLt (s.Rels.map c9.Name)):∀L:List f5,SS sLt ((a6V p s n L).map c9.Name)/\(a6V p s n L).length<=s.Rels.length+L.length:=by
 intro L;rw[a6V]
 suffices h:∀(L:List f5) (o:List c9),SS sLt (o.map c9.Name)->SS sLt ((L.foldl (a3O p s n) o).map c9.Name)/\(L.foldl (a3O p s n) o).length<=o.length+L.length from h L _ hs
 intro L
 induction L with
 | nil=>intro o ho;exact⟨ho,q0F _⟩
 | cons l L ih=>
   intro o ho;rw[q2E];have h1:SS sLt ((a3O p s n o l).map c9.Name)/\(a3O p s n o l).length<=o.length+1:=by
    rw[a3O];cases l.N==n with
    | true=>exact c6m ho _ _
    | false=>exact⟨ho,by simp only[V2];omega⟩
   obtain⟨h2,h3⟩:=ih _ h1.1;exact⟨h2,z04⟩
def a2q{s:c6}(h:j9 s=true):SS sLt (s.Rels.map c9.Name):=by
 refine d2G fun i h0 hi=>?_
 rw[q0C]at hi;simp only[j9,W3,q0W]at h;have h2:=a3C.1 h.2 i hi;simp only[a1g,q0Y,q4B,q0T,q1E]at h2;have e:∀j,j<s.Rels.length->(s.Rels.map c9.Name).getD j []=(s.Rels.getD j default).Name:=fun j hj=>by
  rw[W5,q3G,V7 hj,W5,V7 hj];rfl
 rw[e _ hi,e _ z0D];exact h2.2.resolve_left z0D
def a3L{r:f8}(h:y8 r=true):r.Rows.length<=300/\∀x∈r.Rows,okL x.V/\x.V.length<1000:=by
 refine⟨a6X h,fun x hx=>?_⟩;obtain⟨i,hi,rfl⟩:=q1I hx;have h1:=a2k h hi;have h2:=c2W h hi;rw[k8 default hi]at h1 h2;exact⟨h1,z0D⟩
def a3l(a:Int)(rows:List c7):(a6n a rows).1.Rows.length<=300/\∀x∈(a6n a rows).1.Rows,x∈rows:=by
 rw[a6n];cases h:decide (300<((Lib.compact (a1a o5 rows)).length:Int))with
 | true=>exact⟨q2D _,fun x hx=>by cases hx⟩
 | false=>
   have h1:=of_decide_eq_false h;exact⟨by show(Lib.compact (a1a o5 rows)).length<=300;omega,fun x hx=>b6e.1 (b6K.1 hx)⟩
def a1N{r:c8}{s:c6}(hr:l8 r=true)(hs:j9 s=true):(t6 r s).1.Rows.length<=300/\∀x∈(t6 r s).1.Rows,okL x.V/\x.V.length<1000:=by
 rw[t6];cases(u1 r s).2 with
 | false=>exact⟨q2D _,fun x hx=>by cases hx⟩
 | true=>exact⟨(a3l _ _).1,fun x hx=>(b3Z hr hs).2 x ((a3l _ _).2 x hx)⟩
@[go_sem] def hdRows_nil(p:c4)(s:c6)(v:List UInt8):a1d p s v []=[]:=rfl
def b6I(p:c4)(s:c6)(v:List UInt8){L:List c8}(h:j<L.length):a1d p s v (L.take (j+1))=a1d p s v (L.take j)++(bif isV p v (L.getD j default)then(t6 (L.getD j default) s).1.Rows else[]):=by
 rw[j6 default h,a1d,a1d,q3X];simp
def a4q(p:c4){s:c6}(hs:j9 s=true)(v:List UInt8):∀{L:List c8},(∀r∈L,l8 r=true)->(a1d p s v L).length<=300*L.length/\∀x∈a1d p s v L,okL x.V/\x.V.length<1000
 | [],_=>⟨q0F _,fun x hx=>by cases hx⟩
 | r::L,h=>by
   have h1:=a4q p hs v (L:=L) fun r hr=>h r (by simp[hr])
   have h2:=a1N (h r z0E) hs;have e:a1d p s v (r::L)=(bif isV p v r then(t6 r s).1.Rows else[])++a1d p s v L:=by simp[a1d]
   rw[e];cases isV p v r with
   | true=>
     rw[W8];refine⟨by rw[V6,V9];omega,fun x hx=>?_⟩;rcases V0.1 hx with hx|hx
     ·exact h2.2 x hx
     ·exact h1.2 x hx
   | false=>exact⟨by simp only[V2,q1J,V9];omega,fun x hx=>h1.2 x z2O⟩
def e1J{p:c4}{r:c8}(h:(r.Kind==1&&a0P p r.Head.Name==3)=false\/(r.Head.Name==v)=false):isV p v r=false:=by
 rw[isV];rcases h with h|h<;>rw[h]<;>simp
def c7E{p:c4}{r:c8}(h:((r.Kind==1)=true/\(a0P p r.Head.Name==3)=true)/\(r.Head.Name==v)=true):isV p v r=true:=by
 rw[isV,h.1.1,h.1.2,h.2];rfl
def b0a{p:c4}{L:List f5}{s:c6}{m:Nat}(hm:m<L.length)(hc:((L.getD m default).N != n)=false)(h:b6b p s (L.getD m default).Name=false):v6 p L s n=(default,false):=by
 rw[v6,a8m,all_false (d:=default) hm (by rw[show((L.getD m default).N==n)=true by simpa[bne]using hc,h];rfl)];rfl
def d6o{p:c4}{s:c6}{j:Nat}(hj:j<p.Rules.length)(h1:isV p v (p.Rules.getD j default)=true)(h2:(t6 (p.Rules.getD j default) s).2=false):b6b p s v=false:=by
 rw[b6b,hdOk,all_false (d:=default) hj z2S];rfl
def d4C{p:c4}{s:c6}{L:List f5}{i:Nat}(h:i<L.length)(ha:a8m p s n (L.take i)=true)(hc:((L.getD i default).N != n)=true):a8m p s n (L.take (i+1))=true:=
 y9 (p:=fun l:f5=>!(l.N==n)||b6b p s l.Name) default h ha (by rw[show((L.getD i default).N==n)=false by simpa[bne]using hc];rfl)
def c1N(r:c8)(s:c6)(hpre:l8 r=true/\j9 s=true):spZ 106 [(true,[.i .i64 r.Kind,.s r.Head.Name,o6 r.Head.Args,a0s r.Body]),(true,[j7 s.Rels])] [] (.tup [(true,[.i .i64 (((t6 r s).1).Arity),u7 (((t6 r s).1).Rows)]),(false,[.b ((t6 r s).2)])]):=by
 exact a4y (b3D r s hpre) z0Z
noncomputable def a1E:CT:=n9 (fun(x:c8×c6) h=>c1N x.1 x.2 h)
@[go_sem] def d4Y:=fun x0 x1 x2 x3 x4=>nm' (fP' a1E rfl (⟨x0,⟨x1,x2⟩,x3⟩,⟨x4⟩))
def b2P:OkC Tryz.prog 106 a1E:=a4p _
def c7V(p:c4)(levels:List f5)(s:c6)(n:Int)(hpre:y3 p=true/\j9 s=true/\levels.length<=100):spZ 103 [(true,[p6 p.Decls,o9 p.Rules]),(false,[a9R levels]),(true,[j7 s.Rels]),(false,[.i .i64 n])] [] (.tup [(true,[j7 (((v6 p levels s n).1).Rels)]),(false,[.b ((v6 p levels s n).2)])]):=by
 refine sx' false true none Tryz.func103 (q' 4 [aX 2 0,ax (o' 6 (.box 1 (.t 2))),ax (w' 8 [.sl o0]),ab 9 false] (q' 10 [ax (e' 22 1 6),aw [.sl o0],aS 1 10 22] (.seq (q' 23 [am 1,aN,aK 0] (fO 0 26 [ar 25 24] 26 1 (q' 27 [ai 2 23 25,aE 2,ax (w' 12 [.s,.i .i64]),aS 2 12 28] (.seq (q' 29 [aG 1 12,am 3,aD .neq 30 31] (ci 32 (.exit 1))) (q' 34 [ae 1 6,aG 0 12,ac 162 [34,36],aV 33,aZ 33 0,aZ 33 1,ax (w' 13 [.i .i64,.sl k7]),aS 2 13 38,aV 14] (q' 40 [aG 1 13,aV 15] (.seq (q' 42 [aG 1 4,aN,aK 0] (fO 2 46 [ar 45 44] 46 3 (q' 47 [ai 4 43 45,aE 4,ax (w' 17 [.i .i64,.s,.sl k9,.sl a9K]),aS 4 17 48] (.seq (q' 49 [ae 2 4,ae 4 17,ac 143 [49,50],aO 51,am 52,aH 53 false [bf 1 17,bF 0,bL,bf 0 12,bL,bD .neq 56 58],aQ 53 59] (ci 60 (.exit 3))) (q' 62 [ae 4 17,ae 1 6,ac 106 [62,63],aV 61,aZ 61 0,aZ 61 1,ax (w' 18 [.i .i64,.sl k7]),aS 2 18 65,aV 19] (.seq (q' 67 [am 19,aO 67] (ci 68 (q' 69 [ao (.bld [.sl o0] []),aS 1 8 69,ab 9 false] .ret))) (.rego [(true,0,m' 70 15),(true,1,m' 71 15),(true,2,n' 72 71),(true,3,m' 73 15),(true,4,n' 74 73),(true,6, f' 76 1 18),(true,7,l' 77 76),(false,5,o' 75 (.slc 1 (.t 70) none (some (.t 72)) (some (.t 74)))),(false,8,o' 78 (.app 1 24 [.sl l7] (.t 75) (.t 77))),(false,9,m' 15 78)] [36,37]))))) (g' 79 [aA 45]))) (q' 81 [ae 2 4,aG 0 12,ac 163 [81,83],am 15,ac 118 [84,85],aV 80,aZ 80 0,aZ 80 1,ax (w' 20 [.i .i64,.sl k7]),aS 2 20 87,aV 21] (.seq (q' 89 [am 21,aO 89] (ci 90 (q' 91 [ao (.bld [.sl o0] []),aS 1 8 91,ab 9 false] .ret))) (g' 92 [ae 1 10,aG 0 12,ae 2 20,ac 102 [92,94,95],aS 1 10 96])))))))) (g' 97 [aA 25]))) (.seq (q' 98 [aG 0 10,aN,aC .gtr 100 24] (ci 101 (q' 102 [ao (.bld [.sl o0] []),aS 1 8 102,ab 9 false] .ret))) (q' 103 [ae 1 10,aS 1 8 103,ab 9 true] .ret))))) [.c 8 true 1,.t 9] [(162,[],a4o),(143,[],a2H),(106,[],a1E),(163,[],a2E),(118,[],a2J),(102,[],a3r)] ?_;intro hb hE;obtain⟨hg,hs,hL⟩:=hpre;have hSS:=a2q hs;have hsl:s.Rels.length<=24:=by
  have:=hs;simp only[j9,K7]at this;omega
 have hP:=a0B (a0c (u9 hg));simp only[go_sem];repeat' first|apply cj'|intro hc|exact om'|fail
 refine lq' false [3,4,6,8,10,23,24] [8,12,37] [] (fun i:{i:Nat // i<=levels.length/\a8m p s n (levels.take i)=true}=>[(25,slV (.i .i64 i.1))]) (fun i=>[(20,[.c (j7 (a6V p s n (levels.take i.1)))]),(16,[.nl o0])]) nl' (fun i=>levels.length-i.1) (⟨0,by simp[a8m]⟩) ?_;intro S0 hS0 i;obtain⟨m,hi,ha⟩:=i;have hO:=b1U p n hSS (levels.take m);rw[V1]at hO;simp only[go_sem,hS0];repeat' first|apply cj'|intro hc|exact om'|fail
 ·(refine lpK_n2 (⟨m+1,z0D,d4C z0D ha hc⟩) _ rfl ?_;simp only[go_sem,hS0]<;>repeat' first|apply W6|exact on'|fail)
  all_goals rw[a9Z z0D,c3f hc]
 ·skip
  generalize hv:levels.getD m default=lv at hc ⊢;refine lq' false [3,4,6,8,10,12,23,24,25,43,44] [8,12,20,24,37] [] (fun i:{j:Nat // j<=p.Rules.length/\hdOk p s lv.Name (p.Rules.take j)=true}=>[(15,.v false [.c (u7 ((w4 s lv.Name).1.Rows++a1d p s lv.Name (p.Rules.take i.1)))]),(45,slV (.i .i64 i.1))]) (fun i=>[(16,[.nl o0])]) nl' (fun i=>p.Rules.length-i.1) (⟨0,by simp[hdOk]⟩) ?_;intro S1 hS1 i;obtain⟨j,hj,hb2⟩:=i;have hv2:=a3L (a0I hs lv.Name);have hR:=fun(h:j<p.Rules.length)=>hP.1 _ (u4 (l:=p.Rules) default h)
  have hH:=a4q p hs lv.Name (L:=p.Rules.take j) fun r hr=>hP.1 r (q1L hr)
  rw[V1]at hH;have hHI:=fun(h:j<p.Rules.length)=>(a1N (hR h) hs).1
  have hsn:=fun(h:j<p.Rules.length)=>b6I p s lv.Name h
  simp only[go_sem,hS0,hS1];repeat' first|apply cj'|intro hc|exact om'|fail
  ·(refine lpK_n2 (⟨j+1,z0D,y9 (p:=fun r:c8=>!isV p lv.Name r||(t6 r s).2) default z0D hb2 (by rw[e1J hc];rfl)⟩) _ rfl ?_;simp only[go_sem,hS0,hS1]<;>repeat' first|apply W6|exact on'|fail)
   all_goals(rw[hsn z0D,e1J hc,V2,q0A])
  ·exact⟨hR z0D,hs⟩
  ·rename_i h1 h2 h3;rw[b0a (m:=m) z0D (by rw[hv];exact h1) (by rw[hv];exact d6o (j:=j) z0D (c7E h3) hc)];exact⟨rfl,rfl⟩
  ·rename_i h3
   (refine lpK_n2 (⟨j+1,z0D,y9 (p:=fun r:c8=>!isV p lv.Name r||(t6 r s).2) default z0D hb2 (by rw[c7E h3,hc];rfl)⟩) _ rfl ?_;simp only[go_sem,hS0,hS1]<;>repeat' first|apply W6|exact on'|fail)
   all_goals(rw[hsn z0D,c7E h3,W8,q0X])
  ·refine⟨z0D,fun x hx=>?_⟩;rcases V0.1 hx with hx|hx
   ·exact hv2.2 x hx
   ·exact hH.2 x hx
  ·rename_i h1 h2 h3;rw[j5 z0D]at hc hb2;rw[b0a (m:=m) z0D (by rw[hv];exact h2) (by rw[hv,b6b,hb2,a4c,hc];rfl)];exact⟨rfl,rfl⟩
  ·exact⟨hO.1,z0D⟩
  ·rename_i h1 h2 h3;rw[j5 z0D]at hc hb2
   (refine lpK_n2 (⟨m+1,z0D,y9 (p:=fun l:f5=>!(l.N==n)||b6b p s l.Name) default z0D ha (by rw[hv,b6b,hb2,a4c,hc];simp)⟩) _ rfl ?_;simp only[go_sem,hS0,hS1]<;>repeat' first|apply W6|exact on'|fail)
   all_goals(rw[a9Z z0D,hv,c6q h2,c2H,a4c,show p.Rules.take j=p.Rules from j5 z0D])
 ·have h2:a8m p s n levels=true:=by rwa [j5 z0D]at ha
  rw[j5 z0D]at hc;rw[v6,h2,V5 z0D];exact⟨rfl,rfl⟩
 ·have h2:a8m p s n levels=true:=by rwa [j5 z0D]at ha
  rw[j5 z0D]at hc ⊢;rw[v6,h2,V3 z0D];exact⟨rfl,rfl⟩
noncomputable def b2U:CT:=n9 (fun(x:c4×(List f5)×c6×Int) h=>c7V x.1 x.2.1 x.2.2.1 x.2.2.2 h)
@[go_sem] def d9Q:=fun x0 x1 x2 x3 n=>nm' (fP' b2U rfl (⟨x0,x1⟩,x2,⟨x3⟩,n))
def nilR:List c7:=[]
@[go_sem] def l10Copy_nil(a:Int):a1H [(true,[.i .i64 a,.sl false k7 []])]=some (True,[],.one (true,[.i .i64 a,u7 nilR])):=by
 have h:=b3k a [];simpa[nilR]using h
def b6h{r:f8}(h:y8 r=true):SS o5 r.Rows:=by
 refine q2X.2 fun i j hi hj hij=>?_
 have h1:=c8t h hij hj;have h2:=a2k h hi;have h3:=a2k h hj;rw[k8 default hi]at h1 h2;rw[k8 default hj]at h1 h3;rw[<-b9m h2 h3,h1];rfl
def a3k{a:Int}{l r:List c7}(h:SS o5 l):a6n a (l++r)=bif decide (300<((l5 o5 l r).length:Int))then(default,false)else(⟨a,l5 o5 l r⟩,true):=by
 have e:Lib.compact (a1a o5 (l++r))=l5 o5 l r:=a2N a0R (h.puts a0R) fun x=>by rw[o7,V0]
 rw[a6n,e]
def a4v(r:c8)(s:c6):(t6 r s).2=((u1 r s).2&&!decide (300<((a1e r s).Rows.length:Int)))/\((t6 r s).2=true->(t6 r s).1.Rows=(a1e r s).Rows):=by
 rw[t6,a1e];cases(u1 r s).2 with
 | false=>exact⟨rfl,fun h=>by cases h⟩
 | true=>
   rw[W8,a6n,c7j];cases decide (300<((l5 o5 [] (a3M r s)).length:Int))with
   | true=>exact⟨rfl,fun h=>by cases h⟩
   | false=>exact⟨rfl,fun _=>rfl⟩
def arOk(p:c4)(s:c6):Prop:=∀x∈s.Rels,a0H p x.Name=true->x.Rel.Arity=z9 p x.Name
def d1f{s:c6}(h:(w4 s v).2=false):(w4 s v).1.Rows=[]:=by
 unfold w4 at h ⊢;split
 ·rename_i e;rw[if_pos e]at h;cases h
 ·rfl
def c2R{s:c6}{v:List UInt8}(h:(w4 s v).2=true):∃x∈s.Rels,x.Name=v/\(w4 s v).1=x.Rel:=by
 unfold w4 at h ⊢;split
 ·rename_i e;have ha:s.Rels.any (fun x:c9=>x.Name==v)=true:=by rw[<-a0Z];exact V3 e
  have e2:=d0j ha;have hlt:s.Rels.findIdx (fun x:c9=>x.Name==v)<s.Rels.length:=by
   have:=d6d (p:=fun x:c9=>x.Name==v) (l:=s.Rels);omega
  have hp:=List.findIdx_getElem (p:=fun x:c9=>x.Name==v) (xs:=s.Rels) (w:=hlt);rw[e2,q3V,k8 default hlt];exact⟨_,q1M hlt,by simpa using hp,rfl⟩
 ·rename_i e;rw[if_neg e]at h;cases h
def e1F{p:c4}{s:c6}{v:List UInt8}(l:List c7){L:List c8}(h:j<L.length):l5 o5 l (a1d p s v (L.take (j+1)))=l5 o5 (l5 o5 l (a1d p s v (L.take j))) (bif isV p v (L.getD j default)then(t6 (L.getD j default) s).1.Rows else[]):=by
 rw[b6I p s v h,l5,l5,l5,q2V]
def c2P(l:List c7){r:List c7}{k:Nat}(h:k<r.length):l5 o5 l (r.take (k+1))=a1j o5 (l5 o5 l (r.take k)) (r.getD k default):=by
 rw[j6 default h,l5,l5,q2V];rfl
def d9f{p:c4}{s:c6}(hP:∀r∈p.Rules,l8 r=true)(hs:j9 s=true)(n:Int):∀L:List f5,∀x∈a6V p s n L,x.Rel.Rows.length<=300/\∀y∈x.Rel.Rows,okL y.V/\y.V.length<1000:=by
 intro L;rw[a6V]
 suffices h:∀(L:List f5) (o:List c9),(∀x∈o,x.Rel.Rows.length<=300/\∀y∈x.Rel.Rows,okL y.V/\y.V.length<1000)->∀x∈L.foldl (a3O p s n) o,x.Rel.Rows.length<=300/\∀y∈x.Rel.Rows,okL y.V/\y.V.length<1000 from h L _ fun x hx=>a3L (a1o hs x hx)
 intro L
 induction L with
 | nil=>intro o ho;exact ho
 | cons l L ih=>
   intro o ho;rw[q2E];refine ih _ fun x hx=>?_
   rw[a3O]at hx;cases hc:l.N==n with
   | false=>rw[hc]at hx;exact ho x hx
   | true=>
     rw[hc,W8]at hx;rcases a5h hx with rfl|hx
     ·refine⟨(a3l _ _).1,fun y hy=>?_⟩;rcases V0.1 ((a3l _ _).2 y hy)with h|h
      ·exact(a3L (a0I hs l.Name)).2 y h
      ·exact(a4q p hs l.Name hP).2 y h
     ·exact ho x hx
def b6J{r:c8}{s:c6}(hr:l8 r=true)(hs:j9 s=true):∀x∈(a1e r s).Rows,okL x.V/\x.V.length<1000:=fun x hx=>
 (b3Z hr hs).2 x ((o7.1 hx).resolve_left (by intro h;cases h))
def b0g{p:c4}(hg:y3 p=true)(hv:v∈vwS p):a0H p v=true/\z9 p v=(a0O p v).Arity:=by
 have hd:=(a2R z1M).2.1;obtain⟨d,hm,hk,rfl⟩:=c8o.1 hv;have h1:a0H p d.Name=true:=by
  rw[a0H,q3E];exact⟨d,hm,z0E⟩
 refine⟨h1, ?_⟩;obtain⟨i,hi,rfl⟩:=q1I hm;have h2:=hd i hi;rw[z5,k8 default hi]at h2;simp only[q0Y]at h2;rw[z9,h2.1.1,h2.1.2,h1];rfl
def e1I{p:c4}(hg:y3 p=true)(hv:v∈vwS p)(hj:j<p.Rules.length):isV p v (p.Rules.getD j default)=((p.Rules.getD j default).Head.Name==v):=by
 have hN:=a2R z1M;rw[isV];cases h:((p.Rules.getD j default).Head.Name==v)with
 | false=>rw[q2B]
 | true=>
   have e:(p.Rules.getD j default).Head.Name=v:=by simpa using h
   have hk:a0P p (p.Rules.getD j default).Head.Name=3:=by rw[e];exact(a2w hN.2.1).2 hv
   rw[hk,c1o hN.2.2 hj hk];rfl
def b8X(p:c4)(levels:List f5)(s:c6)(n:Int)(hpre:y3 p=true/\j9 s=true/\arOk p s/\(∀l∈levels,l.Name∈vwS p)/\levels.length<=100):spZ 54 [(true,[p6 p.Decls,o9 p.Rules]),(false,[a9R levels]),(true,[j7 s.Rels]),(false,[.i .i64 n])] [] (.tup [(true,[j7 (((v6 p levels s n).1).Rels)]),(false,[.b ((v6 p levels s n).2)])]):=by
 refine sx' false true none Tryz.func54 (q' 4 [aX 2 0,ax (o' 6 (.box 1 (.t 2))),ax (w' 8 [.sl o0]),ab 9 false] (q' 19 [ae 1 6,ac 52 [19],ax (w' 10 [.sl o0]),aS 1 10 20] (.seq (q' 21 [am 1,aN,aK 0] (fO 0 24 [ar 23 22] 24 1 (q' 25 [ai 2 21 23,aE 2,ax (w' 12 [.s,.i .i64]),aS 2 12 26] (.seq (q' 27 [aG 1 12,am 3,aD .neq 28 29] (ci 30 (.exit 1))) (q' 32 [ae 1 6,aG 0 12,ac 89 [32,34],aV 31,aZ 31 0,aZ 31 1,ax (w' 13 [.i .i64,.sl k7]),aS 2 13 36,aV 14] (.seq (q' 38 [am 14,aO 38] (ci 39 (g' 40 [ae 2 4,aG 0 12,ac 90 [40,42],ao (.fl false 2 1 (.t 43)),ao (.bld [.i .i64,.sl k7] [(0,1,.t 44)]),aS 2 13 45]))) (q' 46 [ae 2 13,ac 88 [46],aS 2 13 47] (.seq (q' 48 [aG 1 4,aN,aK 0] (fO 2 52 [ar 51 50] 52 3 (q' 53 [am 51,aV 15] (.seq (.seq (G' 54 [aG 1 4,am 15,aI 4,aF 1,aG 0 58,aG 0 12,aD .neq 60 62]) (ci 63 (.exit 3))) (.seq (rm' [(true,0,f' 65 1 4),(true,1,l' 66 65),(true,2,m' 67 15),(true,3,i' 68 4 66 67),(true,4,e' 69 4 68),(true,5, e' 70 1 6),(false,6,c' 71 91 [69,70]),(false,7,m' 64 71),(false,8,o' 72 (.ext (.t 64) 0)),(false,9,o' 73 (.ext (.t 64) 1)),(false,10,w' 16 [.i .i64,.sl k7]),(false,11,s' 2 16 72),(false,12,m' 17 73)] [[0,1,2,3,4,5,6,7,8,10,9,11,12],[0,1,2,3,4,5, 6,7,8,10,11,9,12],[0,1,2,3,4,5,6,7,9,8,10,11,12],[0,1,2,3,4,5,6,7,9,10,8,11,12],[0,1,2,3,4,5,6,7,10,8,9,11,12], [0,1,2,3,4,5,6,7,10,8,11,9,12],[0,1,2,3,4,5,6,7,10,9,8,11,12],[0,1,2,3,4,5,6,10,7,8,9,11,12],[0,1,2,3,4,5,6,10, 7,8,11,9,12],[0,1,2,3,4,5,6,10,7,9,8,11,12],[0,1,2,3,4,5,10,6,7,8,9,11,12],[0,1,2,3,4,5,10,6,7,8,11,9,12],[0,1, 2,3,4,5,10,6,7,9,8,11,12]] [8,9,12,13]) (.seq (q' 74 [am 17,aO 74,am 75,aH 76 false [bf 1 16,bL,bN,bC .gtr 79 300],aQ 76 80] (ci 81 (q' 82 [ao (.bld [.sl o0] []),aS 1 8 82,ab 9 false] .ret))) (q' 83 [aG 1 16,aN,aK 0] (fO 4 87 [ar 86 85] 87 5 (q' 88 [am 86,aV 18] (.rego [(true,2,f' 91 1 16),(true,3,l' 92 91),(true,4,m' 93 18),(true,5,i' 94 1 92 93),(true,6,e' 95 1 94),(false,0, f' 89 1 13),(false,1,l' 90 89),(false,7,c' 96 92 [90,95]),(false,8,f' 97 1 13),(false,9,s' 1 97 96)] [32,33])) (g' 98 [aA 86]))))))) (g' 99 [aA 51]))) (.seq (q' 100 [aG 1 13,aN,aC .gtr 102 300] (ci 103 (q' 104 [ao (.bld [.sl o0] []),aS 1 8 104,ab 9 false] .ret))) (g' 105 [ae 1 10,aG 0 12,ae 2 13,ac 84 [105,107,108],aS 1 10 109])))))))) (g' 110 [aA 23]))) (.seq (q' 111 [aG 0 10,aN,aC .gtr 113 24] (ci 114 (q' 115 [ao (.bld [.sl o0] []),aS 1 8 115,ab 9 false] .ret))) (q' 116 [ae 1 10,aS 1 8 116,ab 9 true] .ret))))) [.c 8 true 1,.t 9] [(52,[],a4T),(89,[],a3v),(90,[],a1I),(88,[],a1H),(91,[],a3Y),(92,[],a3u),(84,[],a1r)] ?_;intro hb hE;obtain⟨hg,hs,hA,hV,hL⟩:=hpre;have hSS:=a2q hs;have hsl:=a1T hs;have hP:=a0B (a0c (u9 hg));have hcp:s.Rels.length<=1000/\∀x∈s.Rels,x.Rel.Rows.length<=100000/\∀y∈x.Rel.Rows,y.V.length<1000:=
  ⟨z0D,fun x hx=>by
   have h:=a3L (a1o hs x hx);exact⟨z0D,fun y hy=>(h.2 y hy).2⟩⟩
 simp only[go_sem];(repeat' first|apply cj'|intro hc|apply a0o);(all_goals(try(refine(show A3H _ _ _ _ _ _ from ?_);simp only[go_sem]at hc ⊢;simp only[go_sem,K0]at hc ⊢;simp only[hc,K5];done)));all_goals try exact om'
 ·exact hcp
 refine lq' false [3,4,6,8,10,21,22] [8,12,9,13,33] [] (fun i:{i:Nat // i<=levels.length/\a8m p s n (levels.take i)=true}=>[(23,slV (.i .i64 i.1))]) (fun i=>[(20,[.c (j7 (a6V p s n (levels.take i.1)))]),(16,[.nl o0])]) nl' (fun i=>levels.length-i.1) (⟨0,by simp[a8m]⟩) ?_;intro S0 hS0 i;obtain⟨m,hi,ha⟩:=i;have hO:=b1U p n hSS (levels.take m);rw[V1]at hO;simp only[go_sem,hS0];(repeat' first|apply cj'|intro hc|apply a0o);(all_goals(try(refine(show A3H _ _ _ _ _ _ from ?_);simp only[go_sem,hS0]at hc ⊢;simp only[go_sem,hS0,K0]at hc ⊢;simp only[hc,K5];done)));all_goals try exact om'
 ·(refine lpK_n2 (⟨m+1,z0D,d4C z0D ha hc⟩) _ rfl ?_;simp only[go_sem,hS0]<;>repeat' first|apply W6|exact on'|fail)
  all_goals rw[a9Z z0D,c3f hc]
 rotate_left
 ·have h:=a3L (a0I hs (levels.getD m default).Name);exact⟨z0D,fun x hx=>(h.2 x hx).2⟩
 rotate_left
 ·have h2:a8m p s n levels=true:=by rwa [j5 z0D]at ha
  rw[j5 z0D]at hc;rw[v6,h2,V5 z0D];exact⟨rfl,rfl⟩
 ·have h2:a8m p s n levels=true:=by rwa [j5 z0D]at ha
  rw[j5 z0D]at hc ⊢;rw[v6,h2,V3 z0D];exact⟨rfl,rfl⟩
 all_goals have hvw:=hV _ (u4 (l:=levels) (i:=m) default z0D)
 all_goals have hAr:=b0g hg hvw
 all_goals first
  | rw[show nilR=(w4 s (levels.getD m default).Name).1.Rows from(d1f hc).symm,<-hAr.2]
  | (obtain⟨y,hy1,hy2,hy3⟩:=c2R hc
     rw[show(w4 s (levels.getD m default).Name).1.Arity=z9 p (levels.getD m default).Name by rw[hy3,hA y hy1 (by rw[hy2];exact hAr.1),hy2]])
 all_goals clear hc
 all_goals rename_i hc
 all_goals have hmlt:m<levels.length:=by omega
 all_goals generalize hv:levels.getD m default=lv at hc hvw hAr ⊢
 all_goals(
  skip
  refine lq' false [3,4,6,8,10,12,13,21,22,23,50] [8,12,20,24,9,13,33] [] (fun i:{j:Nat // j<=p.Rules.length/\hdOk p s lv.Name (p.Rules.take j)=true}=>[(51,slV (.i .i64 i.1))]) (fun i=>[(26,[.c (.i .i64 (z9 p lv.Name)),.c (u7 (l5 o5 (w4 s lv.Name).1.Rows (a1d p s lv.Name (p.Rules.take i.1))))]),(16,[.nl o0])]) nl' (fun i=>p.Rules.length-i.1) (⟨0,by simp[hdOk]⟩) ?_;intro S1 hS1 i;obtain⟨j,hj,hb2⟩:=i;have hv2:=a3L (a0I hs lv.Name);have hR:=fun(h:j<p.Rules.length)=>hP.1 _ (u4 (l:=p.Rules) default h)
  have hH:=a4q p hs lv.Name (L:=p.Rules.take j) fun r hr=>hP.1 r (q1L hr)
  rw[V1]at hH;have hsn:=fun(h:j<p.Rules.length)=>e1F (p:=p) (s:=s) (v:=lv.Name) (w4 s lv.Name).1.Rows h
  have hNm:=fun(h:j<p.Rules.length)=>e1I hg hvw h
  have hpl:=a0u o5 (a1d p s lv.Name (p.Rules.take j)) (w4 s lv.Name).1.Rows;have hpm:∀x∈l5 o5 (w4 s lv.Name).1.Rows (a1d p s lv.Name (p.Rules.take j)),okL x.V/\x.V.length<1000:=fun x hx=>(o7.1 hx).elim (hv2.2 x) (hH.2 x)
  simp only[go_sem,hS0,hS1];(repeat' first|apply cj'|intro hc|apply a0o);(all_goals(try((first|refine c5p (l6 0 9 (W9 rfl) rfl ?_ (l6 0 10 (W9 rfl) rfl ?_ (l6 2 8 (W9 rfl) rfl ?_ (l6 0 9 (W9 rfl) rfl ?_ (l6 3 8 (W9 rfl) rfl ?_ (l6 0 10 (W9 rfl) rfl ?_ (l6 1 9 (W9 rfl) rfl ?_ (l6 2 7 (W9 rfl) rfl ?_ (l6 0 10 (W9 rfl) rfl ?_ (l6 1 9 (W9 rfl) rfl ?_ (l6 2 6 (W9 rfl) rfl ?_ (l6 0 10 (W9 rfl) rfl ?_ (l6 1 9 (W9 rfl) rfl ?_ b4p))))))))))))))<;>(intro S hS B0 hB;simp only[go_sem,hS0,hS1,K4]at hS hB;(repeat(first|replace hS:=And.right hS|replace hS:=CJ.r hS));have Rr69:=congrArg (fun s:St=>s.sl 69) hS;have Rr70:=congrArg (fun s:St=>s.sl 70) hS;have Rr71:=congrArg (fun s:St=>s.sl 71) hS;have Rr64:=congrArg (fun s:St=>s.sl 64) hS;have Rr72:=congrArg (fun s:St=>s.sl 72) hS;have Rr73:=congrArg (fun s:St=>s.sl 73) hS;have Rr16:=congrArg (fun s:St=>s.sl 16) hS;have Rr17:=congrArg (fun s:St=>s.sl 17) hS;have Rb8:=congrArg (fun s:St=>s.bx 8) hS;have Rb9:=congrArg (fun s:St=>s.bx 9) hS;have Rb12:=congrArg (fun s:St=>s.bx 12) hS;have Rb13:=congrArg (fun s:St=>s.bx 13) hS;have Rb32:=congrArg (fun s:St=>s.bx 32) hS;clear hS;simp only[go_sem,hS0,hS1]at Rr69 Rr70 Rr71 Rr64 Rr72 Rr73 Rr16 Rr17 Rb8 Rb9 Rb12 Rb13 Rb32;(try clear hc);intro K hc;simp only[go_sem,hS0,hS1,Rr69,Rr70,Rr71,Rr64,Rr72,Rr73,Rr16,Rr17,Rb8,Rb9,Rb12,Rb13,Rb32,hB,K4]at hc ⊢;simp only[go_sem,hS0,hS1,Rr69,Rr70,Rr71,Rr64,Rr72,Rr73,Rr16,Rr17,Rb8,Rb9,Rb12,Rb13,Rb32,hB,K0]at hc ⊢;simp only[hc,K5];done))));all_goals try exact om'
  ·(refine lpK_n2 (⟨j+1,z0D,y9 (p:=fun r:c8=>!isV p lv.Name r||(t6 r s).2) default z0D hb2 (by rw[hNm z0D,hc];rfl)⟩) _ rfl ?_;simp only[go_sem,hS0,hS1]<;>repeat' first|apply W6|exact on'|fail)
   all_goals(rw[hsn z0D,hNm z0D,hc];rfl)
  ·exact⟨hR z0D,hs⟩
  ·rename_i h1 h2 h3;have hf:(t6 (p.Rules.getD j default) s).2=false:=by
    rw[(a4v _ s).1];rcases hc with h|h
    ·rw[h];rfl
    ·rw[V3 h];simp
   rw[b0a (m:=m) hmlt (by rw[hv];exact h1) (by rw[hv];exact d6o (j:=j) z0D (by rw[hNm z0D];exact h3) hf)];exact⟨rfl,rfl⟩
  ·rename_i h1 h2 h3;obtain⟨hb,hl3⟩:=hc;have hjl:j<p.Rules.length:=by omega
   have hf:(t6 (p.Rules.getD j default) s).2=true:=by rw[(a4v _ s).1,hb,V5 hl3];rfl
   have hrow:=(a4v (p.Rules.getD j default) s).2 hf;have hHL:=b6J (hR hjl) hs;have hsn2:=hsn hjl;have hN2:isV p lv.Name (p.Rules.getD j default)=true:=by rw[hNm hjl];exact h3
   rw[hN2,W8,hrow]at hsn2;generalize hrr:p.Rules.getD j default=r at hf hrow hHL hsn2 hN2 hl3 ⊢;refine lq' false [3,4,6,8,10,12,13,16,21,22,23,50,51,85] [8,12,16,20,24,32,9,13,33] [] (fun i:{k:Nat // k<=(a1e r s).Rows.length}=>[(86,slV (.i .i64 i.1))]) (fun i=>[(26,[.c (.i .i64 (z9 p lv.Name)),.c (u7 (l5 o5 (l5 o5 (w4 s lv.Name).1.Rows (a1d p s lv.Name (p.Rules.take j))) ((a1e r s).Rows.take i.1)))])]) nl' (fun i=>(a1e r s).Rows.length-i.1) (⟨0,z0E⟩) ?_;intro S2 hS2 i;obtain⟨k,hk⟩:=i;have hp2:=a0u o5 ((a1e r s).Rows.take k) (l5 o5 (w4 s lv.Name).1.Rows (a1d p s lv.Name (p.Rules.take j)));rw[V1]at hp2;have hgk:=fun(h:k<(a1e r s).Rows.length)=>hHL _ (u4 (l:=(a1e r s).Rows) default h)
   simp only[go_sem,hS0,hS1,hS2];(repeat' first|apply cj'|intro hc|apply a0o);(all_goals(try((first|refine c5p (l6 0 9 (W9 rfl) rfl ?_ (l6 0 10 (W9 rfl) rfl ?_ (l6 2 8 (W9 rfl) rfl ?_ (l6 0 9 (W9 rfl) rfl ?_ (l6 3 8 (W9 rfl) rfl ?_ (l6 0 10 (W9 rfl) rfl ?_ (l6 1 9 (W9 rfl) rfl ?_ (l6 2 7 (W9 rfl) rfl ?_ (l6 0 10 (W9 rfl) rfl ?_ (l6 1 9 (W9 rfl) rfl ?_ (l6 2 6 (W9 rfl) rfl ?_ (l6 0 10 (W9 rfl) rfl ?_ (l6 1 9 (W9 rfl) rfl ?_ b4p))))))))))))))<;>(intro S hS B0 hB;simp only[go_sem,hS0,hS1,hS2,K4]at hS hB;(repeat(first|replace hS:=And.right hS|replace hS:=CJ.r hS));have Rr69:=congrArg (fun s:St=>s.sl 69) hS;have Rr70:=congrArg (fun s:St=>s.sl 70) hS;have Rr71:=congrArg (fun s:St=>s.sl 71) hS;have Rr64:=congrArg (fun s:St=>s.sl 64) hS;have Rr72:=congrArg (fun s:St=>s.sl 72) hS;have Rr73:=congrArg (fun s:St=>s.sl 73) hS;have Rr16:=congrArg (fun s:St=>s.sl 16) hS;have Rr17:=congrArg (fun s:St=>s.sl 17) hS;have Rb8:=congrArg (fun s:St=>s.bx 8) hS;have Rb9:=congrArg (fun s:St=>s.bx 9) hS;have Rb12:=congrArg (fun s:St=>s.bx 12) hS;have Rb13:=congrArg (fun s:St=>s.bx 13) hS;have Rb32:=congrArg (fun s:St=>s.bx 32) hS;clear hS;simp only[go_sem,hS0,hS1,hS2]at Rr69 Rr70 Rr71 Rr64 Rr72 Rr73 Rr16 Rr17 Rb8 Rb9 Rb12 Rb13 Rb32;(try clear hc);intro K hc;simp only[go_sem,hS0,hS1,hS2,Rr69,Rr70,Rr71,Rr64,Rr72,Rr73,Rr16,Rr17,Rb8,Rb9,Rb12,Rb13,Rb32,hB,K4]at hc ⊢;simp only[go_sem,hS0,hS1,hS2,Rr69,Rr70,Rr71,Rr64,Rr72,Rr73,Rr16,Rr17,Rb8,Rb9,Rb12,Rb13,Rb32,hB,K0]at hc ⊢;simp only[hc,K5];done))));all_goals try exact om'
   ·exact⟨⟨⟨z0D,(hgk z0D).1⟩,(hgk z0D).2⟩,fun x hx=>((o7.1 hx).elim (hpm x) (fun h=>hHL x (q1L h))).1⟩
   ·(refine lpK_n2 (⟨k+1,z0D⟩) _ rfl ?_;simp only[go_sem,hS0,hS1,hS2]<;>repeat' first|apply W6|exact on'|fail)
    all_goals rw[c2P _ z0D]
   ·(refine lpK_n2 (⟨j+1,z0D,y9 (p:=fun r:c8=>!isV p lv.Name r||(t6 r s).2) default z0D hb2 (by rw[hrr,hN2,hf];rfl)⟩) _ rfl ?_;simp only[go_sem,hS0,hS1,hS2]<;>repeat' first|apply W6|exact on'|fail)
    all_goals(rw[hsn2,j5 (l:=(a1e r s).Rows) (i:=k) z0D])
  ·rename_i h1 h2 h3;rw[j5 (l:=p.Rules) (i:=j) z0D]at hc hb2;rw[b0a (m:=m) hmlt (by rw[hv];exact h2) (by rw[hv,b6b,hb2,a4c,a3k (b6h (a0I hs lv.Name)),V3 hc];rfl)];exact⟨rfl,rfl⟩
  ·exact⟨⟨⟨z0D,fun x hx=>by
    have h:=d9f hP.1 hs n (levels.take m) x hx;exact⟨z0D,fun y hy=>(h.2 y hy).2⟩⟩,z0D⟩,fun y hy=>(hpm y hy).2⟩
  ·rename_i h1 h2 h3;rw[j5 (l:=p.Rules) (i:=j) z0D]at hc hb2
   (refine lpK_n2 (⟨m+1,z0D,y9 (p:=fun l:f5=>!(l.N==n)||b6b p s l.Name) default z0D ha (by rw[hv,b6b,hb2,a4c,a3k (b6h (a0I hs lv.Name)),V5 hc];simp)⟩) _ rfl ?_;simp only[go_sem,hS0,hS1]<;>repeat' first|apply W6|exact on'|fail)
   all_goals(rw[a9Z z0D,hv,c6q h2,c2H,a4c,a3k (b6h (a0I hs lv.Name)),V5 hc,j5 (l:=p.Rules) (i:=j) z0D];rfl))
noncomputable def a8h:CT:=n9 (fun(x:c4×(List f5)×c6×Int) h=>b8X x.1 x.2.1 x.2.2.1 x.2.2.2 h)
@[go_sem] def d3K:=fun x0 x1 x2 x3 n=>nm' (fP' a8h rfl (⟨x0,x1⟩,x2,⟨x3⟩,n))
end Go.Aw
