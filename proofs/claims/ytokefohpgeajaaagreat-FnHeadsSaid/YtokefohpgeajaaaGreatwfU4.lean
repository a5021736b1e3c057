/- The heads of a rule. No condition. -/
import Derived.Test.YtokefohpgeajaaaGreatwfT40
namespace Go.Aw
open Go.Proofs
attribute [local irreducible] aft blk lpK retK AW A0p
set_option linter.all false
set_option maxRecDepth 100000
set_option maxHeartbeats 4000000
attribute [local irreducible] RM
def a8d(r:d3)(hpre:r.V.length<1000000):spZ 270 [(true,[t5 r.V])] [] (.one (true,[a5s r.V])):=by
 refine sy' Tryz.func270 (q' 1 [aX 1 0,aw [.sl l3]] (q' 3 [ao (.bsl 2 0 [.i .i64,.s] []),aG 0 1,ao (.app 2 24 [.i .i64,.s] (.t 3) (.t 5)),ao (.bld [.sl l3] [(0,1,.t 6)]),aS 1 2 7] .ret)) [.c 2 true 1] [] ?_;intro hb hE;simp only[go_sem];repeat' first|apply cj'|intro hc|exact om'|fail
noncomputable def a7Q:CT:=p6 (fun(x:d3) h=>a8d x h)
@[go_sem] def c6Z:=fun x0=>nm' (fP' a7Q rfl ⟨x0⟩)
def b2D(r:d3)(hpre:r.V.length<1000000):spZ 270 [(true,[t5 r.V])] [] (.one (true,[t5 r.V])):=by
 exact a1T (a8d r hpre) (by simp only[go_sem,R.free,List.map])
noncomputable def a1F:CT:=p6 (fun(x:d3) h=>b2D x h)
@[go_sem] def c3p:=fun x0=>nm' (fP' a1F rfl ⟨x0⟩)
def a3E{l:List d3}{r:d3}:a1x l r=true↔r∈l:=by
 rw[a1x,q3T];constructor
 ·rintro⟨x,hx,h⟩;have h2:=of_decide_eq_true h;obtain rfl:x=r:=by cases x;cases r;simp_all
  exact hx
 ·exact fun h=>⟨r,h,by simp⟩
def b0N(e:c9)(args:List d4)(hpre:args.length<=6):spZ 178 [(true,[u9 e.Binds]),(false,[n9 args])] [] (.tup [(true,[t5 (((v8 e args).1).V)]),(false,[.b ((v8 e args).2)])]):=by
 exact a1T (a7a e args hpre) (by simp only[go_sem,R.free,List.map])
noncomputable def a4O:CT:=p6 (fun(x:c9×(List d4)) h=>b0N x.1 x.2 h)
@[go_sem] def c2v:=fun x0 x1=>nm' (fP' a4O rfl (⟨x0⟩,x1))
@[go_sem] def a6c:ACode:=q' 3 [aX 1 1,ao (.mov (.k (.v false [.nl o8])))] (.seq (q' 8 [am 0,ae 1 3,ac 268 [8,9]] (ci 10 (q' 11 [am 0,aV 4] .ret))) (q' 12
 [ao (.bsl 1 0 [.sl l3] []),aV 5] (q' 6 [aU false] (.seq (q' 13 [am 0,aN,aK 0] (fO 0 16 [ar 15 14] 16 1 (q' 17 [am 15,aV 7] (.seq (.seq (G' 18
 [am 6,aO 18,am 19,aH 20 true [be 1 3,bm 0,bm 7,bI 1,bE 1,bc 269 [21,25],bC .eql 26 (-1)],aP 20 27]) (ci 28 (q' 29 [am 5,ae 1 3,ac 270 [30],ao (.bsl 1 1 [.sl
 l3] [(0,.t 31)]),ao (.app 1 24 [.sl l3] (.t 29) (.t 32)),aV 5] (g' 6 [aU true])))) (g' 34 [aM [5,0,7],aI 1,aE 1,ao (.bsl 1 1
 [.sl l3] [(0,.t 38)]),ao (.app 1 24 [.sl l3] (.t 34) (.t 39)),aV 5]))) (g' 41 [aA 15]))) (.seq (q' 42 [am 6,aO 42] (ci 43 (g'
 44 [am 5,ae 1 3,ac 270 [45],ao (.bsl 1 1 [.sl l3] [(0,.t 46)]),ao (.app 1 24 [.sl l3] (.t 44) (.t 47)),aV 5]))) (q' 49 [am
 5,aV 4] .ret))))))
def b7k(l:List d3)(r:d3)(hpre:l.length<=100000/\(okL r.V/\r.V.length<1000)/\∀x∈l,okL x.V):spZ 179 [(false,[a1f l]),(true,[t5 r.V])] [] (.one (false,[a1f (a0f q0 l r)])):=by
 refine sx' false true none Tryz.func179 a6c [.t 4] [(268,[],a2E),(269,[],a1E),(270,[],a1F)] ?_;intro hb hE;obtain⟨hlen,⟨hr,hrl⟩,hl0⟩:=hpre;simp only[go_sem];repeat' first|apply cj'|intro hc|exact om'|fail
 ·rw[a0f,if_pos (a3E.1 hc)]
 have hN:¬r∈l:=fun h=>by rw[a3E.2 h]at hc;cases hc
 clear hc;refine lk' false [(false,5,0,100010)] [0,3,14] [6] [] (fun i:{i:Nat // i<=l.length}=>[(5,.v false [.ow 100010]),(6,slV (.b ((l.take i.1).any (q0 r)))),(15,slV (.i .i64 i.1))]) nl' (fun i=>[(100010,o8,(a0J q0 r (l.take i.1)).map (d3.cells false false))]) (fun i=>l.length-i.1) (⟨0,by simp⟩) ?_;intro S0 hS0 i;obtain⟨i,hi⟩:=i;have hl:=a9r q0 r (l.take i);rw[V9]at hl;have hC:=fun(h:i<l.length)=>hl0 _ (y6 (l:=l) default h)
 have hx:=fun(h:i<l.length)=>l6 (l:=l) default (i:=i) h
 simp only[go_sem,hS0];repeat' first|apply cj'|intro hc|exact om'|fail
 ·have h5:q0 r (l.getD i default)=true:=by rw[<-a9J hr (hC (by omega))];exact hc.2
  have h1:(l.take (i+1)).any (q0 r)=true:=by rw[hx (by omega),q1J,hc.1,q2H,h5];rfl
  have h2:a0J q0 r (l.take (i+1))=a0J q0 r (l.take i)++[r]++[l.getD i default]:=by rw[hx (by omega),a9q hc.1 h5]
  (refine lpK_n2 (⟨i+1,by omega⟩) _ (by simp only[go_sem];try rfl) ?_;simp only[go_sem,hS0]<;>repeat' first|apply V1|exact on'|fail)
  all_goals first|rw[h1]|rw[h2]|trace_state
 ·have h3:(l.take (i+1)).any (q0 r)=(l.take i).any (q0 r)/\a0J q0 r (l.take (i+1))=a0J q0 r (l.take i)++[l.getD i default]:=by
   rw[hx (by omega)];cases h:(l.take i).any (q0 r)with
   | true=>exact⟨by rw[q1J,h];rfl,a6V h⟩
   | false=>
     rw[h,a9J hr (hC (by omega))]at hc;have hc2:q0 r (l.getD i default)=false:=hc;exact⟨by rw[q1J,h,q2H,hc2];rfl,b4F h hc2⟩
  (refine lpK_n2 (⟨i+1,by omega⟩) _ (by simp only[go_sem];try rfl) ?_;simp only[go_sem,hS0]<;>repeat' first|apply V1|exact on'|fail)
  all_goals first|rw[h3.1]|rw[h3.2]|trace_state
 ·rw[k6 (by omega)]at hc ⊢;rw[a6X hN hc]
 ·rw[k6 (by omega)]at hc ⊢;rw[a6W hN hc]
noncomputable def a7S:CT:=p6 (fun(x:(List d3)×d3) h=>b7k x.1 x.2 h)
@[go_sem] def c7c:=fun l x0=>nm' (fP' a7S rfl (l,⟨x0⟩))
noncomputable def a1r(r:c6)(s:d6):List d3:=(l7 r s).1.map fun e=>(v8 e r.Head.Args).1
noncomputable def b4D(r:c6)(s:d6):f5×Bool:=bif (l7 r s).2 then b1b r.Head.Args.length (a1r r s)else(default,false)
def a1I{r:c6}(h:l4 r=true):r.Head.Args.all s6=true/\r.Head.Args.length<=6:=by
 simp only[l4,a2Y,W7,q0B]at h;exact⟨h.1.1.2.2,by omega⟩
def c1R{r:c6}{s:d6}(hr:l4 r=true)(hs:u7 s=true):(a1r r s).length<=2000/\∀x∈a1r r s,okL x.V/\x.V.length<1000:=by
 refine⟨by rw[a1r,q0H];exact(a2I hr hs).1,fun x hx=>?_⟩;obtain⟨e,he,rfl⟩:=q1E.1 hx;obtain⟨_,_,vs,hv⟩:=a3H hr hs;have h1:EnvS e.Binds:=by
  rw[l7]at he;cases hj:(a0H r s).2 with
  | false=>rw[hj]at he;cases he
  | true=>
    rw[hj,W4]at he;exact(hv e ((w9.1 he).resolve_left (by intro h;cases h))).1
 have h2:=a9j h1 (a1I hr).1 (a1I hr).2;have h3:=(b8n h2).1;exact⟨y9 h2,by
  have:(v8 e r.Head.Args).1.V.length<=6:=h3;omega⟩
def b9s(r:c6)(s:d6)(hpre:l4 r=true/\u7 s=true):spZ 87 [(true,[.i .i64 r.Kind,.s r.Head.Name,n9 r.Head.Args,a0r r.Body]),(true,[v9 s.Rels])] [] (.tup [(true,[.i .i64 (((b4D r s).1).Arity),c1q (((b4D r s).1).Rows)]),(false,[.b ((b4D r s).2)])]):=by
 refine sx' true false none Tryz.func87 (q' 2 [aX 4 0,aX 1 1,aw [.i .i64,.sl o8],aU false] (q' 14 [ae 4 2,ae 1 3,ac 71 [14,15],aV 13,aZ 13 0,aZ 13 1,av 6 17,aV 7] (.seq (q' 19 [am 7,aO 19] (ci 20 (q' 21 [ao (.bld [.i .i64,.sl o8] []),aS 2 4 21,ab 5 false] .ret))) (q' 22 [ao (.bsl 1 0 [.sl l3] []),aV 8] (.seq (q' 23 [am 6,aN,aK 0] (fO 0 26 [ar 25 24] 26 1 (q' 27 [ai 1 23 25,aE 1,ax (w' 10 [.sl j3]),aS 1 10 28] (q' 30 [ae 1 10,af 1 2,aG 1 31,ac 81 [30,33],aV 29,aZ 29 0,aZ 29 1,ax (w' 11 [.sl l3]),aS 1 11 35,aV 12] (g' 37 [am 8,ae 1 11,ao (.bsl 1 1 [.sl l3] [(0,.t 38)]),ao (.app 1 24 [.sl l3] (.t 37) (.t 39)),aV 8]))) (g' 41 [aA 25]))) (q' 42 [af 1 2,aG 1 42,aN,am 8,ac 177 [45,46],aZ 47 0,aZ 47 1,aS 2 4 48,aV 5] .ret)))))) [.c 4 true 2,.t 5] [(71,[],a4o),(81,[],a3Q),(177,[],a8Z)] ?_;intro hb hE;have hpre0:=hpre;obtain⟨hr,hs⟩:=hpre;have hH:=a1I hr;have hB:=a2I hr hs;have hR:=c1R hr hs;simp only[go_sem];repeat' first|apply cj'|intro hc|exact om'|fail
 ·rw[b4D,hc];exact⟨⟨rfl,rfl⟩,rfl⟩
 refine a1v 2048 ?_;refine lk' true [(false,8,0,100016)] [2,4,23,24] [4,8] [] (fun i:{i:Nat // i<=(l7 r s).1.length}=>[(8,.v false [.ow 100016]),(25,slV (.i .i64 i.1))]) nl' (fun i=>[(100016,c5N,(((l7 r s).1.take i.1).map fun e=>(v8 e r.Head.Args).1).map (d3.cells true true))]) (fun i=>(l7 r s).1.length-i.1) (⟨0,by simp⟩) ?_;intro S0 hS0 i;obtain⟨i,hi⟩:=i;have hol:((l7 r s).1.take i).length=i:=by rw[V9];omega
 have hsn:i<(l7 r s).1.length->(l7 r s).1.take (i+1)=(l7 r s).1.take i++[(l7 r s).1.getD i default]:=fun h=>l6 default h
 simp only[go_sem,hS0];repeat' first|apply cj'|intro hc|exact om'|fail
 ·(refine lpK_n2 (⟨i+1,by omega⟩) _ (by simp only[go_sem];try rfl) ?_;simp only[go_sem,hS0]<;>repeat' first|apply V1|exact on'|fail)
  all_goals(rw[hsn (by omega)];simp only[q1U,V8,q0K])
 ·rw[k6 (by omega)];exact⟨by have:=hB.1;omega,hR.2⟩
 ·rw[k6 (by omega),b4D,(by assumption:(l7 r s).2=true)];exact⟨⟨rfl,rfl⟩,rfl⟩
noncomputable def a8W:CT:=p6 (fun(x:c6×d6) h=>b9s x.1 x.2 h)
@[go_sem] def c8n:=fun x0 x1 x2 x3 x4=>nm' (fP' a8W rfl (⟨x0,⟨x1,x2⟩,x3⟩,⟨x4⟩))
noncomputable def a0k(r:c6)(s:d6):f5×Bool:=bif (a0p r s).2 then b1b r.Head.Args.length (a1r r s)else(default,false)
def c7y{r:c6}{s:d6}(h:(a0p r s).2=false):a0k r s=(default,false):=by rw[a0k,h];rfl
def c9e{r:c6}{s:d6}(h:(a0p r s).2=true):l4 r=true/\u7 s=true:=by
 rw[a0p]at h;cases h1:l4 r&&(!decide (0<((a0P r).length:Int))&&u7 s)with
 | false=>rw[h1]at h;cases h
 | true=>
   simp only[W7]at h1;exact⟨h1.1,h1.2.2⟩
def a9s(r:c6)(s:d6):spZ 29 [(true,[.i .i64 r.Kind,.s r.Head.Name,n9 r.Head.Args,a0r r.Body]),(true,[v9 s.Rels])] [] (.tup [(true,[.i .i64 (((a0k r s).1).Arity),c1q (((a0k r s).1).Rows)]),(false,[.b ((a0k r s).2)])]):=by
 refine sx' true false none Tryz.func29 (q' 2 [aX 4 0,aX 1 1,aw [.i .i64,.sl o8],aU false] (.seq (q' 6 [ae 4 2,ac 69 [6],aO 7,am 8,aH 9 false [be 4 2,bc 67 [10],bN,bC .gtr 12 0],aQ 9 13,am 14,aH 15 false [be 1 3,bc 70 [16],bO 17],aQ 15 18] (ci 19 (q' 20 [ao (.bld [.i .i64,.sl o8] []),aS 2 4 20,ab 5 false] .ret))) (q' 21 [ae 4 2,ae 1 3,ac 87 [21,22],aZ 23 0,aZ 23 1,aS 2 4 24,aV 5] .ret))) [.c 4 true 2,.t 5] [(69,[],a2A),(67,[],a2q),(70,[],a3o),(87,[],a8W)] ?_;intro hb hE;simp only[go_sem];repeat' first|apply cj'|intro hc|exact om'|fail
 ·rw[a0k,b4a hc];exact⟨⟨rfl,rfl⟩,rfl⟩
 ·exact⟨hc.1.1,hc.2⟩
 ·rw[a0k,a7m hc];exact⟨⟨rfl,rfl⟩,rfl⟩
noncomputable def b8S:CT:=o9 (fun(x:c6×d6)=>a9s x.1 x.2)
@[go_sem] def c8f:=fun x0 x1 x2 x3 x4=>nm' (fQ' b8S rfl (⟨x0,⟨x1,x2⟩,x3⟩,⟨x4⟩))
noncomputable def c3P(r:c6)(s:d6):f5:=⟨r.Head.Args.length,t8 q0 [] (a1r r s)⟩
def b2Q(r:c6)(s:d6)(hpre:l4 r=true/\u7 s=true):spZ 88 [(true,[.i .i64 r.Kind,.s r.Head.Name,n9 r.Head.Args,a0r r.Body]),(true,[v9 s.Rels])] [] (.tup [(true,[.i .i64 (((c3P r s,(l7 r s).2).1).Arity),a1f (((c3P r s,(l7 r s).2).1).Rows)]),(false,[.b ((c3P r s,(l7 r s).2).2)])]):=by
 refine sx' false true none Tryz.func88 (q' 2 [aX 4 0,aX 1 1,aw [.i .i64,.sl o8],aU false] (q' 13 [ae 4 2,ae 1 3,ac 76 [13,14],aV 12,aZ 12 0,aZ 12 1,av 6 16,aV 7] (q' 18 [af 1 2,aG 1 18,aN,ao (.bld [.i .i64,.sl o8] [(0,1,.t 21)]),ax (w' 8 [.i .i64,.sl o8]),aS 2 8 22] (.seq (q' 23 [am 6,aN,aK 0] (fO 0 26 [ar 25 24] 26 1 (q' 27 [am 25,aV 9] (.seq (rm' [(true,0,m' 29 6),(true,1,m' 30 9),(true,2,i' 31 1 29 30), (true,3,e' 32 1 31),(true,4,f' 33 1 2),(true,5,f' 34 1 33),(true,6,l' 35 34),(false,7,c' 36 178 [32,35]),(false,8,m' 28 36),(false,9,o' 37 (.ext (.t 28) 0)),(false,10,o' 38 (.ext (.t 28) 1)),(false,11,w' 10 [.sl l3]),(false,12,s' 1 10 37),(false,13,m' 11 38)] [[0, 1,2,3,4,5,6,7,8,9,11,10,12,13],[0,1,2,3,4,5,6,7,8,9,11,12,10,13],[0,1,2,3,4,5,6,7,8,10,11,9,12,13],[0,1,2,3,4,5, 6,7,8,11,9,10,12,13],[0,1,2,3,4,5,6,7,8,11,9,12,10,13],[0,1,2,3,4,5,6,7,11,8,9,10,12,13],[0,1,2,3,4,5,6,7,11,8, 9,12,10,13],[0,1,2,3,4,5,6,11,7,8,9,10,12,13],[0,1,2,3,4,5,6,11,7,8,9,12,10,13]] [4,5]) (g' 39 [aG 1 8,ae 1 10,ac 179 [40,41],af 1 8,aS 1 43 42]))) (g' 44 [aA 25]))) (q' 45 [ae 2 8,am 7,aS 2 4 45,aV 5] .ret))))) [.c 4 true 2,.t 5] [(76,[],a2t),(178,[],a4O),(179,[],a7S)] ?_;intro hb hE;have hpre0:=hpre;obtain⟨hr,hs⟩:=hpre;have hH:=a1I hr;have hB:=a2I hr hs;have hR:=c1R hr hs;simp only[go_sem];(repeat' first|apply cj'|intro hc|apply z6);(all_goals(try(refine(show A3U _ _ _ _ _ _ from ?_);simp only[go_sem]at hc ⊢;simp only[go_sem,A7u,A7y,A6L,A6K,A7t,A6J,nf_put_sub,A7w,A7v,nf_put_susK,nf_put_dip,nf_put_put,A7x,A7s,A6M,j8,j6,j4,j5,j7,nf_sub_sub]at hc ⊢;simp only[hc,q0R,q0I];done)));all_goals try exact om'
 refine aw_keys false [(true,16,1,200032)] ?_;refine a1v 200032 ?_;refine lq' false [2,4,6,7,8,24] [4,8,5] [] (fun i:{i:Nat // i<=(l7 r s).1.length}=>[(25,slV (.i .i64 i.1))]) (fun i=>[(16,[.c (.i .i64 r.Head.Args.length),.c (a1f (t8 q0 [] ((a1r r s).take i.1)))])]) nl' (fun i=>(l7 r s).1.length-i.1) (⟨0,by simp⟩) ?_;intro S0 hS0 i;obtain⟨i,hi⟩:=i;have hrl:(a1r r s).length=(l7 r s).1.length:=by rw[a1r,q0H]
 have hrg:i<(l7 r s).1.length->(a1r r s).getD i default=(v8 ((l7 r s).1.getD i default) r.Head.Args).1:=fun h=>by
  rw[a1r,q0E,q4B,V4 h,q0E,V4 h];rfl
 have hsn:i<(l7 r s).1.length->t8 q0 [] ((a1r r s).take (i+1))=a0f q0 (t8 q0 [] ((a1r r s).take i)) (v8 ((l7 r s).1.getD i default) r.Head.Args).1:=fun h=>by
  rw[l6 default (show i<(a1r r s).length by omega),hrg h,t8,q3P];rfl
 have hpl:=a1B q0 ((a1r r s).take i) [];rw[V9,q0X]at hpl;simp only[go_sem,hS0];(repeat' first|apply cj'|intro hc|apply z6);(all_goals(try((first|refine u1 7 rfl ?_);intro S hS B0 hB;simp only[go_sem,hS0,V7,q0O]at hS hB;(repeat(first|replace hS:=And.right hS|replace hS:=CJ.r hS));have Rr29:=congrArg (fun s:St=>s.sl 29) hS;have Rr30:=congrArg (fun s:St=>s.sl 30) hS;have Rr32:=congrArg (fun s:St=>s.sl 32) hS;have Rr35:=congrArg (fun s:St=>s.sl 35) hS;have Rr10:=congrArg (fun s:St=>s.sl 10) hS;have Rr11:=congrArg (fun s:St=>s.sl 11) hS;have Rb4:=congrArg (fun s:St=>s.bx 4) hS;have Rb5:=congrArg (fun s:St=>s.bx 5) hS;have Rb20:=congrArg (fun s:St=>s.bx 20) hS;clear hS;simp only[go_sem,hS0]at Rr29 Rr30 Rr32 Rr35 Rr10 Rr11 Rb4 Rb5 Rb20;(try clear hc);intro K hc;simp only[go_sem,hS0,Rr29,Rr30,Rr32,Rr35,Rr10,Rr11,Rb4,Rb5,Rb20,hB,V8,q0K,V6,q0G]at hc ⊢;simp only[go_sem,hS0,Rr29,Rr30,Rr32,Rr35,Rr10,Rr11,Rb4,Rb5,Rb20,hB,A7u,A7y,A6L,A6K,A7t,A6J,nf_put_sub,A7w,A7v,nf_put_susK,nf_put_dip,nf_put_put,A7x,A7s,A6M,j8,j6,j4,j5,j7,nf_sub_sub]at hc ⊢;(first|(simp only[hc,q0R,q0I];done)|((repeat' first|exact hc|apply V1);done)))));all_goals try exact om'
 ·refine⟨⟨⟨by omega, ?_⟩, ?_⟩,fun x hx=>?_⟩
  ·rw[<-hrg (by omega)];exact(hR.2 _ (y6 default (by omega))).1
  ·rw[<-hrg (by omega)];exact(hR.2 _ (y6 default (by omega))).2
  ·exact(hR.2 x (q2F ((w9.1 hx).resolve_left (by intro h;cases h)))).1
 ·(refine lpK_n2 (⟨i+1,by omega⟩) _ rfl ?_;simp only[go_sem,hS0]<;>repeat' first|apply V1|exact on'|fail)
  all_goals rw[hsn (by omega)]
 ·rw[k6 (by omega)];exact⟨rfl,rfl⟩
noncomputable def a5N:CT:=p6 (fun(x:c6×d6) h=>b2Q x.1 x.2 h)
@[go_sem] def c3B:=fun x0 x1 x2 x3 x4=>nm' (fP' a5N rfl (⟨x0,⟨x1,x2⟩,x3⟩,⟨x4⟩))
def b9y(r:c6)(s:d6):spZ 30 [(true,[.i .i64 r.Kind,.s r.Head.Name,n9 r.Head.Args,a0r r.Body]),(true,[v9 s.Rels])] [] (.tup [(true,[.i .i64 (((a0k r s).1).Arity),a1f (((a0k r s).1).Rows)]),(false,[.b ((a0k r s).2)])]):=by
 refine sx' false true none Tryz.func30 (q' 2 [aX 4 0,aX 1 1,aw [.i .i64,.sl o8],aU false] (q' 11 [ae 4 2,ae 1 3,ac 24 [11,12],aV 10,aZ 10 0,aZ 10 1,av 6 14,aV 7] (.seq (q' 16 [am 7,aO 16] (ci 17 (q' 18 [ao (.bld [.i .i64,.sl o8] []),aS 2 4 18,ab 5 false] .ret))) (q' 20 [ae 4 2,ae 1 3,ac 88 [20,21],aV 19,aZ 19 0,aZ 19 1,ax (w' 8 [.i .i64,.sl o8]),aS 2 8 23,aV 9] (.seq (q' 25 [aG 1 8,aN,aC .gtr 27 300] (ci 28 (q' 29 [ao (.bld [.i .i64,.sl o8] []),aS 2 4 29,ab 5 false] .ret))) (q' 30 [ae 2 8,aS 2 4 30,ab 5 true] .ret)))))) [.c 4 true 2,.t 5] [(24,[],a7L),(88,[],a5N)] ?_;intro hb hE;simp only[go_sem];repeat' first|apply cj'|intro hc|exact om'|fail
 ·rw[c7y hc];exact⟨⟨rfl,rfl⟩,rfl⟩
 ·exact c9e hc
 ·rename_i h1;rw[a0k,h1,W4,b1b,a9h,V0 (by exact hc)];exact⟨⟨rfl,rfl⟩,rfl⟩
 ·rename_i h1;rw[a0k,h1,W4,b1b,a9h,V3 (by exact hc)];exact⟨⟨rfl,rfl⟩,rfl⟩
noncomputable def a9b:CT:=o9 (fun(x:c6×d6)=>b9y x.1 x.2)
@[go_sem] def c8t:=fun x0 x1 x2 x3 x4=>nm' (fQ' a9b rfl (⟨x0,⟨x1,x2⟩,x3⟩,⟨x4⟩))
end Go.Aw
namespace Go.Aw
set_option linter.all false
set_option maxHeartbeats 4000000
def a0o{a b:Prop}:CJ a b=(a/\b):=propext ⟨fun h=>⟨h.l,h.r⟩,fun h=>cj' h.1 h.2⟩
def o6{st:St}{x k:Nat}{l:List AC}{y:AC}:(st.setBx x l).sub k y=(st.sub k y).setBx x (F2 k y l):=by
 simp only[St.setBx,St.sub,St.mk.injEq,q0I,q0Q]
 funext z
 by_cases h:z=x<;>simp[h]
def m7{st:St}{x k:Nat}{l:List AC}{z:List C}{r:List (List C)}:(st.setBx x l).setOw k z r=(st.setOw k z r).setBx x l:=rfl
def t7{st:St}{x k:Nat}{y:AC}:(st.susB x).sub k y=(st.sub k y).susB x:=by
 simp only[St.susB,St.sub,St.mk.injEq,q0I,q0Q]
 funext z
 by_cases h:z=x<;>simp[h]
def m9{st:St}{x k:Nat}{z:List C}{r:List (List C)}:(st.susB x).setOw k z r=(st.setOw k z r).susB x:=rfl
def t6{st:St}{x k:Nat}:(st.susB x).dip k=(st.dip k).susB x:=rfl
def m8{st:St}{x:Nat}{l:List AC}:(st.susB x).setBx x l=st.setBx x l:=by
 simp only[St.susB,St.setBx,St.mk.injEq,q0I,q0Q]
 funext z
 by_cases h:z=x<;>simp[h]
def o5{st:St}{x k:Nat}{l:List AC}:(st.setBx x l).dip k=(st.dip k).setBx x l:=rfl
open Go.Proofs
attribute [local irreducible] aft blk lpK retK AW A0p
set_option maxRecDepth 100000
attribute [local irreducible] RM
def headT:List (List UInt8):=[[110,111,116],[97],[],[102,111,114,119,97,114,100]]
def i9(k:Nat):([[C.s [110,111,116]],[C.s [97]],[C.s []],[C.s [102,111,114,119,97,114,100]]]:List (List C)).getD k [C.s []]=[C.s (headT.getD k [])]:=a1M headT k
def b2V:Nat->c7->c6->List c6->List c6×c7
 | 0,c,r,l=>(l,c)
 | n+1,c,r,l=>bif decide ((l.length:Int)<24+i7 c 2)then b2V n (i6 c 2) r (l++[r])else(l,i6 c 2)
def b8c:∀(n m:Nat) (c:c7) (r:c6) (l:List c6),26<=n+l.length->26<=m+l.length->0<n->0<m->b2V n c r l=b2V m c r l
 | 0,_,_,_,_,_,_,h,_=>absurd h (by omega)
 | _,0,_,_,_,_,_,_,h=>absurd h (by omega)
 | n+1,m+1,c,r,l,h1,h2,_,_=>by
   rw[b2V,b2V];have hb:=j9 c (n:=2) (by omega);cases hd:decide ((l.length:Int)<24+i7 c 2)with
   | false=>rfl
   | true=>
     have:=of_decide_eq_true hd;exact b8c n m _ _ _ (by rw[W5,q0P];omega) (by rw[W5,q0P];omega) (by omega) (by omega)
def b2U(c:c7)(r:c6)(l:List c6):List c6×c7:=b2V (26-l.length+1) c r l
def padR_on{c:c7}{r:c6}{l:List c6}(h:(l.length:Int)<24+i7 c 2):b2U c r l=b2U (i6 c 2) r (l++[r]):=by
 have hb:=j9 c (n:=2) (by omega);rw[b2U,b2V,V0 h,W4,b2U];exact b8c _ _ _ _ _ (by rw[W5,q0P];omega) (by rw[W5,q0P];omega) (by omega) (by omega)
def d0p{c:c7}{r:c6}{l:List c6}(h:¬(l.length:Int)<24+i7 c 2):b2U c r l=(l,i6 c 2):=by
 rw[b2U,b2V,V3 h];rfl
def b6D(p:d9)(d:i3)(r:c6)(c:c7)(k:Int)(i:Nat):d9×c7:=
 if k=0 then(⟨p.Decls.set 0 ⟨d.Kind,fewT.getD (i7 c 18).toNat [],d.Arity⟩,p.Rules⟩,i6 c 18)
 else if k=1 then(⟨p.Decls.set 0 ⟨(a4y c).1,d.Name,d.Arity⟩,p.Rules⟩,(a4y c).2)
 else if k=2 then(⟨p.Decls.set 0 ⟨d.Kind,d.Name,(a4y c).1⟩,p.Rules⟩,(a4y c).2)
 else if k=3 then(⟨p.Decls,p.Rules.set i ⟨(a4y c).1,r.Head,r.Body⟩⟩,(a4y c).2)
 else if k=4 then(⟨p.Decls,p.Rules.set i ⟨r.Kind,⟨headT.getD (i7 c 4).toNat [],r.Head.Args⟩,r.Body⟩⟩,i6 c 4)
 else if k=5 then(⟨p.Decls,p.Rules.set i ⟨r.Kind,⟨r.Head.Name,r.Head.Args++[⟨[120],default⟩]⟩,r.Body⟩⟩,c)
 else if k=6 then(if r.Body.length=0 then(p,c)else(⟨p.Decls,p.Rules.set i ⟨r.Kind,r.Head,r.Body.set 0 { r.Body.getD 0 default with Kind:=(a4y c).1 }⟩⟩,(a4y c).2))
 else if k=7 then(if r.Body.length=0 then(p,c)else(⟨p.Decls,p.Rules.set i ⟨r.Kind,r.Head,r.Body.set (r.Body.length-1) { r.Body.getD (r.Body.length-1) default with Op:=i7 c 7-1 }⟩⟩,i6 c 7))
 else if k=8 then(⟨p.Decls,p.Rules.set i ⟨r.Kind,⟨r.Head.Name,r.Head.Args++[⟨[],⟨0,[110,111,116]⟩⟩]⟩,r.Body⟩⟩,c)
 else if k=9 then(⟨p.Decls,p.Rules.set i ⟨r.Kind,⟨r.Head.Name,r.Head.Args++[⟨[88],⟨1,[]⟩⟩]⟩,r.Body⟩⟩,c)
 else if k=10 then(⟨p.Decls,(b2U c r p.Rules).1⟩,(b2U c r p.Rules).2)
 else if k=11 then(⟨p.Decls++[d],p.Rules⟩,c)
 else(p,c)
def c8X{p:d9}{d:i3}{r:c6}{c:c7}{i:Nat}:b6D p d r c 6 i=(if r.Body.length=0 then(p,c)else(⟨p.Decls,p.Rules.set i ⟨r.Kind,r.Head,r.Body.set 0 { r.Body.getD 0 default with Kind:=(a4y c).1 }⟩⟩,(a4y c).2)):=by
 rw[b6D,if_neg (by decide),if_neg (by decide),if_neg (by decide),if_neg (by decide),if_neg (by decide),if_neg (by decide),if_pos rfl]
def c8Y{p:d9}{d:i3}{r:c6}{c:c7}{i:Nat}:b6D p d r c 7 i=(if r.Body.length=0 then(p,c)else(⟨p.Decls,p.Rules.set i ⟨r.Kind,r.Head,r.Body.set (r.Body.length-1) { r.Body.getD (r.Body.length-1) default with Op:=i7 c 7-1 }⟩⟩,i6 c 7)):=by
 rw[b6D,if_neg (by decide),if_neg (by decide),if_neg (by decide),if_neg (by decide),if_neg (by decide),if_neg (by decide),if_neg (by decide),if_pos rfl]
def a4l(c:c7):d9×c7:=
 if(a8v c).Rules.length=0\/(a8v c).Decls.length=0 then(a8v c,i6 (b2W c) 24)
 else b6D (a8v c) ((a8v c).Decls.getD 0 default) ((a8v c).Rules.getD (i7 (i6 (b2W c) 24) (a8v c).Rules.length).toNat default) (i6 (i6 (b2W c) 24) (a8v c).Rules.length) (i7 (b2W c) 24) (i7 (i6 (b2W c) 24) (a8v c).Rules.length).toNat
@[go_sem] def a6e:ACode:=q' 2 [aw [.sl a1y,.sl a1K]] (q' 6 [am 0,ac 335 [6],ax (w' 3 [.sl a1y,.sl
 a1K]),aS 2 3 7] (q' 8 [am 0,ao (.call 33 [.t 8,.k (.v false [.c (.i .i64 24)])]),aV 4] (.seq (q' 10 [aG 1 3,aN,aC .eql 12
 0,am 13,aH 14 false [bf 0 3,bL,bN,bC .eql 17 0],aQ 14 18] (ci 19 (q' 20 [ae 2 3,aS 2 2 20] .ret))) (q' 21 [am 0,aG 1 3,aN,ac 33 [21,24],aV 5] (.seq (q' 26 [am
 4,aC .eql 26 0] (ci 27 (rm' [(true,0,f' 28 0 3),(true,2,m' 30 0),(false,1,l' 29 28),(false,3,c' 31 238 [30]),(false,4,o' 32 (.ia 3 (.t 29) (k'
 0))),(false,5,f' 33 1 32),(false,6,s' 1 33 31)] [[0,1,3,2,4,5,6]] [6,7]))) (.seq (q' 34 [am 4,aC .eql 34 1] (ci 35 (rm' [(true,0,f' 36 0 3),
 (true,2,m' 38 0),(false,1,l' 37 36),(false,3,c' 39 299 [38]),(false,4,o' 40 (.ia 3 (.t 37) (k' 0))),(false,5,f' 41 0 40),(false,6,s' 1 41
 39)] [[0,1,3,2,4,5,6]] [6,7]))) (.seq (q' 42 [am 4,aC .eql 42 2] (ci 43 (rm' [(true,0,f' 44 0 3),(true,2,m' 46 0),(false,1,l' 45 44),(false,
 3,c' 47 299 [46]),(false,4,o' 48 (.ia 3 (.t 45) (k' 0))),(false,5,f' 49 2 48),(false,6,s' 1 49 47)] [[0,1,3,2,4,5,6]] [6,7]))) (.seq (q' 50
 [am 4,aC .eql 50 3] (ci 51 (rm' [(true,0,f' 52 1 3),(true,2,m' 54 5),(true,3,m' 55 0),(false,1,l' 53 52),(false,4,c' 56 299 [55]),(false,5,i'
 57 4 53 54),(false,6,f' 58 0 57),(false,7,s' 1 58 56)] [[0,1,2,4,3,5,6,7]] [6,7]))) (.seq (q' 59 [am 4,aC .eql 59 4] (ci 60 (rm' [(true,0,f'
 61 1 3),(true,2,m' 63 5),(true,4,m' 65 0),(false,1,l' 62 61),(false,3,o' 64 (.bsl 1 4 [.s] [(0,.k (.v false [.c (.s [110,111,116])])),(1,.k
 (.v false [.c (.s [97])])),(2,.k (.v false [.c (.s [])])),(3,.k (.v false [.c (.s [102,111,114,119,97,114,100])]))])),(false,5,o' 66 (.call 33
 [.t 65,.k (.v false [.c (.i .i64 4)])])),(false,6,i' 67 1 64 66),(false,7,l' 68 67),(false,8,i' 69 4 62 63),(false,9,f' 70 1 69),(false,10,f'
 71 0 70),(false,11,s' 1 71 68)] [[0,1,2,3,5,4,6,7,8,9,10,11],[0,1,2,4,3,5,6,7,8,9,10,11],[0,1,2,4,5,3,6,7,8,9,10,11],
 [0,1,2,5,3,4,6,7,8,9,10,11],[0,1,2,5,4,3,6,7,8,9,10,11]] [6,7]))) (.seq (q' 72 [am 4,aC .eql 72 5] (ci 73 (rm' [(true,0,f' 74 1 3),
 (true,2,m' 76 5),(true,3,f' 77 1 3),(true,5,m' 79 5),(true,10,o' 84 (.bld [.s,.i .i64,.s] [(0,1,.k (.v false [.c (.s [120])]))])),(false,1,
 l' 75 74),(false,4,l' 78 77),(false,6,i' 80 4 78 79),(false,7,f' 81 1 80),(false,8,f' 82 1 81),(false,9,l' 83 82),(false,11,o' 85 (.bsl 3 1
 [.s,.i .i64,.s] [(0,.t 84)])),(false,12,o' 86 (.app 3 40 [.s,.i .i64,.s] (.t 83) (.t 85))),(false,13,i' 87 4 75 76),(false,14,f' 88 1 87),
 (false,15,f' 89 1 88),(false,16,s' 1 89 86)] [[0,1,2,3,4,5,6,7,8,9,11,10,12,13,14,15,16],[0,1,2,3,4,5,6,7,8,11,9,10,12,13,
 14,15,16],[0,1,2,3,4,5,6,7,11,8,9,10,12,13,14,15,16],[0,1,2,3,4,5,6,11,7,8,9,10,12,13,14,15,16],[0,1,2,3,4,5,11,6,
 7,8,9,10,12,13,14,15,16],[0,1,2,3,4,6,7,8,9,10,11,5,12,13,14,15,16],[0,1,2,3,4,6,7,8,9,10,11,12,5,13,14,15,16],[0,
 1,2,3,4,6,7,8,9,11,5,10,12,13,14,15,16],[0,1,2,3,4,6,7,8,9,11,10,12,5,13,14,15,16],[0,1,2,3,4,6,7,8,11,5,9,10,12,
 13,14,15,16],[0,1,2,3,4,6,7,8,11,9,10,12,5,13,14,15,16],[0,1,2,3,4,6,7,11,5,8,9,10,12,13,14,15,16],[0,1,2,3,4,6,7,
 11,8,9,10,12,5,13,14,15,16],[0,1,2,3,4,6,11,5,7,8,9,10,12,13,14,15,16],[0,1,2,3,4,6,11,7,8,9,10,12,5,13,14,15,16],
 [0,1,2,3,4,11,5,6,7,8,9,10,12,13,14,15,16],[0,1,2,3,4,11,6,7,8,9,10,12,5,13,14,15,16]] [6,7]))) (.seq (q' 90 [am 4,aC .eql
 90 6,am 91,aH 92 true [bf 1 3,bL,bm 5,bI 4,bF 3,bL,bN,bC .gtr 99 0],aP 92 100] (ci 101 (rm' [(true,0,f' 102 1 3),(true,2,m' 104 5),(true,6,m' 108 0),
 (false,1,l' 103 102),(false,3,i' 105 4 103 104),(false,4,f' 106 3 105),(false,5,l' 107 106),(false,7,c' 109 299 [108]),(false,8,o' 110 (.ia
 10 (.t 107) (k' 0))),(false,9,f' 111 0 110),(false,10,s' 1 111 109)] [[0,1,2,3,4,5,7,6,8,9,10],[0,1,2,3,4,7,5,6,8,9,10],[0,1,2,
 3,7,4,5,6,8,9,10],[0,1,2,7,3,4,5,6,8,9,10]] [6,7]))) (.seq (q' 112 [am 4,aC .eql 112 7,am 113,aH 114 true [bf 1 3,bL,bm 5,bI 4,bF
 3,bL,bN,bC .gtr 121 0],aP 114 122] (ci 123 (.regm [(true,0,f' 124 1 3),(true,2,m' 126 5),(true,6,f' 130 1 3),(true,8,m' 132 5),(true,14,m' 138
 0),(false,1,l' 125 124),(false,3,i' 127 4 125 126),(false,4,f' 128 3 127),(false,5,l' 129 128),(false,7,l' 131 130),(false,9,i' 133 4 131
 132),(false,10,f' 134 3 133),(false,11,l' 135 134),(false,12,n' 136 135),(true,13,o' 137 (.bin .sub (.t 136) (k' 1))),(false,15,o' 139 (.call
 33 [.t 138,.k (.v false [.c (.i .i64 7)])])),(false,16,o' 140 (.bin .sub (.t 139) (k' 1))),(false,17,i' 141 10 129 137),(false,18,f' 142 3 141),
 (false,19,s' 1 142 140)] [[(true,0,f' 124 1 3),(true,2,m' 126 5),(true,6,f' 130 1 3),(true,8,m' 132 5),(true,14,m' 138 0),(false,1,l' 125
 124),(false,3,i' 127 4 125 126),(false,4,f' 128 3 127),(false,5,l' 129 128),(false,7,l' 131 130),(false,9,i' 133 4 131 132),(false,10,f' 134
 3 133),(false,11,l' 135 134),(false,15,o' 139 (.call 33 [.t 138,.k (.v false [.c (.i .i64 7)])])),(true,16,o' 140 (.bin .sub (.t 139) (k' 1))),
 (false,12,n' 136 135),(false,13,o' 137 (.bin .sub (.t 136) (k' 1))),(false,17,i' 141 10 129 137),(false,18,f' 142 3 141),(false,19,s' 1 142
 140)],[(true,0,f' 124 1 3),(true,2,m' 126 5),(true,6,f' 130 1 3),(true,8,m' 132 5),(true,14,m' 138 0),(false,1,l' 125 124),(false,3,i'
 127 4 125 126),(false,4,f' 128 3 127),(false,5,l' 129 128),(false,7,l' 131 130),(false,9,i' 133 4 131 132),(false,10,f' 134 3 133),(false,15,
 o' 139 (.call 33 [.t 138,.k (.v false [.c (.i .i64 7)])])),(true,16,o' 140 (.bin .sub (.t 139) (k' 1))),(false,11,l' 135 134),(false,12,n' 136 135),
 (false,13,o' 137 (.bin .sub (.t 136) (k' 1))),(false,17,i' 141 10 129 137),(false,18,f' 142 3 141),(false,19,s' 1 142 140)],[(true,0,f' 124 1
 3),(true,2,m' 126 5),(true,6,f' 130 1 3),(true,8,m' 132 5),(true,14,m' 138 0),(false,1,l' 125 124),(false,3,i' 127 4 125 126),(false,4,f'
 128 3 127),(false,5,l' 129 128),(false,7,l' 131 130),(false,9,i' 133 4 131 132),(false,15,o' 139 (.call 33 [.t 138,.k (.v false [.c (.i .i64
 7)])])),(true,16,o' 140 (.bin .sub (.t 139) (k' 1))),(false,10,f' 134 3 133),(false,11,l' 135 134),(false,12,n' 136 135),(false,13,o' 137 (.bin
 .sub (.t 136) (k' 1))),(false,17,i' 141 10 129 137),(false,18,f' 142 3 141),(false,19,s' 1 142 140)],[(true,0,f' 124 1 3),(true,2,m' 126 5),
 (true,6,f' 130 1 3),(true,8,m' 132 5),(true,14,m' 138 0),(false,1,l' 125 124),(false,3,i' 127 4 125 126),(false,4,f' 128 3 127),(false,5,
 l' 129 128),(false,7,l' 131 130),(false,15,o' 139 (.call 33 [.t 138,.k (.v false [.c (.i .i64 7)])])),(true,16,o' 140 (.bin .sub (.t 139) (k' 1))),
 (false,9,i' 133 4 131 132),(false,10,f' 134 3 133),(false,11,l' 135 134),(false,12,n' 136 135),(false,13,o' 137 (.bin .sub (.t 136) (k' 1))),
 (false,17,i' 141 10 129 137),(false,18,f' 142 3 141),(false,19,s' 1 142 140)],[(true,0,f' 124 1 3),(true,2,m' 126 5),(true,6,f' 130 1 3),
 (true,8,m' 132 5),(true,14,m' 138 0),(false,1,l' 125 124),(false,3,i' 127 4 125 126),(false,4,f' 128 3 127),(false,5,l' 129 128),(false,15,
 o' 139 (.call 33 [.t 138,.k (.v false [.c (.i .i64 7)])])),(true,16,o' 140 (.bin .sub (.t 139) (k' 1))),(false,7,l' 131 130),(false,9,i' 133 4 131
 132),(false,10,f' 134 3 133),(false,11,l' 135 134),(false,12,n' 136 135),(false,13,o' 137 (.bin .sub (.t 136) (k' 1))),(false,17,i' 141 10 129
 137),(false,18,f' 142 3 141),(false,19,s' 1 142 140)],[(true,0,f' 124 1 3),(true,2,m' 126 5),(true,6,f' 130 1 3),(true,8,m' 132 5),(true,
 14,m' 138 0),(false,1,l' 125 124),(false,3,i' 127 4 125 126),(false,4,f' 128 3 127),(false,7,l' 131 130),(false,9,i' 133 4 131 132),(false,
 10,f' 134 3 133),(false,11,l' 135 134),(false,12,n' 136 135),(true,13,o' 137 (.bin .sub (.t 136) (k' 1))),(false,15,o' 139 (.call 33 [.t 138,.k
 (.v false [.c (.i .i64 7)])])),(true,16,o' 140 (.bin .sub (.t 139) (k' 1))),(false,5,l' 129 128),(false,17,i' 141 10 129 137),(false,18,f' 142 3
 141),(false,19,s' 1 142 140)],[(true,0,f' 124 1 3),(true,2,m' 126 5),(true,6,f' 130 1 3),(true,8,m' 132 5),(true,14,m' 138 0),(false,1,l'
 125 124),(false,3,i' 127 4 125 126),(false,4,f' 128 3 127),(false,7,l' 131 130),(false,9,i' 133 4 131 132),(false,10,f' 134 3 133),(false,11,
 l' 135 134),(false,15,o' 139 (.call 33 [.t 138,.k (.v false [.c (.i .i64 7)])])),(true,16,o' 140 (.bin .sub (.t 139) (k' 1))),(false,5,l' 129 128),
 (false,12,n' 136 135),(false,13,o' 137 (.bin .sub (.t 136) (k' 1))),(false,17,i' 141 10 129 137),(false,18,f' 142 3 141),(false,19,s' 1 142
 140)],[(true,0,f' 124 1 3),(true,2,m' 126 5),(true,6,f' 130 1 3),(true,8,m' 132 5),(true,14,m' 138 0),(false,1,l' 125 124),(false,3,i'
 127 4 125 126),(false,4,f' 128 3 127),(false,7,l' 131 130),(false,9,i' 133 4 131 132),(false,10,f' 134 3 133),(false,15,o' 139 (.call 33 [.t
 138,.k (.v false [.c (.i .i64 7)])])),(true,16,o' 140 (.bin .sub (.t 139) (k' 1))),(false,5,l' 129 128),(false,11,l' 135 134),(false,12,n' 136
 135),(false,13,o' 137 (.bin .sub (.t 136) (k' 1))),(false,17,i' 141 10 129 137),(false,18,f' 142 3 141),(false,19,s' 1 142 140)],[(true,0,f'
 124 1 3),(true,2,m' 126 5),(true,6,f' 130 1 3),(true,8,m' 132 5),(true,14,m' 138 0),(false,1,l' 125 124),(false,3,i' 127 4 125 126),(false,
 4,f' 128 3 127),(false,7,l' 131 130),(false,9,i' 133 4 131 132),(false,15,o' 139 (.call 33 [.t 138,.k (.v false [.c (.i .i64 7)])])),(true,16,o'
 140 (.bin .sub (.t 139) (k' 1))),(false,5,l' 129 128),(false,10,f' 134 3 133),(false,11,l' 135 134),(false,12,n' 136 135),(false,13,o' 137
 (.bin .sub (.t 136) (k' 1))),(false,17,i' 141 10 129 137),(false,18,f' 142 3 141),(false,19,s' 1 142 140)],[(true,0,f' 124 1 3),(true,2,m' 126
 5),(true,6,f' 130 1 3),(true,8,m' 132 5),(true,14,m' 138 0),(false,1,l' 125 124),(false,3,i' 127 4 125 126),(false,4,f' 128 3 127),(false,
 7,l' 131 130),(false,15,o' 139 (.call 33 [.t 138,.k (.v false [.c (.i .i64 7)])])),(true,16,o' 140 (.bin .sub (.t 139) (k' 1))),(false,5,l' 129
 128),(false,9,i' 133 4 131 132),(false,10,f' 134 3 133),(false,11,l' 135 134),(false,12,n' 136 135),(false,13,o' 137 (.bin .sub (.t 136) (k'
 1))),(false,17,i' 141 10 129 137),(false,18,f' 142 3 141),(false,19,s' 1 142 140)],[(true,0,f' 124 1 3),(true,2,m' 126 5),(true,6,f' 130 1
 3),(true,8,m' 132 5),(true,14,m' 138 0),(false,1,l' 125 124),(false,3,i' 127 4 125 126),(false,4,f' 128 3 127),(false,15,o' 139 (.call 33
 [.t 138,.k (.v false [.c (.i .i64 7)])])),(true,16,o' 140 (.bin .sub (.t 139) (k' 1))),(false,5,l' 129 128),(false,7,l' 131 130),(false,9,i' 133
 4 131 132),(false,10,f' 134 3 133),(false,11,l' 135 134),(false,12,n' 136 135),(false,13,o' 137 (.bin .sub (.t 136) (k' 1))),(false,17,i' 141
 10 129 137),(false,18,f' 142 3 141),(false,19,s' 1 142 140)],[(true,0,f' 124 1 3),(true,2,m' 126 5),(true,6,f' 130 1 3),(true,8,m' 132 5),
 (true,14,m' 138 0),(false,1,l' 125 124),(false,3,i' 127 4 125 126),(false,7,l' 131 130),(false,9,i' 133 4 131 132),(false,10,f' 134 3 133),
 (false,11,l' 135 134),(false,12,n' 136 135),(true,13,o' 137 (.bin .sub (.t 136) (k' 1))),(false,15,o' 139 (.call 33 [.t 138,.k (.v false [.c (.i
 .i64 7)])])),(true,16,o' 140 (.bin .sub (.t 139) (k' 1))),(false,4,f' 128 3 127),(false,5,l' 129 128),(false,17,i' 141 10 129 137),(false,18,f'
 142 3 141),(false,19,s' 1 142 140)],[(true,0,f' 124 1 3),(true,2,m' 126 5),(true,6,f' 130 1 3),(true,8,m' 132 5),(true,14,m' 138 0),(false,
 1,l' 125 124),(false,3,i' 127 4 125 126),(false,7,l' 131 130),(false,9,i' 133 4 131 132),(false,10,f' 134 3 133),(false,11,l' 135 134),
 (false,15,o' 139 (.call 33 [.t 138,.k (.v false [.c (.i .i64 7)])])),(true,16,o' 140 (.bin .sub (.t 139) (k' 1))),(false,4,f' 128 3 127),(false,5,
 l' 129 128),(false,12,n' 136 135),(false,13,o' 137 (.bin .sub (.t 136) (k' 1))),(false,17,i' 141 10 129 137),(false,18,f' 142 3 141),(false,19,
 s' 1 142 140)],[(true,0,f' 124 1 3),(true,2,m' 126 5),(true,6,f' 130 1 3),(true,8,m' 132 5),(true,14,m' 138 0),(false,1,l' 125 124),(false,
 3,i' 127 4 125 126),(false,7,l' 131 130),(false,9,i' 133 4 131 132),(false,10,f' 134 3 133),(false,15,o' 139 (.call 33 [.t 138,.k (.v false [.c
 (.i .i64 7)])])),(true,16,o' 140 (.bin .sub (.t 139) (k' 1))),(false,4,f' 128 3 127),(false,5,l' 129 128),(false,11,l' 135 134),(false,12,n'
 136 135),(false,13,o' 137 (.bin .sub (.t 136) (k' 1))),(false,17,i' 141 10 129 137),(false,18,f' 142 3 141),(false,19,s' 1 142 140)],[(true,0,
 f' 124 1 3),(true,2,m' 126 5),(true,6,f' 130 1 3),(true,8,m' 132 5),(true,14,m' 138 0),(false,1,l' 125 124),(false,3,i' 127 4 125 126),
 (false,7,l' 131 130),(false,9,i' 133 4 131 132),(false,15,o' 139 (.call 33 [.t 138,.k (.v false [.c (.i .i64 7)])])),(true,16,o' 140 (.bin .sub
 (.t 139) (k' 1))),(false,4,f' 128 3 127),(false,5,l' 129 128),(false,10,f' 134 3 133),(false,11,l' 135 134),(false,12,n' 136 135),(false,13,
 o' 137 (.bin .sub (.t 136) (k' 1))),(false,17,i' 141 10 129 137),(false,18,f' 142 3 141),(false,19,s' 1 142 140)],[(true,0,f' 124 1 3),(true,2,
 m' 126 5),(true,6,f' 130 1 3),(true,8,m' 132 5),(true,14,m' 138 0),(false,1,l' 125 124),(false,3,i' 127 4 125 126),(false,7,l' 131 130),
 (false,15,o' 139 (.call 33 [.t 138,.k (.v false [.c (.i .i64 7)])])),(true,16,o' 140 (.bin .sub (.t 139) (k' 1))),(false,4,f' 128 3 127),(false,5,
 l' 129 128),(false,9,i' 133 4 131 132),(false,10,f' 134 3 133),(false,11,l' 135 134),(false,12,n' 136 135),(false,13,o' 137 (.bin .sub (.t 136)
 (k' 1))),(false,17,i' 141 10 129 137),(false,18,f' 142 3 141),(false,19,s' 1 142 140)],[(true,0,f' 124 1 3),(true,2,m' 126 5),(true,6,f' 130
 1 3),(true,8,m' 132 5),(true,14,m' 138 0),(false,1,l' 125 124),(false,3,i' 127 4 125 126),(false,15,o' 139 (.call 33 [.t 138,.k (.v false [.c
 (.i .i64 7)])])),(true,16,o' 140 (.bin .sub (.t 139) (k' 1))),(false,4,f' 128 3 127),(false,5,l' 129 128),(false,7,l' 131 130),(false,9,i' 133
 4 131 132),(false,10,f' 134 3 133),(false,11,l' 135 134),(false,12,n' 136 135),(false,13,o' 137 (.bin .sub (.t 136) (k' 1))),(false,17,i' 141
 10 129 137),(false,18,f' 142 3 141),(false,19,s' 1 142 140)],[(true,0,f' 124 1 3),(true,2,m' 126 5),(true,6,f' 130 1 3),(true,8,m' 132 5),
 (true,14,m' 138 0),(false,1,l' 125 124),(false,7,l' 131 130),(false,9,i' 133 4 131 132),(false,10,f' 134 3 133),(false,11,l' 135 134),
 (false,12,n' 136 135),(true,13,o' 137 (.bin .sub (.t 136) (k' 1))),(false,15,o' 139 (.call 33 [.t 138,.k (.v false [.c (.i .i64 7)])])),(true,16,
 o' 140 (.bin .sub (.t 139) (k' 1))),(false,3,i' 127 4 125 126),(false,4,f' 128 3 127),(false,5,l' 129 128),(false,17,i' 141 10 129 137),(false,
 18,f' 142 3 141),(false,19,s' 1 142 140)],[(true,0,f' 124 1 3),(true,2,m' 126 5),(true,6,f' 130 1 3),(true,8,m' 132 5),(true,14,m' 138 0),
 (false,1,l' 125 124),(false,7,l' 131 130),(false,9,i' 133 4 131 132),(false,10,f' 134 3 133),(false,11,l' 135 134),(false,15,o' 139 (.call 33
 [.t 138,.k (.v false [.c (.i .i64 7)])])),(true,16,o' 140 (.bin .sub (.t 139) (k' 1))),(false,3,i' 127 4 125 126),(false,4,f' 128 3 127),(false,5,
 l' 129 128),(false,12,n' 136 135),(false,13,o' 137 (.bin .sub (.t 136) (k' 1))),(false,17,i' 141 10 129 137),(false,18,f' 142 3 141),(false,19,
 s' 1 142 140)],[(true,0,f' 124 1 3),(true,2,m' 126 5),(true,6,f' 130 1 3),(true,8,m' 132 5),(true,14,m' 138 0),(false,1,l' 125 124),(false,
 7,l' 131 130),(false,9,i' 133 4 131 132),(false,10,f' 134 3 133),(false,15,o' 139 (.call 33 [.t 138,.k (.v false [.c (.i .i64 7)])])),(true,16,
 o' 140 (.bin .sub (.t 139) (k' 1))),(false,3,i' 127 4 125 126),(false,4,f' 128 3 127),(false,5,l' 129 128),(false,11,l' 135 134),(false,12,n'
 136 135),(false,13,o' 137 (.bin .sub (.t 136) (k' 1))),(false,17,i' 141 10 129 137),(false,18,f' 142 3 141),(false,19,s' 1 142 140)],[(true,0,
 f' 124 1 3),(true,2,m' 126 5),(true,6,f' 130 1 3),(true,8,m' 132 5),(true,14,m' 138 0),(false,1,l' 125 124),(false,7,l' 131 130),(false,9,
 i' 133 4 131 132),(false,15,o' 139 (.call 33 [.t 138,.k (.v false [.c (.i .i64 7)])])),(true,16,o' 140 (.bin .sub (.t 139) (k' 1))),(false,3,i' 127
 4 125 126),(false,4,f' 128 3 127),(false,5,l' 129 128),(false,10,f' 134 3 133),(false,11,l' 135 134),(false,12,n' 136 135),(false,13,o' 137
 (.bin .sub (.t 136) (k' 1))),(false,17,i' 141 10 129 137),(false,18,f' 142 3 141),(false,19,s' 1 142 140)],[(true,0,f' 124 1 3),(true,2,m' 126
 5),(true,6,f' 130 1 3),(true,8,m' 132 5),(true,14,m' 138 0),(false,1,l' 125 124),(false,7,l' 131 130),(false,15,o' 139 (.call 33 [.t 138,.k
 (.v false [.c (.i .i64 7)])])),(true,16,o' 140 (.bin .sub (.t 139) (k' 1))),(false,3,i' 127 4 125 126),(false,4,f' 128 3 127),(false,5,l' 129
 128),(false,9,i' 133 4 131 132),(false,10,f' 134 3 133),(false,11,l' 135 134),(false,12,n' 136 135),(false,13,o' 137 (.bin .sub (.t 136) (k'
 1))),(false,17,i' 141 10 129 137),(false,18,f' 142 3 141),(false,19,s' 1 142 140)],[(true,0,f' 124 1 3),(true,2,m' 126 5),(true,6,f' 130 1
 3),(true,8,m' 132 5),(true,14,m' 138 0),(false,1,l' 125 124),(false,15,o' 139 (.call 33 [.t 138,.k (.v false [.c (.i .i64 7)])])),(true,16,o'
 140 (.bin .sub (.t 139) (k' 1))),(false,3,i' 127 4 125 126),(false,4,f' 128 3 127),(false,5,l' 129 128),(false,7,l' 131 130),(false,9,i' 133 4
 131 132),(false,10,f' 134 3 133),(false,11,l' 135 134),(false,12,n' 136 135),(false,13,o' 137 (.bin .sub (.t 136) (k' 1))),(false,17,i' 141 10
 129 137),(false,18,f' 142 3 141),(false,19,s' 1 142 140)],[(true,0,f' 124 1 3),(true,2,m' 126 5),(true,6,f' 130 1 3),(true,8,m' 132 5),
 (true,14,m' 138 0),(false,7,l' 131 130),(false,9,i' 133 4 131 132),(false,10,f' 134 3 133),(false,11,l' 135 134),(false,12,n' 136 135),
 (true,13,o' 137 (.bin .sub (.t 136) (k' 1))),(false,15,o' 139 (.call 33 [.t 138,.k (.v false [.c (.i .i64 7)])])),(true,16,o' 140 (.bin .sub (.t 139)
 (k' 1))),(false,1,l' 125 124),(false,3,i' 127 4 125 126),(false,4,f' 128 3 127),(false,5,l' 129 128),(false,17,i' 141 10 129 137),(false,18,
 f' 142 3 141),(false,19,s' 1 142 140)],[(true,0,f' 124 1 3),(true,2,m' 126 5),(true,6,f' 130 1 3),(true,8,m' 132 5),(true,14,m' 138 0),
 (false,7,l' 131 130),(false,9,i' 133 4 131 132),(false,10,f' 134 3 133),(false,11,l' 135 134),(false,15,o' 139 (.call 33 [.t 138,.k (.v false
 [.c (.i .i64 7)])])),(true,16,o' 140 (.bin .sub (.t 139) (k' 1))),(false,1,l' 125 124),(false,3,i' 127 4 125 126),(false,4,f' 128 3 127),(false,
 5,l' 129 128),(false,12,n' 136 135),(false,13,o' 137 (.bin .sub (.t 136) (k' 1))),(false,17,i' 141 10 129 137),(false,18,f' 142 3 141),(false,
 19,s' 1 142 140)],[(true,0,f' 124 1 3),(true,2,m' 126 5),(true,6,f' 130 1 3),(true,8,m' 132 5),(true,14,m' 138 0),(false,7,l' 131 130),
 (false,9,i' 133 4 131 132),(false,10,f' 134 3 133),(false,15,o' 139 (.call 33 [.t 138,.k (.v false [.c (.i .i64 7)])])),(true,16,o' 140 (.bin .sub
 (.t 139) (k' 1))),(false,1,l' 125 124),(false,3,i' 127 4 125 126),(false,4,f' 128 3 127),(false,5,l' 129 128),(false,11,l' 135 134),(false,
 12,n' 136 135),(false,13,o' 137 (.bin .sub (.t 136) (k' 1))),(false,17,i' 141 10 129 137),(false,18,f' 142 3 141),(false,19,s' 1 142 140)],
 [(true,0,f' 124 1 3),(true,2,m' 126 5),(true,6,f' 130 1 3),(true,8,m' 132 5),(true,14,m' 138 0),(false,7,l' 131 130),(false,9,i' 133 4 131
 132),(false,15,o' 139 (.call 33 [.t 138,.k (.v false [.c (.i .i64 7)])])),(true,16,o' 140 (.bin .sub (.t 139) (k' 1))),(false,1,l' 125 124),(false,
 3,i' 127 4 125 126),(false,4,f' 128 3 127),(false,5,l' 129 128),(false,10,f' 134 3 133),(false,11,l' 135 134),(false,12,n' 136 135),(false,
 13,o' 137 (.bin .sub (.t 136) (k' 1))),(false,17,i' 141 10 129 137),(false,18,f' 142 3 141),(false,19,s' 1 142 140)],[(true,0,f' 124 1 3),(true,
 2,m' 126 5),(true,6,f' 130 1 3),(true,8,m' 132 5),(true,14,m' 138 0),(false,7,l' 131 130),(false,15,o' 139 (.call 33 [.t 138,.k (.v false [.c
 (.i .i64 7)])])),(true,16,o' 140 (.bin .sub (.t 139) (k' 1))),(false,1,l' 125 124),(false,3,i' 127 4 125 126),(false,4,f' 128 3 127),(false,5,
 l' 129 128),(false,9,i' 133 4 131 132),(false,10,f' 134 3 133),(false,11,l' 135 134),(false,12,n' 136 135),(false,13,o' 137 (.bin .sub (.t 136)
 (k' 1))),(false,17,i' 141 10 129 137),(false,18,f' 142 3 141),(false,19,s' 1 142 140)],[(true,0,f' 124 1 3),(true,2,m' 126 5),(true,6,f' 130
 1 3),(true,8,m' 132 5),(true,14,m' 138 0),(false,15,o' 139 (.call 33 [.t 138,.k (.v false [.c (.i .i64 7)])])),(true,16,o' 140 (.bin .sub (.t
 139) (k' 1))),(false,1,l' 125 124),(false,3,i' 127 4 125 126),(false,4,f' 128 3 127),(false,5,l' 129 128),(false,7,l' 131 130),(false,9,i'
 133 4 131 132),(false,10,f' 134 3 133),(false,11,l' 135 134),(false,12,n' 136 135),(false,13,o' 137 (.bin .sub (.t 136) (k' 1))),(false,17,i'
 141 10 129 137),(false,18,f' 142 3 141),(false,19,s' 1 142 140)]] [6,7]))) (.seq (q' 143 [am 4,aC .eql 143 8] (ci 144 (rm' [(true,0,f' 145 1 3),
 (true,2,m' 147 5),(true,3,f' 148 1 3),(true,5,m' 150 5),(true,10,o' 155 (.bld [.i .i64,.s] [(1,1,.k (.v false [.c (.s [110,111,116])]))])),
 (true,11,o' 156 (.bld [.s,.i .i64,.s] [(1,2,.t 155)])),(false,1,l' 146 145),(false,4,l' 149 148),(false,6,i' 151 4 149 150),(false,7,f' 152
 1 151),(false,8,f' 153 1 152),(false,9,l' 154 153),(false,12,o' 157 (.bsl 3 1 [.s,.i .i64,.s] [(0,.t 156)])),(false,13,o' 158 (.app 3 40 [.s,
 .i .i64,.s] (.t 154) (.t 157))),(false,14,i' 159 4 146 147),(false,15,f' 160 1 159),(false,16,f' 161 1 160),(false,17,s' 1 161 158)] [[0,1,2,
 3,4,5,6,7,8,9,10,12,11,13,14,15,16,17],[0,1,2,3,4,5,6,7,8,9,12,10,11,13,14,15,16,17],[0,1,2,3,4,5,6,7,8,12,9,10,
 11,13,14,15,16,17],[0,1,2,3,4,5,6,7,12,8,9,10,11,13,14,15,16,17],[0,1,2,3,4,5,6,12,7,8,9,10,11,13,14,15,16,17],[0,
 1,2,3,4,5,7,8,9,10,11,12,6,13,14,15,16,17],[0,1,2,3,4,5,7,8,9,10,11,12,13,6,14,15,16,17],[0,1,2,3,4,5,7,8,9,10,
 12,6,11,13,14,15,16,17],[0,1,2,3,4,5,7,8,9,10,12,11,13,6,14,15,16,17],[0,1,2,3,4,5,7,8,9,12,6,10,11,13,14,15,16,
 17],[0,1,2,3,4,5,7,8,9,12,10,11,13,6,14,15,16,17],[0,1,2,3,4,5,7,8,12,6,9,10,11,13,14,15,16,17],[0,1,2,3,4,5,7,8,
 12,9,10,11,13,6,14,15,16,17],[0,1,2,3,4,5,7,12,6,8,9,10,11,13,14,15,16,17],[0,1,2,3,4,5,7,12,8,9,10,11,13,6,14,15,
 16,17],[0,1,2,3,4,5,12,6,7,8,9,10,11,13,14,15,16,17],[0,1,2,3,4,5,12,7,8,9,10,11,13,6,14,15,16,17]] [6,7]))) (.seq (q'
 162 [am 4,aC .eql 162 9] (ci 163 (rm' [(true,0,f' 164 1 3),(true,2,m' 166 5),(true,3,f' 167 1 3),(true,5,m' 169 5),(true,10,o' 174 (.bld [.i
 .i64,.s] [(0,1,.k (.v false [.c (.i .i64 1)]))])),(true,11,o' 175 (.bld [.s,.i .i64,.s] [(0,1,.k (.v false [.c (.s [88])])),(1,2,.t 174)])),
 (false,1,l' 165 164),(false,4,l' 168 167),(false,6,i' 170 4 168 169),(false,7,f' 171 1 170),(false,8,f' 172 1 171),(false,9,l' 173 172),
 (false,12,o' 176 (.bsl 3 1 [.s,.i .i64,.s] [(0,.t 175)])),(false,13,o' 177 (.app 3 40 [.s,.i .i64,.s] (.t 173) (.t 176))),(false,14,i' 178 4 165
 166),(false,15,f' 179 1 178),(false,16,f' 180 1 179),(false,17,s' 1 180 177)] [[0,1,2,3,4,5,6,7,8,9,10,12,11,13,14,15,16,17],[0,1,
 2,3,4,5,6,7,8,9,12,10,11,13,14,15,16,17],[0,1,2,3,4,5,6,7,8,12,9,10,11,13,14,15,16,17],[0,1,2,3,4,5,6,7,12,8,9,
 10,11,13,14,15,16,17],[0,1,2,3,4,5,6,12,7,8,9,10,11,13,14,15,16,17],[0,1,2,3,4,5,7,8,9,10,11,12,6,13,14,15,16,17],
 [0,1,2,3,4,5,7,8,9,10,11,12,13,6,14,15,16,17],[0,1,2,3,4,5,7,8,9,10,12,6,11,13,14,15,16,17],[0,1,2,3,4,5,7,8,9,
 10,12,11,13,6,14,15,16,17],[0,1,2,3,4,5,7,8,9,12,6,10,11,13,14,15,16,17],[0,1,2,3,4,5,7,8,9,12,10,11,13,6,14,15,16,
 17],[0,1,2,3,4,5,7,8,12,6,9,10,11,13,14,15,16,17],[0,1,2,3,4,5,7,8,12,9,10,11,13,6,14,15,16,17],[0,1,2,3,4,5,7,12,
 6,8,9,10,11,13,14,15,16,17],[0,1,2,3,4,5,7,12,8,9,10,11,13,6,14,15,16,17],[0,1,2,3,4,5,12,6,7,8,9,10,11,13,14,15,
 16,17],[0,1,2,3,4,5,12,7,8,9,10,11,13,6,14,15,16,17]] [6,7]))) (.seq (q' 181 [am 4,aC .eql 181 10] (ci 182 (lO 0 (.seq (.seq (.regm
 [(true,0,f' 183 1 3),(true,3,m' 186 0),(false,1,l' 184 183),(false,2,n' 185 184),(false,4,o' 187 (.call 33 [.t 186,.k (.v false [.c (.i .i64
 2)])])),(false,5,o' 188 (.bin .add (k' 24) (.t 187))),(false,6,r' 189 185 188)] [[(true,0,f' 183 1 3),(true,3,m' 186 0),(false,1,l' 184 183),
 (false,4,o' 187 (.call 33 [.t 186,.k (.v false [.c (.i .i64 2)])])),(true,5,o' 188 (.bin .add (k' 24) (.t 187))),(false,2,n' 185 184),(false,6,r'
 189 185 188)],[(true,0,f' 183 1 3),(true,3,m' 186 0),(false,4,o' 187 (.call 33 [.t 186,.k (.v false [.c (.i .i64 2)])])),(true,5,o' 188 (.bin
 .add (k' 24) (.t 187))),(false,1,l' 184 183),(false,2,n' 185 184),(false,6,r' 189 185 188)]] [6,7]) (cd 189 .skip (.exit 0))) (.block 1 (rm' [(true,
 4,m' 194 5),(false,0,f' 190 1 3),(false,1,l' 191 190),(false,2,f' 192 1 3),(false,3,l' 193 192),(false,5,i' 195 4 193 194),(false,6,e' 196
 4 195),(false,7,o' 197 (.bsl 4 1 [.i .i64,.s,.sl j3,.sl a1u] [(0,.t 196)])),(false,8,o' 198 (.app 4 72 [.i .i64,.s,.sl j3,.sl a1u] (.t 191) (.t 197))),(false,9,f' 199 1 3),(false,
 10,s' 1 199 198)] [[0,1,3,4,5,6,7,2,8,9,10],[0,3,4,5,6,7,1,2,8,9,10]] [])))))) (.seq (q' 200 [am 4,aC .eql 200 11] (ci 201 (rm' [(false,
 0,f' 202 0 3),(false,1,l' 203 202),(false,2,f' 204 0 3),(false,3,l' 205 204),(false,4,o' 206 (.ia 3 (.t 205) (k' 0))),(false,5,e' 207 3 206),
 (false,6,o' 208 (.bsl 3 1 [.i .i64,.s,.i .i64] [(0,.t 207)])),(false,7,o' 209 (.app 3 32 [.i .i64,.s,.i .i64] (.t 203) (.t 208))),(false,8,f' 210
 0 3),(false,9,s' 1 210 209)] [[0,2,3,4,5,6,1,7,8,9],[2,3,4,5,6,0,1,7,8,9]] []))) (q' 211 [ae 2 3,aS 2 2 211] .ret)))))))))))))))))
def b4C:cmp Tryz.prog Tryz.f295=some a6e:=by kernel_rfl
def b7o(c:c7)(hpre:k7 c):spZ 295 [(false,[.mp [.sl false [.i .u8 0] (c.b.map cU8),.i .i64 c.i,.i .i64 c.h]])] [(0,(false,[.mp [.sl false [.i .u8 0] ((((a4l c).2).b).map cU8),.i .i64 (((a4l c).2).i),.i .i64 (((a4l c).2).h)]]))] (.one (true,[c9T (((a4l c).1).Decls),c9U (((a4l c).1).Rules)])):=by
 refine sq' true true (some 0) Tryz.func295 b4C [.c 2 true 2] [(33,[0],l5),(299,[0],a2D),(238,[0],a2a),(335,[0],a3T)] ?_;intro hb hE;simp only[go_sem]at hb;simp only[a6e,x'];have hsm:smallP (a8v c):=a7f _;have h1:=c5G hpre;have h2:=i8 h1 24;have hk:=j9 (b2W c) (n:=24) (by omega);obtain⟨a,ha⟩:∃a,a4l c=a:=⟨_,rfl⟩
 rw[ha];rw[a4l]at ha;refine aw_seq (A3s ?_);simp only[go_sem,i9,pc_susB,Int.reduceBEq];refine aft_n (aw_seq (A3s ?_));simp only[go_sem,i9,pc_susB,Int.reduceBEq];refine cj' hpre (aft_n (aw_seq (A3s ?_)));simp only[go_sem,i9,pc_susB,Int.reduceBEq];refine cj' h1 (aft_n (aw_seq (A3s ?_)));simp only[go_sem,i9,pc_susB,Int.reduceBEq];generalize a8v c=p at*;generalize b2W c=e at*;refine cj' (fun hc=>?_) (fun hc=>?_)
 ·rw[if_pos (by simpa using hc)]at ha;subst ha;refine aft_r ?_;simp only[go_sem,i9,pc_susB,Int.reduceBEq]
 rw[if_neg (by simpa using hc)]at ha;obtain⟨hr0,hd0⟩:p.Rules.length≠0/\p.Decls.length≠0:=by simpa using hc
 clear hc;have hi:=j9 (i6 e 24) (n:=p.Rules.length) (by omega);have h3:=i8 h2 p.Rules.length;refine aft_n (aw_seq (A3s ?_));simp only[go_sem,i9,pc_susB,Int.reduceBEq];refine cj' h2 ?_;generalize i6 (i6 e 24) p.Rules.length=f at*;generalize i7 (i6 e 24) p.Rules.length=i at*;generalize i7 e 24=k at*;have hk12:k=0\/k=1\/k=2\/k=3\/k=4\/k=5\/k=6\/k=7\/k=8\/k=9\/k=10\/k=11\/12<=k:=by omega
 have hu:=hsm.at (i:=i.toNat) (by omega)
 have hb4:=j9 f (n:=4) (by omega);have hb7:=j9 f (n:=7) (by omega);obtain⟨⟨hs1,hs2⟩,hs3⟩:=hsm;obtain⟨hu1,hu2⟩:=hu;rcases hk12 with rfl|rfl|rfl|rfl|rfl|rfl|rfl|rfl|rfl|rfl|rfl|rfl|hk12
 ·repeat(refine aft_n (aw_seq (A3s ?_));simp only[go_sem,i9,pc_susB,Int.reduceBEq])
  refine⟨?_, ?_⟩
  ·(all_goals(try((first|refine u1 2 rfl ?_);intro S hS B0 hB;simp only[go_sem,i9,pc_susB,Int.reduceBEq,V7,q0O]at hS hB;(repeat(first|replace hS:=And.right hS|replace hS:=CJ.r hS));have Rr28:=congrArg (fun s:St=>s.sl 28) hS;have Rr30:=congrArg (fun s:St=>s.sl 30) hS;have Rb1:=congrArg (fun s:St=>s.bx 1) hS;have Rb6:=congrArg (fun s:St=>s.bx 6) hS;have Rb7:=congrArg (fun s:St=>s.bx 7) hS;have Ro896:=congrArg (fun s:St=>s.ow 896) hS;clear hS;simp only[go_sem,i9,pc_susB,Int.reduceBEq]at Rr28 Rr30 Rb1 Rb6 Rb7 Ro896;(try clear hc);intro K hc;simp only[go_sem,i9,pc_susB,Int.reduceBEq,Rr28,Rr30,Rb1,Rb6,Rb7,Ro896,hB,V8,q0K,V6,q0G]at hc ⊢;simp only[go_sem,i9,pc_susB,Int.reduceBEq,Rr28,Rr30,Rb1,Rb6,Rb7,Ro896,hB,A7u,A7y,A6L,A6K,A7t,A6J,nf_put_sub,A7w,A7v,nf_put_susK,nf_put_dip,nf_put_put,A7x,A7s,A6M,j8,j6,j4,j5,j7,nf_sub_sub]at hc ⊢;simp only[a0o]at hc ⊢;(first|(simp only[hc,q0R,q0I];done)|((repeat' first|exact hc|apply V1);done)))))
  ·repeat(first|refine cj' h3 ?_|refine cj' (by omega) ?_)
   repeat(refine aft_n (aw_seq (A3s ?_));simp only[go_sem,i9,pc_susB,Int.reduceBEq])
   refine aft_n (aw_ret ?_);simp only[go_sem,i9,pc_susB,Int.reduceBEq];subst ha;exact⟨⟨rfl,rfl⟩,rfl⟩
 ·repeat(refine aft_n (aw_seq (A3s ?_));simp only[go_sem,i9,pc_susB,Int.reduceBEq])
  refine⟨?_, ?_⟩
  ·(all_goals(try((first|refine u1 2 rfl ?_);intro S hS B0 hB;simp only[go_sem,i9,pc_susB,Int.reduceBEq,V7,q0O]at hS hB;(repeat(first|replace hS:=And.right hS|replace hS:=CJ.r hS));have Rr36:=congrArg (fun s:St=>s.sl 36) hS;have Rr38:=congrArg (fun s:St=>s.sl 38) hS;have Rb1:=congrArg (fun s:St=>s.bx 1) hS;have Rb6:=congrArg (fun s:St=>s.bx 6) hS;have Rb7:=congrArg (fun s:St=>s.bx 7) hS;have Ro896:=congrArg (fun s:St=>s.ow 896) hS;clear hS;simp only[go_sem,i9,pc_susB,Int.reduceBEq]at Rr36 Rr38 Rb1 Rb6 Rb7 Ro896;(try clear hc);intro K hc;simp only[go_sem,i9,pc_susB,Int.reduceBEq,Rr36,Rr38,Rb1,Rb6,Rb7,Ro896,hB,V8,q0K,V6,q0G]at hc ⊢;simp only[go_sem,i9,pc_susB,Int.reduceBEq,Rr36,Rr38,Rb1,Rb6,Rb7,Ro896,hB,A7u,A7y,A6L,A6K,A7t,A6J,nf_put_sub,A7w,A7v,nf_put_susK,nf_put_dip,nf_put_put,A7x,A7s,A6M,j8,j6,j4,j5,j7,nf_sub_sub]at hc ⊢;simp only[a0o]at hc ⊢;(first|(simp only[hc,q0R,q0I];done)|((repeat' first|exact hc|apply V1);done)))))
  ·repeat(first|refine cj' h3 ?_|refine cj' (by omega) ?_)
   repeat(refine aft_n (aw_seq (A3s ?_));simp only[go_sem,i9,pc_susB,Int.reduceBEq])
   refine aft_n (aw_ret ?_);simp only[go_sem,i9,pc_susB,Int.reduceBEq];subst ha;exact⟨⟨rfl,rfl⟩,rfl⟩
 ·repeat(refine aft_n (aw_seq (A3s ?_));simp only[go_sem,i9,pc_susB,Int.reduceBEq])
  refine⟨?_, ?_⟩
  ·(all_goals(try((first|refine u1 2 rfl ?_);intro S hS B0 hB;simp only[go_sem,i9,pc_susB,Int.reduceBEq,V7,q0O]at hS hB;(repeat(first|replace hS:=And.right hS|replace hS:=CJ.r hS));have Rr44:=congrArg (fun s:St=>s.sl 44) hS;have Rr46:=congrArg (fun s:St=>s.sl 46) hS;have Rb1:=congrArg (fun s:St=>s.bx 1) hS;have Rb6:=congrArg (fun s:St=>s.bx 6) hS;have Rb7:=congrArg (fun s:St=>s.bx 7) hS;have Ro896:=congrArg (fun s:St=>s.ow 896) hS;clear hS;simp only[go_sem,i9,pc_susB,Int.reduceBEq]at Rr44 Rr46 Rb1 Rb6 Rb7 Ro896;(try clear hc);intro K hc;simp only[go_sem,i9,pc_susB,Int.reduceBEq,Rr44,Rr46,Rb1,Rb6,Rb7,Ro896,hB,V8,q0K,V6,q0G]at hc ⊢;simp only[go_sem,i9,pc_susB,Int.reduceBEq,Rr44,Rr46,Rb1,Rb6,Rb7,Ro896,hB,A7u,A7y,A6L,A6K,A7t,A6J,nf_put_sub,A7w,A7v,nf_put_susK,nf_put_dip,nf_put_put,A7x,A7s,A6M,j8,j6,j4,j5,j7,nf_sub_sub]at hc ⊢;simp only[a0o]at hc ⊢;(first|(simp only[hc,q0R,q0I];done)|((repeat' first|exact hc|apply V1);done)))))
  ·repeat(first|refine cj' h3 ?_|refine cj' (by omega) ?_)
   repeat(refine aft_n (aw_seq (A3s ?_));simp only[go_sem,i9,pc_susB,Int.reduceBEq])
   refine aft_n (aw_ret ?_);simp only[go_sem,i9,pc_susB,Int.reduceBEq];subst ha;exact⟨⟨rfl,rfl⟩,rfl⟩
 ·repeat(refine aft_n (aw_seq (A3s ?_));simp only[go_sem,i9,pc_susB,Int.reduceBEq])
  refine⟨?_, ?_⟩
  ·(all_goals(try((first|refine u1 3 rfl ?_);intro S hS B0 hB;simp only[go_sem,i9,pc_susB,Int.reduceBEq,V7,q0O]at hS hB;(repeat(first|replace hS:=And.right hS|replace hS:=CJ.r hS));have Rr52:=congrArg (fun s:St=>s.sl 52) hS;have Rr54:=congrArg (fun s:St=>s.sl 54) hS;have Rr55:=congrArg (fun s:St=>s.sl 55) hS;have Rb1:=congrArg (fun s:St=>s.bx 1) hS;have Rb6:=congrArg (fun s:St=>s.bx 6) hS;have Rb7:=congrArg (fun s:St=>s.bx 7) hS;have Ro898:=congrArg (fun s:St=>s.ow 898) hS;clear hS;simp only[go_sem,i9,pc_susB,Int.reduceBEq]at Rr52 Rr54 Rr55 Rb1 Rb6 Rb7 Ro898;(try clear hc);intro K hc;simp only[go_sem,i9,pc_susB,Int.reduceBEq,Rr52,Rr54,Rr55,Rb1,Rb6,Rb7,Ro898,hB,V8,q0K,V6,q0G]at hc ⊢;simp only[go_sem,i9,pc_susB,Int.reduceBEq,Rr52,Rr54,Rr55,Rb1,Rb6,Rb7,Ro898,hB,A7u,A7y,A6L,A6K,A7t,A6J,nf_put_sub,A7w,A7v,nf_put_susK,nf_put_dip,nf_put_put,A7x,A7s,A6M,j8,j6,j4,j5,j7,nf_sub_sub]at hc ⊢;simp only[a0o]at hc ⊢;(first|(simp only[hc,q0R,q0I];done)|((repeat' first|exact hc|apply V1);done)))))
  ·repeat(first|refine cj' h3 ?_|refine cj' (by omega) ?_)
   repeat(refine aft_n (aw_seq (A3s ?_));simp only[go_sem,i9,pc_susB,Int.reduceBEq])
   refine aft_n (aw_ret ?_);simp only[go_sem,i9,pc_susB,Int.reduceBEq];subst ha;exact⟨⟨rfl,rfl⟩,rfl⟩
 ·repeat(refine aft_n (aw_seq (A3s ?_));simp only[go_sem,i9,pc_susB,Int.reduceBEq])
  refine⟨?_, ?_⟩
  ·(all_goals(try((first|refine u1 3 rfl ?_);intro S hS B0 hB;simp only[go_sem,i9,pc_susB,Int.reduceBEq,V7,q0O]at hS hB;(repeat(first|replace hS:=And.right hS|replace hS:=CJ.r hS));have Rr61:=congrArg (fun s:St=>s.sl 61) hS;have Rr63:=congrArg (fun s:St=>s.sl 63) hS;have Rr65:=congrArg (fun s:St=>s.sl 65) hS;have Rb1:=congrArg (fun s:St=>s.bx 1) hS;have Rb6:=congrArg (fun s:St=>s.bx 6) hS;have Rb7:=congrArg (fun s:St=>s.bx 7) hS;have Ro898:=congrArg (fun s:St=>s.ow 898) hS;clear hS;simp only[go_sem,i9,pc_susB,Int.reduceBEq]at Rr61 Rr63 Rr65 Rb1 Rb6 Rb7 Ro898;(try clear hc);intro K hc;simp only[go_sem,i9,pc_susB,Int.reduceBEq,Rr61,Rr63,Rr65,Rb1,Rb6,Rb7,Ro898,hB,V8,q0K,V6,q0G]at hc ⊢;simp only[go_sem,i9,pc_susB,Int.reduceBEq,Rr61,Rr63,Rr65,Rb1,Rb6,Rb7,Ro898,hB,A7u,A7y,A6L,A6K,A7t,A6J,nf_put_sub,A7w,A7v,nf_put_susK,nf_put_dip,nf_put_put,A7x,A7s,A6M,j8,j6,j4,j5,j7,nf_sub_sub,o6,m7,o5,t7,m9,t6,m8]at hc ⊢;simp only[a0o]at hc ⊢;(first|(simp only[hc,q0R,q0I];done)|((repeat' first|exact hc|apply V1);done)))))
  ·repeat(first|refine cj' h3 ?_|refine cj' (by omega) ?_)
   repeat(refine aft_n (aw_seq (A3s ?_));simp only[go_sem,i9,pc_susB,Int.reduceBEq])
   refine aft_n (aw_ret ?_);simp only[go_sem,i9,pc_susB,Int.reduceBEq];subst ha;exact⟨⟨rfl,rfl⟩,rfl⟩
 ·have hgs:∀(x y:List C),((List.map (c6.cells true true) p.Rules).set i.toNat x).getD i.toNat y=x:=fun x y=>by rw[List.getD,q3S (by rw[q0H];omega)];rfl
  repeat(refine aft_n (aw_seq (A3s ?_));simp only[go_sem,i9,pc_susB,Int.reduceBEq,hgs,q2A])
  refine⟨?_, ?_⟩
  ·(all_goals(try((first|refine u1 5 rfl ?_);intro S hS B0 hB;simp only[go_sem,i9,pc_susB,Int.reduceBEq,hgs,q2A,V7,q0O]at hS hB;(repeat(first|replace hS:=And.right hS|replace hS:=CJ.r hS));have Rr74:=congrArg (fun s:St=>s.sl 74) hS;have Rr76:=congrArg (fun s:St=>s.sl 76) hS;have Rr77:=congrArg (fun s:St=>s.sl 77) hS;have Rr79:=congrArg (fun s:St=>s.sl 79) hS;have Rr84:=congrArg (fun s:St=>s.sl 84) hS;have Rb1:=congrArg (fun s:St=>s.bx 1) hS;have Rb6:=congrArg (fun s:St=>s.bx 6) hS;have Rb7:=congrArg (fun s:St=>s.bx 7) hS;have Ro898:=congrArg (fun s:St=>s.ow 898) hS;clear hS;simp only[go_sem,i9,pc_susB,Int.reduceBEq,hgs,q2A]at Rr74 Rr76 Rr77 Rr79 Rr84 Rb1 Rb6 Rb7 Ro898;(try clear hc);intro K hc;simp only[go_sem,i9,pc_susB,Int.reduceBEq,hgs,q2A,Rr74,Rr76,Rr77,Rr79,Rr84,Rb1,Rb6,Rb7,Ro898,hB,V8,q0K,V6,q0G]at hc ⊢;simp only[go_sem,i9,pc_susB,Int.reduceBEq,hgs,q2A,Rr74,Rr76,Rr77,Rr79,Rr84,Rb1,Rb6,Rb7,Ro898,hB,A7u,A7y,A6L,A6K,A7t,A6J,nf_put_sub,A7w,A7v,nf_put_susK,nf_put_dip,nf_put_put,A7x,A7s,A6M,j8,j6,j4,j5,j7,nf_sub_sub,o6,m7,o5,t7,m9,t6,m8]at hc ⊢;simp only[a0o]at hc ⊢;(first|(simp only[hc,q0R,q0I];done)|((repeat' first|exact hc|apply V1);done)))))
  ·skip
   repeat(first|refine cj' h3 ?_|refine cj' (by omega) ?_)
   repeat(refine aft_n (aw_seq (A3s ?_));simp only[go_sem,i9,pc_susB,Int.reduceBEq,hgs,q2A])
   refine aft_n (aw_ret ?_);simp only[go_sem,i9,pc_susB,Int.reduceBEq,hgs,q2A];subst ha;exact⟨⟨rfl,rfl⟩,rfl⟩
 ·repeat(refine aft_n (aw_seq (A3s ?_));simp only[go_sem,i9,pc_susB,Int.reduceBEq])
  refine cj' hi (cj' (by omega) (cj' (fun hc=>?_) (fun hc=>?_)))
  ·refine⟨?_, ?_⟩
   ·(all_goals(try((first|refine u1 3 rfl ?_);intro S hS B0 hB;simp only[go_sem,i9,pc_susB,Int.reduceBEq,V7,q0O]at hS hB;(repeat(first|replace hS:=And.right hS|replace hS:=CJ.r hS));have Rr102:=congrArg (fun s:St=>s.sl 102) hS;have Rr104:=congrArg (fun s:St=>s.sl 104) hS;have Rr108:=congrArg (fun s:St=>s.sl 108) hS;have Rb1:=congrArg (fun s:St=>s.bx 1) hS;have Rb6:=congrArg (fun s:St=>s.bx 6) hS;have Rb7:=congrArg (fun s:St=>s.bx 7) hS;have Ro898:=congrArg (fun s:St=>s.ow 898) hS;clear hS;simp only[go_sem,i9,pc_susB,Int.reduceBEq]at Rr102 Rr104 Rr108 Rb1 Rb6 Rb7 Ro898;(try clear hc);intro K hc;simp only[go_sem,i9,pc_susB,Int.reduceBEq,Rr102,Rr104,Rr108,Rb1,Rb6,Rb7,Ro898,hB,V8,q0K,V6,q0G]at hc ⊢;simp only[go_sem,i9,pc_susB,Int.reduceBEq,Rr102,Rr104,Rr108,Rb1,Rb6,Rb7,Ro898,hB,A7u,A7y,A6L,A6K,A7t,A6J,nf_put_sub,A7w,A7v,nf_put_susK,nf_put_dip,nf_put_put,A7x,A7s,A6M,j8,j6,j4,j5,j7,nf_sub_sub,o6,m7,o5,t7,m9,t6,m8]at hc ⊢;simp only[a0o]at hc ⊢;(first|(simp only[hc,q0R,q0I];done)|((repeat' first|exact hc|apply V1);done)))))
   ·repeat(first|refine cj' h3 ?_|refine cj' (by omega) ?_)
    repeat(refine aft_n (aw_seq (A3s ?_));simp only[go_sem,i9,pc_susB,Int.reduceBEq])
    refine aft_n (aw_ret ?_);simp only[go_sem,i9,pc_susB,Int.reduceBEq];rw[c8X,if_neg (by omega)]at ha;rw[<-ha];exact⟨⟨rfl,rfl⟩,rfl⟩
  ·repeat(refine aft_n (aw_seq (A3s ?_));simp only[go_sem,i9,pc_susB,Int.reduceBEq])
   refine aft_n (aw_ret ?_);simp only[go_sem,i9,pc_susB,Int.reduceBEq];rw[c8X,if_pos (by omega)]at ha;rw[<-ha];exact⟨⟨rfl,rfl⟩,rfl⟩
 ·have hw:IntKind.i64.wrap (((p.Rules.getD i.toNat default).Body.length:Int)-1)=((p.Rules.getD i.toNat default).Body.length:Int)-1:=IntWalk.i64_in _ ⟨by omega,by omega⟩;have hwt:(((p.Rules.getD i.toNat default).Body.length:Int)-1).toNat=(p.Rules.getD i.toNat default).Body.length-1:=by omega
  have hw7:IntKind.i64.wrap (i7 f 7-1)=i7 f 7-1:=IntWalk.i64_in _ ⟨by omega,by omega⟩;repeat(refine aft_n (aw_seq (A3s ?_));simp only[go_sem,i9,pc_susB,Int.reduceBEq,hw,hwt,hw7])
  refine cj' hi (cj' (by omega) (cj' (fun hc=>?_) (fun hc=>?_)))
  ·refine⟨?_, ?_⟩
   ·(all_goals(try((first|refine u1 5 rfl ?_);intro S hS B0 hB;simp only[go_sem,i9,pc_susB,Int.reduceBEq,hw,hwt,hw7,V7,q0O]at hS hB;(repeat(first|replace hS:=And.right hS|replace hS:=CJ.r hS));have Rr124:=congrArg (fun s:St=>s.sl 124) hS;have Rr126:=congrArg (fun s:St=>s.sl 126) hS;have Rr130:=congrArg (fun s:St=>s.sl 130) hS;have Rr132:=congrArg (fun s:St=>s.sl 132) hS;have Rr138:=congrArg (fun s:St=>s.sl 138) hS;have Rb1:=congrArg (fun s:St=>s.bx 1) hS;have Rb6:=congrArg (fun s:St=>s.bx 6) hS;have Rb7:=congrArg (fun s:St=>s.bx 7) hS;have Ro898:=congrArg (fun s:St=>s.ow 898) hS;clear hS;simp only[go_sem,i9,pc_susB,Int.reduceBEq,hw,hwt,hw7]at Rr124 Rr126 Rr130 Rr132 Rr138 Rb1 Rb6 Rb7 Ro898;(try clear hc);intro K hc;simp only[go_sem,i9,pc_susB,Int.reduceBEq,hw,hwt,hw7,Rr124,Rr126,Rr130,Rr132,Rr138,Rb1,Rb6,Rb7,Ro898,hB,V8,q0K,V6,q0G]at hc ⊢;simp only[go_sem,i9,pc_susB,Int.reduceBEq,hw,hwt,hw7,Rr124,Rr126,Rr130,Rr132,Rr138,Rb1,Rb6,Rb7,Ro898,hB,A7u,A7y,A6L,A6K,A7t,A6J,nf_put_sub,A7w,A7v,nf_put_susK,nf_put_dip,nf_put_put,A7x,A7s,A6M,j8,j6,j4,j5,j7,nf_sub_sub,o6,m7,o5,t7,m9,t6,m8]at hc ⊢;simp only[a0o]at hc ⊢;(first|(simp only[hc,q0R,q0I];done)|((repeat' first|exact hc|apply V1);done)))))
   ·repeat(first|refine cj' h3 ?_|refine cj' (by omega) ?_)
    repeat(refine aft_n (aw_seq (A3s ?_));simp only[go_sem,i9,pc_susB,Int.reduceBEq,hw,hwt,hw7])
    refine aft_n (aw_ret ?_);simp only[go_sem,i9,pc_susB,Int.reduceBEq,hw,hwt,hw7];rw[c8Y,if_neg (by omega)]at ha;rw[<-ha];exact⟨⟨rfl,rfl⟩,rfl⟩
  ·repeat(refine aft_n (aw_seq (A3s ?_));simp only[go_sem,i9,pc_susB,Int.reduceBEq,hw,hwt,hw7])
   refine aft_n (aw_ret ?_);simp only[go_sem,i9,pc_susB,Int.reduceBEq,hw,hwt,hw7];rw[c8Y,if_pos (by omega)]at ha;rw[<-ha];exact⟨⟨rfl,rfl⟩,rfl⟩
 ·have hgs:∀(x y:List C),((List.map (c6.cells true true) p.Rules).set i.toNat x).getD i.toNat y=x:=fun x y=>by rw[List.getD,q3S (by rw[q0H];omega)];rfl
  repeat(refine aft_n (aw_seq (A3s ?_));simp only[go_sem,i9,pc_susB,Int.reduceBEq,hgs,q2A])
  refine⟨?_, ?_⟩
  ·(all_goals(try((first|refine u1 6 rfl ?_);intro S hS B0 hB;simp only[go_sem,i9,pc_susB,Int.reduceBEq,hgs,q2A,V7,q0O]at hS hB;(repeat(first|replace hS:=And.right hS|replace hS:=CJ.r hS));have Rr145:=congrArg (fun s:St=>s.sl 145) hS;have Rr147:=congrArg (fun s:St=>s.sl 147) hS;have Rr148:=congrArg (fun s:St=>s.sl 148) hS;have Rr150:=congrArg (fun s:St=>s.sl 150) hS;have Rr155:=congrArg (fun s:St=>s.sl 155) hS;have Rr156:=congrArg (fun s:St=>s.sl 156) hS;have Rb1:=congrArg (fun s:St=>s.bx 1) hS;have Rb6:=congrArg (fun s:St=>s.bx 6) hS;have Rb7:=congrArg (fun s:St=>s.bx 7) hS;have Ro898:=congrArg (fun s:St=>s.ow 898) hS;clear hS;simp only[go_sem,i9,pc_susB,Int.reduceBEq,hgs,q2A]at Rr145 Rr147 Rr148 Rr150 Rr155 Rr156 Rb1 Rb6 Rb7 Ro898;(try clear hc);intro K hc;simp only[go_sem,i9,pc_susB,Int.reduceBEq,hgs,q2A,Rr145,Rr147,Rr148,Rr150,Rr155,Rr156,Rb1,Rb6,Rb7,Ro898,hB,V8,q0K,V6,q0G]at hc ⊢;simp only[go_sem,i9,pc_susB,Int.reduceBEq,hgs,q2A,Rr145,Rr147,Rr148,Rr150,Rr155,Rr156,Rb1,Rb6,Rb7,Ro898,hB,A7u,A7y,A6L,A6K,A7t,A6J,nf_put_sub,A7w,A7v,nf_put_susK,nf_put_dip,nf_put_put,A7x,A7s,A6M,j8,j6,j4,j5,j7,nf_sub_sub,o6,m7,o5,t7,m9,t6,m8]at hc ⊢;simp only[a0o]at hc ⊢;(first|(simp only[hc,q0R,q0I];done)|((repeat' first|exact hc|apply V1);done)))))
  ·skip
   repeat(first|refine cj' h3 ?_|refine cj' (by omega) ?_)
   repeat(refine aft_n (aw_seq (A3s ?_));simp only[go_sem,i9,pc_susB,Int.reduceBEq,hgs,q2A])
   refine aft_n (aw_ret ?_);simp only[go_sem,i9,pc_susB,Int.reduceBEq,hgs,q2A];subst ha;exact⟨⟨rfl,rfl⟩,rfl⟩
 ·have hgs:∀(x y:List C),((List.map (c6.cells true true) p.Rules).set i.toNat x).getD i.toNat y=x:=fun x y=>by rw[List.getD,q3S (by rw[q0H];omega)];rfl
  repeat(refine aft_n (aw_seq (A3s ?_));simp only[go_sem,i9,pc_susB,Int.reduceBEq,hgs,q2A])
  refine⟨?_, ?_⟩
  ·(all_goals(try((first|refine u1 6 rfl ?_);intro S hS B0 hB;simp only[go_sem,i9,pc_susB,Int.reduceBEq,hgs,q2A,V7,q0O]at hS hB;(repeat(first|replace hS:=And.right hS|replace hS:=CJ.r hS));have Rr164:=congrArg (fun s:St=>s.sl 164) hS;have Rr166:=congrArg (fun s:St=>s.sl 166) hS;have Rr167:=congrArg (fun s:St=>s.sl 167) hS;have Rr169:=congrArg (fun s:St=>s.sl 169) hS;have Rr174:=congrArg (fun s:St=>s.sl 174) hS;have Rr175:=congrArg (fun s:St=>s.sl 175) hS;have Rb1:=congrArg (fun s:St=>s.bx 1) hS;have Rb6:=congrArg (fun s:St=>s.bx 6) hS;have Rb7:=congrArg (fun s:St=>s.bx 7) hS;have Ro898:=congrArg (fun s:St=>s.ow 898) hS;clear hS;simp only[go_sem,i9,pc_susB,Int.reduceBEq,hgs,q2A]at Rr164 Rr166 Rr167 Rr169 Rr174 Rr175 Rb1 Rb6 Rb7 Ro898;(try clear hc);intro K hc;simp only[go_sem,i9,pc_susB,Int.reduceBEq,hgs,q2A,Rr164,Rr166,Rr167,Rr169,Rr174,Rr175,Rb1,Rb6,Rb7,Ro898,hB,V8,q0K,V6,q0G]at hc ⊢;simp only[go_sem,i9,pc_susB,Int.reduceBEq,hgs,q2A,Rr164,Rr166,Rr167,Rr169,Rr174,Rr175,Rb1,Rb6,Rb7,Ro898,hB,A7u,A7y,A6L,A6K,A7t,A6J,nf_put_sub,A7w,A7v,nf_put_susK,nf_put_dip,nf_put_put,A7x,A7s,A6M,j8,j6,j4,j5,j7,nf_sub_sub,o6,m7,o5,t7,m9,t6,m8]at hc ⊢;simp only[a0o]at hc ⊢;(first|(simp only[hc,q0R,q0I];done)|((repeat' first|exact hc|apply V1);done)))))
  ·skip
   repeat(first|refine cj' h3 ?_|refine cj' (by omega) ?_)
   repeat(refine aft_n (aw_seq (A3s ?_));simp only[go_sem,i9,pc_susB,Int.reduceBEq,hgs,q2A])
   refine aft_n (aw_ret ?_);simp only[go_sem,i9,pc_susB,Int.reduceBEq,hgs,q2A];subst ha;exact⟨⟨rfl,rfl⟩,rfl⟩
 ·repeat(refine aft_n (aw_seq (A3s ?_));simp only[go_sem,i9,pc_susB,Int.reduceBEq])
  refine aw_frN 898 ?_;simp only[go_sem,i9,pc_susB,Int.reduceBEq,St.frN];refine lk' true [(true,6,0,200010),(true,6,1,200012)] [0,2,3,4,5] [4] [] (fun i:{q:c7×List c6 // k7 q.1/\(i.toNat<q.2.length/\q.2.length<=6100)/\q.2.getD i.toNat default=p.Rules.getD i.toNat default/\b2U q.1 (p.Rules.getD i.toNat default) q.2=b2U f (p.Rules.getD i.toNat default) p.Rules}=>[]) (fun i=>[(6,[.ow 200010,.ow 200012]),(1,[.c (.sl false [.i .u8 0] (i.1.1.b.map cU8)),.c (.i .i64 i.1.1.i),.c (.i .i64 i.1.1.h)])]) (fun i=>[(200010,a1y,p.Decls.map i3.cells),(200012,c4j,i.1.2.map (c6.cells false false))]) (fun i=>27-i.1.2.length) (⟨(f,p.Rules),h3,⟨by show i.toNat<p.Rules.length;omega,by show p.Rules.length<=6100;omega⟩,rfl,rfl⟩) ?_;intro S0 hS0 i;obtain⟨⟨g,t⟩,hg,⟨ht,htl⟩,hti,hpe⟩:=i;simp only at hg ht htl hti hpe;have hb2:=j9 g (n:=2) (by omega);have hw2:IntKind.i64.wrap (24+i7 g 2)=24+i7 g 2:=IntWalk.i64_in _ ⟨by omega,by omega⟩;have hgz:∀z:List C,(List.map (c6.cells false false) t).getD i.toNat z=c6.cells false false (p.Rules.getD i.toNat default):=fun z=>by
   rw[List.getD,q4B,V4 ht,<-hti,List.getD,V4 ht];rfl
  simp only[go_sem,i9,pc_susB,Int.reduceBEq,hS0,hw2,hgz];(repeat' first|apply cj'|intro hc|apply z6);(all_goals(try((first|refine u1 2 rfl ?_|refine u1 1 rfl ?_);intro S hS B0 hB;simp only[go_sem,i9,pc_susB,Int.reduceBEq,hS0,hw2,hgz,V7,q0O]at hS hB;(repeat(first|replace hS:=And.right hS|replace hS:=CJ.r hS));have Rr3:=congrArg (fun s:St=>s.sl 3) hS;have Rr5:=congrArg (fun s:St=>s.sl 5) hS;have Rr183:=congrArg (fun s:St=>s.sl 183) hS;have Rr186:=congrArg (fun s:St=>s.sl 186) hS;have Rr194:=congrArg (fun s:St=>s.sl 194) hS;have Rb1:=congrArg (fun s:St=>s.bx 1) hS;have Rb6:=congrArg (fun s:St=>s.bx 6) hS;have Rb7:=congrArg (fun s:St=>s.bx 7) hS;have Ro200010:=congrArg (fun s:St=>s.ow 200010) hS;have Ro200012:=congrArg (fun s:St=>s.ow 200012) hS;clear hS;simp only[go_sem,i9,pc_susB,Int.reduceBEq,hS0,hw2,hgz]at Rr3 Rr5 Rr183 Rr186 Rr194 Rb1 Rb6 Rb7 Ro200010 Ro200012;(try clear hc);intro K hc;simp only[go_sem,i9,pc_susB,Int.reduceBEq,hS0,hw2,hgz,Rr3,Rr5,Rr183,Rr186,Rr194,Rb1,Rb6,Rb7,Ro200010,Ro200012,hB,V8,q0K,V6,q0G]at hc ⊢;simp only[go_sem,i9,pc_susB,Int.reduceBEq,hS0,hw2,hgz,Rr3,Rr5,Rr183,Rr186,Rr194,Rb1,Rb6,Rb7,Ro200010,Ro200012,hB,A7u,A7y,A6L,A6K,A7t,A6J,nf_put_sub,A7w,A7v,nf_put_susK,nf_put_dip,nf_put_put,A7x,A7s,A6M,j8,j6,j4,j5,j7,nf_sub_sub,o6,m7,o5,t7,m9,t6,m8]at hc ⊢;simp only[a0o]at hc ⊢;(first|(simp only[hc,q0R,q0I];done)|((repeat' first|exact hc|apply V1);done)))));all_goals try exact om'
  ·exact hg
  ·have hn1:=i8 hg 2;have hn2:=(padR_on (r:=p.Rules.getD i.toNat default) hc).symm.trans hpe;have hn3:(t++[p.Rules.getD i.toNat default]).getD i.toNat default=p.Rules.getD i.toNat default:=by
    rw[List.getD,q3Y ht,<-List.getD,hti]
   (refine lpK_n2 (⟨(i6 g 2,t++[p.Rules.getD i.toNat default]),hn1,⟨by show i.toNat<(t++[_]).length;rw[W5];omega,by show(t++[p.Rules.getD i.toNat default]).length<=6100;rw[W5,q0P];omega⟩,hn3,hn2⟩) _ (by simp only[go_sem,i9,pc_susB,Int.reduceBEq];try rfl) ?_;simp only[go_sem,i9,pc_susB,Int.reduceBEq,hS0,hw2,hgz]<;>repeat' first|apply V1|exact on'|fail)
  ·repeat(refine aft_n (aw_seq (A3s ?_));simp only[go_sem,i9,pc_susB,Int.reduceBEq,hS0,hw2,hgz])
   refine aft_n (aw_ret ?_);simp only[go_sem,i9,pc_susB,Int.reduceBEq,hS0,hw2,hgz];rw[d0p hc]at hpe;have ha2:a=(⟨p.Decls,(b2U f (p.Rules.getD i.toNat default) p.Rules).1⟩,(b2U f (p.Rules.getD i.toNat default) p.Rules).2):=ha.symm;rw[ha2,<-hpe];exact⟨⟨rfl,rfl⟩,rfl⟩
 ·repeat(refine aft_n (aw_seq (A3s ?_));simp only[go_sem,i9,pc_susB,Int.reduceBEq])
  refine⟨?_, ?_⟩
  ·(all_goals(try((first|refine u1 0 rfl ?_);intro S hS B0 hB;simp only[go_sem,i9,pc_susB,Int.reduceBEq,V7,q0O]at hS hB;(repeat(first|replace hS:=And.right hS|replace hS:=CJ.r hS));have Rr3:=congrArg (fun s:St=>s.sl 3) hS;have Rb6:=congrArg (fun s:St=>s.bx 6) hS;have Ro896:=congrArg (fun s:St=>s.ow 896) hS;have Ro898:=congrArg (fun s:St=>s.ow 898) hS;clear hS;simp only[go_sem,i9,pc_susB,Int.reduceBEq]at Rr3 Rb6 Ro896 Ro898;(try clear hc);intro K hc;simp only[go_sem,i9,pc_susB,Int.reduceBEq,Rr3,Rb6,Ro896,Ro898,hB,V8,q0K,V6,q0G]at hc ⊢;simp only[go_sem,i9,pc_susB,Int.reduceBEq,Rr3,Rb6,Ro896,Ro898,hB,A7u,A7y,A6L,A6K,A7t,A6J,nf_put_sub,A7w,A7v,nf_put_susK,nf_put_dip,nf_put_put,A7x,A7s,A6M,j8,j6,j4,j5,j7,nf_sub_sub,o6,m7,o5,t7,m9,t6,m8]at hc ⊢;simp only[a0o]at hc ⊢;(first|(simp only[hc,q0R,q0I];done)|((repeat' first|exact hc|apply V1);done)))))
  ·repeat(first|refine cj' (by omega) ?_)
   repeat(refine aft_n (aw_seq (A3s ?_));simp only[go_sem,i9,pc_susB,Int.reduceBEq])
   refine aft_n (aw_ret ?_);simp only[go_sem,i9,pc_susB,Int.reduceBEq];subst ha;exact⟨⟨rfl,rfl⟩,rfl⟩
 ·obtain⟨e0,e1,e2,e3,e4,e5,e6,e7,e8,e9,e10,e11⟩:(k==0)=false/\(k==1)=false/\(k==2)=false/\(k==3)=false/\(k==4)=false/\(k==5)=false/\(k==6)=false/\(k==7)=false/\(k==8)=false/\(k==9)=false/\(k==10)=false/\(k==11)=false:=by simp only[beq_eq_false_iff_ne];omega
  repeat(refine aft_n (aw_seq (A3s ?_));simp only[go_sem,i9,pc_susB,Int.reduceBEq,e0,e1,e2,e3,e4,e5,e6,e7,e8,e9,e10,e11])
  refine aft_n (aw_ret ?_);simp only[go_sem,i9,pc_susB,Int.reduceBEq,e0,e1,e2,e3,e4,e5,e6,e7,e8,e9,e10,e11];rw[b6D,if_neg (by omega),if_neg (by omega),if_neg (by omega),if_neg (by omega),if_neg (by omega),if_neg (by omega),if_neg (by omega),if_neg (by omega),if_neg (by omega),if_neg (by omega),if_neg (by omega),if_neg (by omega)]at ha;subst ha;exact⟨⟨rfl,rfl⟩,rfl⟩
noncomputable def a7U:CT:=p6 (fun(x:c7) h=>b7o x h)
@[go_sem] def c7g:=fun x0 x1 x2=>nm' (fP' a7U rfl ⟨x0,x1,x2⟩)
def c5F:∀(n:Nat) {c:c7} (r:c6) (l:List c6),k7 c->k7 (b2V n c r l).2
 | 0,c,r,l,h=>h
 | n+1,c,r,l,h=>by
   rw[b2V];cases decide ((l.length:Int)<24+i7 c 2)with
   | true=>exact c5F n r _ (i8 h 2)
   | false=>exact i8 h 2
def anyG_ok{p:d9}{d:i3}{r:c6}{c:c7}{k:Int}{i:Nat}(h:k7 c):k7 (b6D p d r c k i).2:=by
 have hite:∀(b:Prop) [Decidable b] (x y:d9×c7),k7 x.2->k7 y.2->k7 (if b then x else y).2:=fun b _ x y hx hy=>by split<;>assumption
 unfold b6D;repeat'(first|exact h|exact i8 h _|exact c5J h|exact c5F _ _ _ h|apply hite)
def b8O{c:c7}(h:k7 c):k7 (a4l c).2:=by
 have h1:=i8 (c5G h) 24;unfold a4l;split
 ·exact h1
 ·exact anyG_ok (i8 h1 _)
def r16(c:c7):c6×c7:=
 if(a4l c).1.Rules.length=0 then(default,(a4l c).2)else((a4l c).1.Rules.getD (i7 (a4l c).2 (a4l c).1.Rules.length).toNat default,i6 (a4l c).2 (a4l c).1.Rules.length)
def d0v{c:c7}(h:k7 c):k7 (r16 c).2:=by
 unfold r16;split
 ·exact b8O h
 ·exact i8 (b8O h) _
def b5w(c:c7)(hpre:k7 c):spZ 235 [(false,[.mp [.sl false [.i .u8 0] (c.b.map cU8),.i .i64 c.i,.i .i64 c.h]])] [(0,(false,[.mp [.sl false [.i .u8 0] ((((r16 c).2).b).map cU8),.i .i64 (((r16 c).2).i),.i .i64 (((r16 c).2).h)]]))] (.one (true,[.i .i64 (((r16 c).1).Kind),.s ((((r16 c).1).Head).Name),n9 ((((r16 c).1).Head).Args),a0r (((r16 c).1).Body)])):=by
 refine sx' false true (some 0) Tryz.func235 (q' 2 [aw [.i .i64,.s,.sl j3,.sl a1u]] (q' 4 [am 0,ac 295 [4],ax (w' 3 [.sl a1y,.sl a1K]),aS 2 3 5] (.seq (q' 6 [aG 1 3,aN,aC .eql 8 0] (ci 9 (q' 10 [ao (.bld [.i .i64,.s,.sl j3,.sl a1u] []),aS 4 2 10] .ret))) (.seq (.rego [(true,0,f' 11 1 3),(true,1,l' 12 11),(true,2,m' 13 0), (false,3,f' 14 1 3),(false,4,l' 15 14),(false,5,n' 16 15),(false,6,c' 17 33 [13,16]),(false,7,i' 18 4 12 17),(false,8,e' 19 4 18),(false, 9,s' 4 2 19)] [6,7]) .ret)))) [.c 2 true 4] [(295,[0],a7U),(33,[0],l5)] ?_;intro hb hE;have h1:=b8O hpre;have hb:=fun h:(a4l c).1.Rules.length≠0=>j9 (a4l c).2 (n:=(a4l c).1.Rules.length) (by omega)
 obtain⟨a,ha⟩:∃a,r16 c=a:=⟨_,rfl⟩
 rw[ha];rw[r16]at ha;simp only[go_sem,pc_susB];repeat' first|apply cj'|intro hc|exact om'|fail
 ·exact hpre
 ·rw[if_pos (by simpa using hc)]at ha;rw[<-ha];exact⟨⟨⟨⟨rfl,rfl⟩,rfl⟩,rfl⟩,rfl⟩
 ·exact h1
 ·exact hb (by simpa using hc)
 ·rw[if_neg (by simpa using hc)]at ha;rw[<-ha];exact⟨⟨⟨⟨rfl,rfl⟩,rfl⟩,rfl⟩,rfl⟩
noncomputable def a6J:CT:=p6 (fun(x:c7) h=>b5w x h)
@[go_sem] def c5c:=fun x0 x1 x2=>nm' (fP' a6J rfl ⟨x0,x1,x2⟩)
def vT:List d4:=[⟨[88],default⟩,⟨[89],default⟩,⟨[90],default⟩,⟨[65],default⟩,⟨[],⟨3,[]⟩⟩]
def b1g(k:Nat):([[C.s [88],C.i .i64 0,C.s []],[C.s [89],C.i .i64 0,C.s []],[C.s [90],C.i .i64 0,C.s []],[C.s [65],C.i .i64 0,C.s []],[C.s [],C.i .i64 3,C.s []]]:List (List C)).getD k [C.s [],C.i .i64 0,C.s []]=d4.cells (vT.getD k default):=by
 match k with
 | 0=>rfl
 | 1=>rfl
 | 2=>rfl
 | 3=>rfl
 | 4=>rfl
 | n+5=>rfl
def cmpC(c:c7):c7:=i6 (i6 (i6 c 5) 5) 5
def cmpL(c:c7):d7:=⟨3,default,1+(i7 c 5).tmod 4,vT.getD (i7 (i6 c 5) 5).toNat default,vT.getD (i7 (i6 (i6 c 5) 5) 5).toNat default⟩
def a5S:Nat->c7->List d7->List d7×c7
 | 0,c,l=>(l,c)
 | n+1,c,l=>a5S n (cmpC c) (l++[cmpL c])
def c1B:∀(n:Nat) {c:c7} (l:List d7),k7 c->k7 (a5S n c l).2
 | 0,_,_,h=>h
 | n+1,_,_,h=>c1B n _ (i8 (i8 (i8 h 5) 5) 5)
def r18(c:c7):c6×c7:=
 if 0<i7 (r16 c).2 3/\(r16 c).1.Body.length<8 then(⟨(r16 c).1.Kind,(r16 c).1.Head,(a5S (1+i7 (i6 (r16 c).2 3) 3).toNat (i6 (i6 (r16 c).2 3) 3) (r16 c).1.Body).1⟩,(a5S (1+i7 (i6 (r16 c).2 3) 3).toNat (i6 (i6 (r16 c).2 3) 3) (r16 c).1.Body).2)
 else((r16 c).1,i6 (r16 c).2 3)
def r18_ok{c:c7}(h:k7 c):k7 (r18 c).2:=by
 have h1:=i8 (d0v h) 3;unfold r18;split
 ·exact c1B _ _ (i8 h1 3)
 ·exact h1
def b5x(c:c7)(hpre:k7 c):spZ 141 [(false,[.mp [.sl false [.i .u8 0] (c.b.map cU8),.i .i64 c.i,.i .i64 c.h]])] [(0,(false,[.mp [.sl false [.i .u8 0] ((((r18 c).2).b).map cU8),.i .i64 (((r18 c).2).i),.i .i64 (((r18 c).2).h)]]))] (.one (true,[.i .i64 (((r18 c).1).Kind),.s ((((r18 c).1).Head).Name),n9 ((((r18 c).1).Head).Args),a0r (((r18 c).1).Body)])):=by
 refine sx' false true (some 0) Tryz.func141 (q' 2 [aw [.i .i64,.s,.sl j3,.sl a1u]] (q' 6 [am 0,ac 235 [6],ax (w' 3 [.i .i64,.s,.sl j3,.sl a1u]),aS 4 3 7] (.seq (q' 8 [am 0,ao (.call 33 [.t 8,.k (.v false [.c (.i .i64 3)])]),aC .gtr 9 0,am 10,aH 11 true [bf 3 3,bL,bN,bC .lss 14 8],aP 11 15] (ci 16 (q' 17 [ao (.bld [.s,.i .i64,.s] [(0,1,.k (.v false [.c (.s [88])]))]),ao (.bld [.s,.i .i64,.s] [(0,1,.k (.v false [.c (.s [89])]))]),ao (.bld [.s,.i .i64,.s] [(0,1,.k (.v false [.c (.s [90])]))]),ao (.bld [.s,.i .i64,.s] [(0,1,.k (.v false [.c (.s [65])]))]),ao (.bld [.i .i64,.s] [(0,1,.k (.v false [.c (.i .i64 3)]))]),ao (.bld [.s,.i .i64,.s] [(1,2,.t 21)]),ao (.bsl 3 5 [.s,.i .i64,.s] [(0,.t 17),(1,.t 18),(2,.t 19),(3,.t 20),(4,.t 22)]),aV 4] (q' 24 [ao (.bsl 10 0 [.i .i64,.s,.sl j3,.i .i64,.s, .i .i64,.s,.s,.i .i64,.s] []),aG 3 3,ao (.app 10 136 [.i .i64,.s,.sl j3,.i .i64,.s,.i .i64,.s,.s,.i .i64,.s] (.t 24) (.t 26)),af 3 3,aS 1 28 27] (q' 29 [am 0,ao (.call 33 [.t 29,.k (.v false [.c (.i .i64 3)])]),ao (.bin .add (k' 1) (.t 30)),aV 5] (fo 0 32 [am 5,aC .gtr 32 0] 33 1 (.regm [(true,2,m' 38 0),(true,6,m' 42 4),(true,7,m' 43 0),(true,11,m' 47 4),(true,12,m' 48 0),(false,0,f' 36 3 3),(false,1,l' 37 36), (false,3,o' 39 (.call 33 [.t 38,.k (.v false [.c (.i .i64 5)])])),(true,4,o' 40 (.bin .rem (.t 39) (k' 4))),(true,5,o' 41 (.bin .add (k' 1) (.t 40))),(false,8,o' 44 (.call 33 [.t 43,.k (.v false [.c (.i .i64 5)])])),(true,9,i' 45 3 42 44),(true,10,e' 46 3 45),(false,13,o' 49 (.call 33 [.t 48,.k (.v false [.c (.i .i64 5)])])),(false,14,i' 50 3 47 49),(false,15,e' 51 3 50),(false,16,o' 52 (.bld [.i .i64,.s,.sl j3,.i .i64,.s,.i .i64,.s,.s,.i .i64,.s] [(0,1,.k (.v false [.c (.i .i64 3)])),(3,1,.t 41),(4,3,.t 46),(7,3,.t 51)])),(false,17,o' 53 (.bsl 10 1 [.i .i64,.s,.sl j3,.i .i64,.s,.i .i64,.s,.s,.i .i64,.s] [(0,.t 52)])),(false,18,o' 54 (.app 10 136 [.i .i64, .s,.sl j3,.i .i64,.s,.i .i64,.s,.s,.i .i64,.s] (.t 37) (.t 53))),(false,19,f' 55 3 3),(false,20,s' 1 55 54)] [[(true,2, m' 38 0),(true,6,m' 42 4),(true,7,m' 43 0),(true,11,m' 47 4),(true,12,m' 48 0),(false,0,f' 36 3 3),(false,3,o' 39 (.call 33 [.t 38,.k (.v false [.c (.i .i64 5)])])),(true,4,o' 40 (.bin .rem (.t 39) (k' 4))),(true,5,o' 41 (.bin .add (k' 1) (.t 40))),(false,1,l' 37 36),(false,8,o' 44 (.call 33 [.t 43,.k (.v false [.c (.i .i64 5)])])),(true,9,i' 45 3 42 44),(true,10,e' 46 3 45),(false,13,o' 49 (.call 33 [.t 48,.k (.v false [.c (.i .i64 5)])])),(false,14,i' 50 3 47 49),(false,15,e' 51 3 50),(false,16,o' 52 (.bld [.i .i64,.s,.sl j3,.i .i64,.s,.i .i64,.s,.s,.i .i64,.s] [(0,1,.k (.v false [.c (.i .i64 3)])),(3,1,.t 41),(4,3,.t 46),(7,3,.t 51)])),(false,17,o' 53 (.bsl 10 1 [.i .i64,.s, .sl j3,.i .i64,.s,.i .i64,.s,.s,.i .i64,.s] [(0,.t 52)])),(false,18,o' 54 (.app 10 136 [.i .i64,.s,.sl j3,.i .i64,.s,.i .i64,.s,.s,.i .i64,.s] (.t 37) (.t 53))),(false,19,f' 55 3 3),(false,20,s' 1 55 54)],[(true,2,m' 38 0),(true,6,m' 42 4),(true,7,m' 43 0),(true,11,m' 47 4),(true,12,m' 48 0),(false,0,f' 36 3 3),(false,3,o' 39 (.call 33 [.t 38,.k (.v false [.c (.i .i64 5)])])), (true,4,o' 40 (.bin .rem (.t 39) (k' 4))),(true,5,o' 41 (.bin .add (k' 1) (.t 40))),(false,8,o' 44 (.call 33 [.t 43,.k (.v false [.c (.i .i64 5)])])),(true,9,i' 45 3 42 44),(true,10,e' 46 3 45),(false,1,l' 37 36),(false,13,o' 49 (.call 33 [.t 48,.k (.v false [.c (.i .i64 5)])])), (false,14,i' 50 3 47 49),(false,15,e' 51 3 50),(false,16,o' 52 (.bld [.i .i64,.s,.sl j3,.i .i64,.s,.i .i64,.s,.s,.i .i64,.s] [(0,1,.k (.v false [.c (.i .i64 3)])),(3,1,.t 41),(4,3,.t 46),(7,3,.t 51)])),(false,17,o' 53 (.bsl 10 1 [.i .i64,.s,.sl j3,.i .i64,.s,.i .i64,.s,.s,.i .i64,.s] [(0,.t 52)])),(false,18,o' 54 (.app 10 136 [.i .i64,.s,.sl j3,.i .i64,.s,.i .i64,.s,.s,.i .i64,.s] (.t 37) (.t 53))),(false,19,f' 55 3 3),(false,20,s' 1 55 54)],[(true,2,m' 38 0),(true,6,m' 42 4),(true, 7,m' 43 0),(true,11,m' 47 4),(true,12,m' 48 0),(false,0,f' 36 3 3),(false,3,o' 39 (.call 33 [.t 38,.k (.v false [.c (.i .i64 5)])])),(true,4, o' 40 (.bin .rem (.t 39) (k' 4))),(true,5,o' 41 (.bin .add (k' 1) (.t 40))),(false,8,o' 44 (.call 33 [.t 43,.k (.v false [.c (.i .i64 5)])])),(true, 9,i' 45 3 42 44),(true,10,e' 46 3 45),(false,13,o' 49 (.call 33 [.t 48,.k (.v false [.c (.i .i64 5)])])),(true,14,i' 50 3 47 49),(true,15,e' 51 3 50),(true,16,o' 52 (.bld [.i .i64,.s,.sl j3,.i .i64,.s,.i .i64,.s,.s,.i .i64,.s] [(0,1,.k (.v false [.c (.i .i64 3)])), (3,1,.t 41),(4,3,.t 46),(7,3,.t 51)])),(false,1,l' 37 36),(false,17,o' 53 (.bsl 10 1 [.i .i64,.s,.sl j3,.i .i64,.s, .i .i64,.s,.s,.i .i64,.s] [(0,.t 52)])),(false,18,o' 54 (.app 10 136 [.i .i64,.s,.sl j3,.i .i64,.s,.i .i64,.s,.s,.i .i64,.s] (.t 37) (.t 53))),(false,19,f' 55 3 3),(false,20,s' 1 55 54)],[(true,2,m' 38 0),(true,6,m' 42 4),(true,7,m' 43 0),(true,11,m' 47 4),(true,12,m' 48 0),(false,0,f' 36 3 3),(false,3,o' 39 (.call 33 [.t 38,.k (.v false [.c (.i .i64 5)])])),(true,4,o' 40 (.bin .rem (.t 39) (k' 4))),(true,5,o' 41 (.bin .add (k' 1) (.t 40))),(false,8,o' 44 (.call 33 [.t 43,.k (.v false [.c (.i .i64 5)])])),(true,9,i' 45 3 42 44),(true,10, e' 46 3 45),(false,13,o' 49 (.call 33 [.t 48,.k (.v false [.c (.i .i64 5)])])),(true,14,i' 50 3 47 49),(true,15,e' 51 3 50),(true,16,o' 52 (.bld [.i .i64,.s,.sl j3,.i .i64,.s,.i .i64,.s,.s,.i .i64,.s] [(0,1,.k (.v false [.c (.i .i64 3)])),(3,1,.t 41),(4,3,.t 46), (7,3,.t 51)])),(false,17,o' 53 (.bsl 10 1 [.i .i64,.s,.sl j3,.i .i64,.s,.i .i64,.s,.s,.i .i64,.s] [(0,.t 52)])),(false, 1,l' 37 36),(false,18,o' 54 (.app 10 136 [.i .i64,.s,.sl j3,.i .i64,.s,.i .i64,.s,.s,.i .i64,.s] (.t 37) (.t 53))), (false,19,f' 55 3 3),(false,20,s' 1 55 54)],[(true,2,m' 38 0),(true,6,m' 42 4),(true,7,m' 43 0),(true,11,m' 47 4),(true,12,m' 48 0), (false,3,o' 39 (.call 33 [.t 38,.k (.v false [.c (.i .i64 5)])])),(true,4,o' 40 (.bin .rem (.t 39) (k' 4))),(true,5,o' 41 (.bin .add (k' 1) (.t 40))),(false,0,f' 36 3 3),(false,1,l' 37 36),(false,8,o' 44 (.call 33 [.t 43,.k (.v false [.c (.i .i64 5)])])),(true,9,i' 45 3 42 44),(true,10, e' 46 3 45),(false,13,o' 49 (.call 33 [.t 48,.k (.v false [.c (.i .i64 5)])])),(false,14,i' 50 3 47 49),(false,15,e' 51 3 50),(false,16,o' 52 (.bld [.i .i64,.s,.sl j3,.i .i64,.s,.i .i64,.s,.s,.i .i64,.s] [(0,1,.k (.v false [.c (.i .i64 3)])),(3,1,.t 41),(4,3, .t 46),(7,3,.t 51)])),(false,17,o' 53 (.bsl 10 1 [.i .i64,.s,.sl j3,.i .i64,.s,.i .i64,.s,.s,.i .i64,.s] [(0,.t 52)])), (false,18,o' 54 (.app 10 136 [.i .i64,.s,.sl j3,.i .i64,.s,.i .i64,.s,.s,.i .i64,.s] (.t 37) (.t 53))),(false,19,f' 55 3 3),(false,20,s' 1 55 54)],[(true,2,m' 38 0),(true,6,m' 42 4),(true,7,m' 43 0),(true,11,m' 47 4),(true,12,m' 48 0),(false,3,o' 39 (.call 33 [.t 38,.k (.v false [.c (.i .i64 5)])])),(true,4,o' 40 (.bin .rem (.t 39) (k' 4))),(true,5,o' 41 (.bin .add (k' 1) (.t 40))),(false,0,f' 36 3 3), (false,8,o' 44 (.call 33 [.t 43,.k (.v false [.c (.i .i64 5)])])),(true,9,i' 45 3 42 44),(true,10,e' 46 3 45),(false,1,l' 37 36),(false,13,o' 49 (.call 33 [.t 48,.k (.v false [.c (.i .i64 5)])])),(false,14,i' 50 3 47 49),(false,15,e' 51 3 50),(false,16,o' 52 (.bld [.i .i64,.s,.sl j3,.i .i64,.s,.i .i64,.s,.s,.i .i64,.s] [(0,1,.k (.v false [.c (.i .i64 3)])),(3,1,.t 41),(4,3,.t 46),(7,3,.t 51)])),(false, 17,o' 53 (.bsl 10 1 [.i .i64,.s,.sl j3,.i .i64,.s,.i .i64,.s,.s,.i .i64,.s] [(0,.t 52)])),(false,18,o' 54 (.app 10 136 [.i .i64,.s,.sl j3,.i .i64,.s,.i .i64,.s,.s,.i .i64,.s] (.t 37) (.t 53))),(false,19,f' 55 3 3),(false,20,s' 1 55 54)], [(true,2,m' 38 0),(true,6,m' 42 4),(true,7,m' 43 0),(true,11,m' 47 4),(true,12,m' 48 0),(false,3,o' 39 (.call 33 [.t 38,.k (.v false [.c (.i .i64 5)])])),(true,4,o' 40 (.bin .rem (.t 39) (k' 4))),(true,5,o' 41 (.bin .add (k' 1) (.t 40))),(false,0,f' 36 3 3),(false,8,o' 44 (.call 33 [.t 43,.k (.v false [.c (.i .i64 5)])])),(true,9,i' 45 3 42 44),(true,10,e' 46 3 45),(false,13,o' 49 (.call 33 [.t 48,.k (.v false [.c (.i .i64 5)])])),(true,14,i' 50 3 47 49),(true,15,e' 51 3 50),(true,16,o' 52 (.bld [.i .i64,.s,.sl j3,.i .i64,.s,.i .i64,.s,.s, .i .i64,.s] [(0,1,.k (.v false [.c (.i .i64 3)])),(3,1,.t 41),(4,3,.t 46),(7,3,.t 51)])),(false,1,l' 37 36),(false,17,o' 53 (.bsl 10 1 [.i .i64,.s,.sl j3,.i .i64,.s,.i .i64,.s,.s,.i .i64,.s] [(0,.t 52)])),(false,18,o' 54 (.app 10 136 [.i .i64,.s,.sl j3,.i .i64,.s,.i .i64,.s,.s,.i .i64,.s] (.t 37) (.t 53))),(false,19,f' 55 3 3),(false,20,s' 1 55 54)],[(true,2,m' 38 0),(true, 6,m' 42 4),(true,7,m' 43 0),(true,11,m' 47 4),(true,12,m' 48 0),(false,3,o' 39 (.call 33 [.t 38,.k (.v false [.c (.i .i64 5)])])),(true,4,o' 40 (.bin .rem (.t 39) (k' 4))),(true,5,o' 41 (.bin .add (k' 1) (.t 40))),(false,0,f' 36 3 3),(false,8,o' 44 (.call 33 [.t 43,.k (.v false [.c (.i .i64 5)])])),(true,9,i' 45 3 42 44),(true,10,e' 46 3 45),(false,13,o' 49 (.call 33 [.t 48,.k (.v false [.c (.i .i64 5)])])),(true,14,i' 50 3 47 49),(true,15,e' 51 3 50),(true,16,o' 52 (.bld [.i .i64,.s,.sl j3,.i .i64,.s,.i .i64,.s,.s,.i .i64,.s] [(0,1,.k (.v false [.c (.i .i64 3)])),(3,1,.t 41),(4,3,.t 46),(7,3,.t 51)])),(false,17,o' 53 (.bsl 10 1 [.i .i64,.s,.sl j3,.i .i64, .s,.i .i64,.s,.s,.i .i64,.s] [(0,.t 52)])),(false,1,l' 37 36),(false,18,o' 54 (.app 10 136 [.i .i64,.s,.sl j3,.i .i64, .s,.i .i64,.s,.s,.i .i64,.s] (.t 37) (.t 53))),(false,19,f' 55 3 3),(false,20,s' 1 55 54)],[(true,2,m' 38 0),(true,6,m' 42 4),(true,7,m' 43 0),(true,11,m' 47 4),(true,12,m' 48 0),(false,3,o' 39 (.call 33 [.t 38,.k (.v false [.c (.i .i64 5)])])),(true,4,o' 40 (.bin .rem (.t 39) (k' 4))),(true,5,o' 41 (.bin .add (k' 1) (.t 40))),(false,8,o' 44 (.call 33 [.t 43,.k (.v false [.c (.i .i64 5)])])),(true,9,i' 45 3 42 44),(true,10, e' 46 3 45),(false,0,f' 36 3 3),(false,1,l' 37 36),(false,13,o' 49 (.call 33 [.t 48,.k (.v false [.c (.i .i64 5)])])),(false,14,i' 50 3 47 49), (false,15,e' 51 3 50),(false,16,o' 52 (.bld [.i .i64,.s,.sl j3,.i .i64,.s,.i .i64,.s,.s,.i .i64,.s] [(0,1,.k (.v false [.c (.i .i64 3)])),(3,1,.t 41),(4,3,.t 46),(7,3,.t 51)])),(false,17,o' 53 (.bsl 10 1 [.i .i64,.s,.sl j3,.i .i64,.s,.i .i64,.s,.s,.i .i64,.s] [(0,.t 52)])),(false,18,o' 54 (.app 10 136 [.i .i64,.s,.sl j3,.i .i64,.s,.i .i64,.s,.s,.i .i64, .s] (.t 37) (.t 53))),(false,19,f' 55 3 3),(false,20,s' 1 55 54)],[(true,2,m' 38 0),(true,6,m' 42 4),(true,7,m' 43 0),(true,11,m' 47 4), (true,12,m' 48 0),(false,3,o' 39 (.call 33 [.t 38,.k (.v false [.c (.i .i64 5)])])),(true,4,o' 40 (.bin .rem (.t 39) (k' 4))),(true,5,o' 41 (.bin .add (k' 1) (.t 40))),(false,8,o' 44 (.call 33 [.t 43,.k (.v false [.c (.i .i64 5)])])),(true,9,i' 45 3 42 44),(true,10,e' 46 3 45),(false,0,f' 36 3 3),(false,13,o' 49 (.call 33 [.t 48,.k (.v false [.c (.i .i64 5)])])),(true,14,i' 50 3 47 49),(true,15,e' 51 3 50),(true,16,o' 52 (.bld [.i .i64,.s,.sl j3,.i .i64,.s,.i .i64,.s,.s,.i .i64,.s] [(0,1,.k (.v false [.c (.i .i64 3)])),(3,1,.t 41),(4,3,.t 46),(7, 3,.t 51)])),(false,1,l' 37 36),(false,17,o' 53 (.bsl 10 1 [.i .i64,.s,.sl j3,.i .i64,.s,.i .i64,.s,.s,.i .i64,.s] [(0, .t 52)])),(false,18,o' 54 (.app 10 136 [.i .i64,.s,.sl j3,.i .i64,.s,.i .i64,.s,.s,.i .i64,.s] (.t 37) (.t 53))),(false, 19,f' 55 3 3),(false,20,s' 1 55 54)],[(true,2,m' 38 0),(true,6,m' 42 4),(true,7,m' 43 0),(true,11,m' 47 4),(true,12,m' 48 0),(false,3,o' 39 (.call 33 [.t 38,.k (.v false [.c (.i .i64 5)])])),(true,4,o' 40 (.bin .rem (.t 39) (k' 4))),(true,5,o' 41 (.bin .add (k' 1) (.t 40))),(false,8, o' 44 (.call 33 [.t 43,.k (.v false [.c (.i .i64 5)])])),(true,9,i' 45 3 42 44),(true,10,e' 46 3 45),(false,0,f' 36 3 3),(false,13,o' 49 (.call 33 [.t 48,.k (.v false [.c (.i .i64 5)])])),(true,14,i' 50 3 47 49),(true,15,e' 51 3 50),(true,16,o' 52 (.bld [.i .i64,.s,.sl j3,.i .i64,.s,.i .i64,.s,.s,.i .i64,.s] [(0,1,.k (.v false [.c (.i .i64 3)])),(3,1,.t 41),(4,3,.t 46),(7,3,.t 51)])),(false,17,o' 53 (.bsl 10 1 [.i .i64,.s,.sl j3,.i .i64,.s,.i .i64,.s,.s,.i .i64,.s] [(0,.t 52)])),(false,1,l' 37 36),(false,18,o' 54 (.app 10 136 [.i .i64,.s,.sl j3,.i .i64,.s,.i .i64,.s,.s,.i .i64,.s] (.t 37) (.t 53))),(false,19,f' 55 3 3),(false,20,s' 1 55 54)],[(true,2,m' 38 0),(true,6,m' 42 4),(true,7,m' 43 0),(true,11,m' 47 4),(true,12,m' 48 0),(false,3,o' 39 (.call 33 [.t 38,.k (.v false [.c (.i .i64 5)])])),(true,4,o' 40 (.bin .rem (.t 39) (k' 4))),(true,5,o' 41 (.bin .add (k' 1) (.t 40))),(false,8,o' 44 (.call 33 [.t 43,.k (.v false [.c (.i .i64 5)])])),(true,9,i' 45 3 42 44),(true,10,e' 46 3 45),(false,13,o' 49 (.call 33 [.t 48,.k (.v false [.c (.i .i64 5)])])), (true,14,i' 50 3 47 49),(true,15,e' 51 3 50),(true,16,o' 52 (.bld [.i .i64,.s,.sl j3,.i .i64,.s,.i .i64,.s,.s,.i .i64, .s] [(0,1,.k (.v false [.c (.i .i64 3)])),(3,1,.t 41),(4,3,.t 46),(7,3,.t 51)])),(false,0,f' 36 3 3),(false,1,l' 37 36),(false,17,o' 53 (.bsl 10 1 [.i .i64,.s,.sl j3,.i .i64,.s,.i .i64,.s,.s,.i .i64,.s] [(0,.t 52)])),(false,18,o' 54 (.app 10 136 [.i .i64, .s,.sl j3,.i .i64,.s,.i .i64,.s,.s,.i .i64,.s] (.t 37) (.t 53))),(false,19,f' 55 3 3),(false,20,s' 1 55 54)],[(true,2, m' 38 0),(true,6,m' 42 4),(true,7,m' 43 0),(true,11,m' 47 4),(true,12,m' 48 0),(false,3,o' 39 (.call 33 [.t 38,.k (.v false [.c (.i .i64 5)])])),(true,4,o' 40 (.bin .rem (.t 39) (k' 4))),(true,5,o' 41 (.bin .add (k' 1) (.t 40))),(false,8,o' 44 (.call 33 [.t 43,.k (.v false [.c (.i .i64 5)])])),(true,9,i' 45 3 42 44),(true,10,e' 46 3 45),(false,13,o' 49 (.call 33 [.t 48,.k (.v false [.c (.i .i64 5)])])),(true,14,i' 50 3 47 49),(true,15,e' 51 3 50),(true,16,o' 52 (.bld [.i .i64,.s,.sl j3,.i .i64,.s,.i .i64,.s,.s,.i .i64,.s] [(0,1,.k (.v false [.c (.i .i64 3)])),(3,1,.t 41),(4,3,.t 46),(7,3,.t 51)])),(false,0,f' 36 3 3),(false,17,o' 53 (.bsl 10 1 [.i .i64,.s,.sl j3,.i .i64,.s,.i .i64,.s,.s,.i .i64,.s] [(0,.t 52)])),(false,1,l' 37 36),(false,18,o' 54 (.app 10 136 [.i .i64,.s,.sl j3,.i .i64,.s,.i .i64,.s,.s,.i .i64,.s] (.t 37) (.t 53))),(false,19,f' 55 3 3),(false,20,s' 1 55 54)],[(true,2,m' 38 0),(true,6, m' 42 4),(true,7,m' 43 0),(true,11,m' 47 4),(true,12,m' 48 0),(false,3,o' 39 (.call 33 [.t 38,.k (.v false [.c (.i .i64 5)])])),(true,4,o' 40 (.bin .rem (.t 39) (k' 4))),(true,5,o' 41 (.bin .add (k' 1) (.t 40))),(false,8,o' 44 (.call 33 [.t 43,.k (.v false [.c (.i .i64 5)])])),(true,9,i' 45 3 42 44),(true,10,e' 46 3 45),(false,13,o' 49 (.call 33 [.t 48,.k (.v false [.c (.i .i64 5)])])),(true,14,i' 50 3 47 49),(true,15,e' 51 3 50), (true,16,o' 52 (.bld [.i .i64,.s,.sl j3,.i .i64,.s,.i .i64,.s,.s,.i .i64,.s] [(0,1,.k (.v false [.c (.i .i64 3)])),(3,1, .t 41),(4,3,.t 46),(7,3,.t 51)])),(false,17,o' 53 (.bsl 10 1 [.i .i64,.s,.sl j3,.i .i64,.s,.i .i64,.s,.s,.i .i64,.s] [(0,.t 52)])),(false,0,f' 36 3 3),(false,1,l' 37 36),(false,18,o' 54 (.app 10 136 [.i .i64,.s,.sl j3,.i .i64,.s,.i .i64, .s,.s,.i .i64,.s] (.t 37) (.t 53))),(false,19,f' 55 3 3),(false,20,s' 1 55 54)]] []) (g' 34 [am 5,aC .sub 34 1,aV 5]))))))) (q' 56 [ae 4 3,aS 4 2 56] .ret)))) [.c 2 true 4] [(235,[0],a6J),(33,[0],l5)] ?_;intro hb hE;have h1:=d0v hpre;have h2:=i8 h1 3;have h3:=i8 h2 3;obtain⟨a,ha⟩:∃a,r18 c=a:=⟨_,rfl⟩
 rw[ha];rw[r18]at ha;have hb3:=j9 (i6 (r16 c).2 3) (n:=3) (by omega);have hw:IntKind.i64.wrap (1+i7 (i6 (r16 c).2 3) 3)=1+i7 (i6 (r16 c).2 3) 3:=IntWalk.i64_in _ ⟨by omega,by omega⟩;simp only[go_sem,hw];(repeat' first|apply cj'|intro hc|apply z6);(all_goals(try(refine(show A3U _ _ _ _ _ _ from ?_);simp only[go_sem,hw]at hc ⊢;simp only[go_sem,hw,A7u,A7y,A6L,A6K,A7t,A6J,nf_put_sub,A7w,A7v,nf_put_susK,nf_put_dip,nf_put_put,A7x,A7s,A6M,j8,j6,j4,j5,j7,nf_sub_sub]at hc ⊢;simp only[hc,q0R,q0I];done)));all_goals try exact om'
 ·exact hpre
 ·exact h1
 ·exact h2
 ·rw[if_pos (by first|omega|(simp at hc;omega))]at ha;refine a1v 2944 ?_;refine lk' false [(true,6,3,200012)] [0,2,3,4] [4] [] (fun i:{q:Nat×c7×List d7 // (q.1<=3/\k7 q.2.1)/\q.2.2.length+q.1<=20/\a5S q.1 q.2.1 q.2.2=a5S (1+i7 (i6 (r16 c).2 3) 3).toNat (i6 (i6 (r16 c).2 3) 3) (r16 c).1.Body}=>[(5,slV (.i .i64 i.1.1))]) (fun i=>[(6,[.c (.i .i64 (r16 c).1.Kind),.c (.s (r16 c).1.Head.Name),.c (n9 (r16 c).1.Head.Args),.ow 200012]),(1,[.c (.sl false [.i .u8 0] (i.1.2.1.b.map cU8)),.c (.i .i64 i.1.2.1.i),.c (.i .i64 i.1.2.1.h)])]) (fun i=>[(200012,a1u,i.1.2.2.map (d7.cells false false))]) (fun i=>i.1.1) (⟨((1+i7 (i6 (r16 c).2 3) 3).toNat,i6 (i6 (r16 c).2 3) 3,(r16 c).1.Body),⟨by show(1+i7 (i6 (r16 c).2 3) 3).toNat<=3;omega,h3⟩,by show(r16 c).1.Body.length+(1+i7 (i6 (r16 c).2 3) 3).toNat<=20;omega,rfl⟩) ?_;intro S0 hS0 i;obtain⟨⟨k,d,l⟩,⟨hk,hd⟩,hl,he⟩:=i;simp only at hk hd hl he;have g1:=i8 hd 5;have g2:=i8 g1 5;have g3:=i8 g2 5;have b1:=j9 d (n:=5) (by omega);have b2:=j9 (i6 d 5) (n:=5) (by omega);have b3:=j9 (i6 (i6 d 5) 5) (n:=5) (by omega);have hm:0<=(i7 d 5).tmod 4/\(i7 d 5).tmod 4<4:=⟨q4X _ b1.1,Int.tmod_lt_of_pos _ (by omega)⟩
  have hw1:IntKind.i64.wrap (1+(i7 d 5).tmod 4)=1+(i7 d 5).tmod 4:=IntWalk.i64_in _ ⟨by omega,by omega⟩;simp only[go_sem,hw,hS0,hw1,b1g];(repeat' first|apply cj'|intro hc|apply z6);(all_goals(try((first|refine u1 5 rfl ?_);intro S hS B0 hB;simp only[go_sem,hw,hS0,hw1,b1g,V7,q0O]at hS hB;(repeat(first|replace hS:=And.right hS|replace hS:=CJ.r hS));have Rr3:=congrArg (fun s:St=>s.sl 3) hS;have Rr38:=congrArg (fun s:St=>s.sl 38) hS;have Rr42:=congrArg (fun s:St=>s.sl 42) hS;have Rr43:=congrArg (fun s:St=>s.sl 43) hS;have Rr47:=congrArg (fun s:St=>s.sl 47) hS;have Rr48:=congrArg (fun s:St=>s.sl 48) hS;have Rb1:=congrArg (fun s:St=>s.bx 1) hS;have Rb6:=congrArg (fun s:St=>s.bx 6) hS;have Ro200012:=congrArg (fun s:St=>s.ow 200012) hS;clear hS;simp only[go_sem,hw,hS0,hw1,b1g]at Rr3 Rr38 Rr42 Rr43 Rr47 Rr48 Rb1 Rb6 Ro200012;(try clear hc);intro K hc;simp only[go_sem,hw,hS0,hw1,b1g,Rr3,Rr38,Rr42,Rr43,Rr47,Rr48,Rb1,Rb6,Ro200012,hB,V8,q0K,V6,q0G]at hc ⊢;simp only[go_sem,hw,hS0,hw1,b1g,Rr3,Rr38,Rr42,Rr43,Rr47,Rr48,Rb1,Rb6,Ro200012,hB,A7u,A7y,A6L,A6K,A7t,A6J,nf_put_sub,A7w,A7v,nf_put_susK,nf_put_dip,nf_put_put,A7x,A7s,A6M,j8,j6,j4,j5,j7,nf_sub_sub,o6,m7,o5,t7,m9,t6,m8]at hc ⊢;simp only[a0o]at hc ⊢;(first|(simp only[hc,q0R,q0I];done)|((repeat' first|exact hc|apply V1);done)))));all_goals try exact om'
  ·exact hd
  ·exact g1
  ·exact g2
  ·have hw2:IntKind.i64.wrap ((k:Int)-1)=((k-1:Nat):Int):=by rw[IntWalk.i64_in _ ⟨by omega,by omega⟩];omega
   have he2:a5S (k-1) (cmpC d) (l++[cmpL d])=a5S (1+i7 (i6 (r16 c).2 3) 3).toNat (i6 (i6 (r16 c).2 3) 3) (r16 c).1.Body:=by rw[<-he,show k=k-1+1 by omega];rfl
   (refine lpK_n2 (⟨(k-1,cmpC d,l++[cmpL d]),⟨by show k-1<=3;omega,g3⟩,by show(l++[cmpL d]).length+(k-1)<=20;rw[W5,q0P];omega,he2⟩) _ (by simp only[go_sem,hw];try rfl) ?_;simp only[go_sem,hw,hS0,hw1,b1g]<;>repeat' first|apply V1|exact on'|fail)
   all_goals(rw[q1U];rfl)
  ·rw[show k=0 by omega]at he;have he3:a5S (1+i7 (i6 (r16 c).2 3) 3).toNat (i6 (i6 (r16 c).2 3) 3) (r16 c).1.Body=(l,d):=he.symm;rw[he3]at ha;rw[<-ha];exact⟨⟨⟨⟨rfl,rfl⟩,rfl⟩,rfl⟩,rfl⟩
 ·rw[if_neg (by rintro⟨k1,k2⟩;first|omega|(simp[k1,k2]at hc;done)|(simp at hc;omega))]at ha;rw[<-ha];exact⟨⟨⟨⟨rfl,rfl⟩,rfl⟩,rfl⟩,rfl⟩
noncomputable def a6L:CT:=p6 (fun(x:c7) h=>b5x x h)
@[go_sem] def c5d:=fun x0 x1 x2=>nm' (fP' a6L rfl ⟨x0,x1,x2⟩)
def fewW_ok(k:Nat)(h:k<10):a0X (b6J.getD k [])=true/\(b6J.getD k []==[])=false:=by
 have:∀k,k<10->a0X (b6J.getD k [])=true/\(b6J.getD k []==[])=false:=by decide
 exact this k h
def c1F{n:Int}(h0:0<=n)(h1:n<=281474976710655):k9 ⟨n,[]⟩=true:=by
 show a0x n=true;rw[a0x];simp;omega
def num6_bd(c:c7):0<=b5E c/\b5E c<=281474976710655:=by
 have h1:=j9 (i6 c 8) (n:=9) (by omega);have h2:=j9 (i6 c 8) (n:=1000000) (by omega);unfold b5E;cases decide (i7 c 8<6)with
 | true=>rw[W4];omega
 | false=>
   rw[W6];cases i7 c 8==6 with
   | true=>rw[W4];omega
   | false=>rw[W6,IntWalk.i64_in _ ⟨by omega,by omega⟩];omega
def c8c(c:c7):k9 (a3j c).1=true:=by
 have h1:=j9 (i6 c 6) (n:=5) (by omega);have h2:=j9 (i6 c 6) (n:=10) (by omega);have h3:=num6_bd (i6 c 6);unfold a3j;cases decide (i7 c 6<4)with
 | true=>rw[W4];exact c1F h1.1 (by omega)
 | false=>
   rw[W6];cases i7 c 6==4 with
   | true=>
     rw[W4];have h4:=fewW_ok (i7 (i6 c 6) 10).toNat (by omega)
     simp only[k9,h4.1,h4.2,W6];rfl
   | false=>rw[W6];exact c1F h3.1 h3.2
def b8m(c:c7):∀n,∀v∈(a0l c n).1,k9 v=true
 | 0,v,h=>by cases h
 | n+1,v,h=>by
   rw[a0l]at h;rcases W9.1 h with h|h
   ·exact b8m c n v h
   ·rw[q0D.1 h];exact c8c _
def b5O(c:c7)(n:Nat):okL (a0l c n).1:=b8m c n
def b2F(l:List d3)(r:d3)(hpre:l.length<=100000/\(okL r.V/\r.V.length<1000)/\∀x∈l,okL x.V):spZ 179 [(false,[kTRow l]),(true,[t5 r.V])] [] (.one (false,[kTRow (a0f q0 l r)])):=by
 refine sy' Tryz.func179 a6c [.t 4] [(268,[],a2E),(269,[],a1E),(270,[],a1F)] ?_;intro hb hE;obtain⟨hlen,⟨hr,hrl⟩,hl0⟩:=hpre;simp only[go_sem];repeat' first|apply cj'|intro hc|exact om'|fail
 ·rw[a0f,if_pos (a3E.1 hc)]
 have hN:¬r∈l:=fun h=>by rw[a3E.2 h]at hc;cases hc
 clear hc;refine lk' false [(false,5,0,100010)] [0,3,14] [6] [1] (fun i:{i:Nat // i<=l.length}=>[(5,.v false [.ow 100010]),(6,slV (.b ((l.take i.1).any (q0 r)))),(15,slV (.i .i64 i.1))]) nl' (fun i=>[(100010,o8,(a0J q0 r (l.take i.1)).map (d3.cells false false))]) (fun i=>l.length-i.1) (⟨0,by simp⟩) ?_;intro S0 hS0 i;obtain⟨i,hi⟩:=i;have hl:=a9r q0 r (l.take i);rw[V9]at hl;have hC:=fun(h:i<l.length)=>hl0 _ (y6 (l:=l) default h)
 have hx:=fun(h:i<l.length)=>l6 (l:=l) default (i:=i) h
 simp only[go_sem,hS0];repeat' first|apply cj'|intro hc|exact om'|fail
 ·have h5:q0 r (l.getD i default)=true:=by rw[<-a9J hr (hC (by omega))];exact hc.2
  have h1:(l.take (i+1)).any (q0 r)=true:=by rw[hx (by omega),q1J,hc.1,q2H,h5];rfl
  have h2:a0J q0 r (l.take (i+1))=a0J q0 r (l.take i)++[r]++[l.getD i default]:=by rw[hx (by omega),a9q hc.1 h5]
  (refine lpK_n2 (⟨i+1,by omega⟩) _ (by simp only[go_sem];try rfl) ?_;simp only[go_sem,hS0]<;>repeat' first|apply V1|exact on'|fail)
  all_goals first|rw[h1]|rw[h2]|trace_state
 ·have h3:(l.take (i+1)).any (q0 r)=(l.take i).any (q0 r)/\a0J q0 r (l.take (i+1))=a0J q0 r (l.take i)++[l.getD i default]:=by
   rw[hx (by omega)];cases h:(l.take i).any (q0 r)with
   | true=>exact⟨by rw[q1J,h];rfl,a6V h⟩
   | false=>
     rw[h,a9J hr (hC (by omega))]at hc;have hc2:q0 r (l.getD i default)=false:=hc;exact⟨by rw[q1J,h,q2H,hc2];rfl,b4F h hc2⟩
  (refine lpK_n2 (⟨i+1,by omega⟩) _ (by simp only[go_sem];try rfl) ?_;simp only[go_sem,hS0]<;>repeat' first|apply V1|exact on'|fail)
  all_goals first|rw[h3.1]|rw[h3.2]|trace_state
 ·rw[k6 (by omega)]at hc ⊢;rw[a6X hN hc]
 ·rw[k6 (by omega)]at hc ⊢;rw[a6W hN hc]
noncomputable def a2S:CT:=p6 (fun(x:(List d3)×d3) h=>b2F x.1 x.2 h)
@[go_sem] def c3r:=fun l x0=>nm' (fP' a2S rfl (l,⟨x0⟩))
def a0L(a:Nat)(n:Nat):List d3:=(List.range n).map fun(i:Nat)=>⟨List.replicate a ⟨(i:Int),[]⟩⟩
def b5k(arity:Int)(n:Int)(hpre:(0<=arity/\arity<=6)/\0<=n/\n<=1000):spZ 144 [(false,[.i .i64 arity]),(false,[.i .i64 n])] [] (.one (true,[.i .i64 ((⟨arity,a0L arity.toNat n.toNat⟩:f5).Arity),a1f ((⟨arity,a0L arity.toNat n.toNat⟩:f5).Rows)])):=by
 refine sx' false true none Tryz.func144 (q' 4 [aw [.i .i64,.sl o8]] (q' 9 [am 0,ao (.bld [.i .i64,.sl o8] [(0,1,.t 9)]),ax (w' 5 [.i .i64,.sl o8]),aS 2 5 10] (.seq (q' 6 [aK 0] (fo 0 11 [aM [6,1],ar 11 12] 13 1 (q' 7 [ax (o' 16 (.bld [.sl l3] [])),aw [.sl l3],aS 1 7 16] (.seq (q' 8 [aK 0] (fo 2 17 [aM [8,0],ar 17 18] 19 3 (g' 22 [aG 0 7,am 6,ao (.bld [.i .i64,.s] [(0,1,.t 24)]),ao (.bsl 2 1 [.i .i64,.s] [(0,.t 25)]),ao (.app 2 24 [.i .i64,.s] (.t 23) (.t 26)),af 0 7,aS 1 28 27]) (g' 20 [aB 8]))) (g' 29 [aG 1 5,ae 1 7,ao (.bsl 1 1 [.sl l3] [(0,.t 31)]),ao (.app 1 24 [.sl l3] (.t 30) (.t 32)),af 1 5,aS 1 34 33]))) (g' 14 [aB 6]))) (q' 35 [ae 2 5,aS 2 4 35] .ret)))) [.c 4 true 2] [] ?_;intro hb hE;obtain⟨⟨ha0,ha⟩,hn0,hn⟩:=hpre;simp only[go_sem];repeat' first|apply cj'|intro hc|exact om'|fail
 refine lk' false [(true,10,1,200020)] [0,1,4,5] [8] [] (fun i:{i:Nat // (i:Int)<=n}=>[(6,slV (.i .i64 i.1))]) (fun i=>[(10,[.c (.i .i64 arity),.ow 200020])]) (fun i=>[(200020,o8,(a0L arity.toNat i.1).map (d3.cells false false))]) (fun i=>n.toNat-i.1) (⟨0,hn0⟩) ?_;intro S0 hS0 i;obtain⟨n0,hi⟩:=i;have hfl:(a0L arity.toNat n0).length=n0:=by rw[a0L,q0H,q4C]
 have hfs:a0L arity.toNat (n0+1)=a0L arity.toNat n0++[⟨List.replicate arity.toNat ⟨(n0:Int),[]⟩⟩]:=by rw[a0L,List.range_succ,q1U];rfl
 simp only[go_sem,hS0];repeat' first|apply cj'|intro hc|exact om'|fail
 refine lk' false [(true,14,0,200028)] [0,1,4,5,6,7] [8,10] [200020] (fun i:{k:Nat // (k:Int)<=arity}=>[(8,slV (.i .i64 i.1))]) (fun i=>[(14,[.ow 200028])]) (fun i=>[(200028,l3,(List.replicate i.1 (⟨(n0:Int),[]⟩:d5)).map d5.cells)]) (fun i=>arity.toNat-i.1) (⟨0,ha0⟩) ?_;intro S1 hS1 i;obtain⟨k,hk⟩:=i;have hrs:List.replicate (k+1) (⟨(n0:Int),[]⟩:d5)=List.replicate k ⟨(n0:Int),[]⟩++[⟨(n0:Int),[]⟩]:=List.replicate_succ';simp only[go_sem,hS0,hS1];repeat' first|apply cj'|intro hc|exact om'|fail
 ·(refine lpK_n2 (⟨k+1,by omega⟩) _ (by simp only[go_sem,hS0];try rfl) ?_;simp only[go_sem,hS0,hS1]<;>repeat' first|apply V1|exact on'|fail)
  all_goals(rw[<-hrs,q4F];rfl)
 ·rw[show k=arity.toNat by omega]
  (refine lpK_n2 (⟨n0+1,by omega⟩) _ (by simp only[go_sem,hS0];try rfl) ?_;simp only[go_sem,hS0,hS1]<;>repeat' first|apply V1|exact on'|fail)
  all_goals rw[hfs]
 ·rw[show n0=n.toNat by omega]
noncomputable def a2b:CT:=p6 (fun(x:Int×Int) h=>b5k x.1 x.2 h)
@[go_sem] def c4Q:=fun x0 n=>nm' (fP' a2b rfl (x0,n))
def b8e{l:List d3}{r:d3}(h:∀x∈l,okL x.V/\x.V.length<=1000)(hr:okL r.V/\r.V.length<=1000):∀x∈a0f q0 l r,okL x.V/\x.V.length<=1000:=fun x hx=>by
 rcases(a2i.1 hx)with hx|hx
 ·rw[hx];exact hr
 ·exact h x hx
def b0Z(a:Int):Nat->c7->List d3->List d3×c7
 | 0,c,l=>(l,c)
 | n+1,c,l=>b0Z a n (a0l c a.toNat).2 (a0f q0 l ⟨(a0l c a.toNat).1⟩)
def b9M(a:Int):∀(n:Nat) {c:c7} (l:List d3),k7 c->k7 (b0Z a n c l).2
 | 0,_,_,h=>h
 | n+1,_,_,h=>b9M a n _ (a7t h _)
def a3M(c:c7)(a:Int):List d3×c7:=b0Z a (i7 c 6).toNat (i6 c 6) []
def c5K{c:c7}(h:k7 c)(a:Int):k7 (a3M c a).2:=b9M a _ _ (i8 h 6)
def a7w(c:c7)(n:Int)(hpre:k7 c/\n<=1000):spZ 236 [(false,[.mp [.sl false [.i .u8 0] (c.b.map cU8),.i .i64 c.i,.i .i64 c.h]]),(false,[.i .i64 n])] [(0,(false,[.mp [.sl false [.i .u8 0] ((((a0l c n.toNat).2).b).map cU8),.i .i64 (((a0l c n.toNat).2).i),.i .i64 (((a0l c n.toNat).2).h)]]))] (.one (true,[t5 ((⟨(a0l c n.toNat).1⟩:d3).V)])):=by
 exact a1T (a3X c n hpre) (by simp only[go_sem,R.free,List.map])
noncomputable def a1w:CT:=p6 (fun(x:c7×Int) h=>a7w x.1 x.2 h)
@[go_sem] def b8U:=fun x0 x1 x2 n=>nm' (fP' a1w rfl (⟨x0,x1,x2⟩,n))
def b7l(c:c7)(a:Int)(hpre:k7 c/\0<=a/\a<=100):spZ 298 [(false,[.mp [.sl false [.i .u8 0] (c.b.map cU8),.i .i64 c.i,.i .i64 c.h]]),(false,[.i .i64 a])] [(0,(false,[.mp [.sl false [.i .u8 0] ((((a3M c a).2).b).map cU8),.i .i64 (((a3M c a).2).i),.i .i64 (((a3M c a).2).h)]]))] (.one (true,[.i .i64 ((⟨a,(a3M c a).1⟩:f5).Arity),kTRow ((⟨a,(a3M c a).1⟩:f5).Rows)])):=by
 refine sx' false false (some 0) Tryz.func298 (q' 4 [aw [.i .i64,.sl o8]] (q' 7 [am 1,ao (.bld [.i .i64,.sl o8] [(0,1,.t 7)]),ax (w' 5 [.i .i64,.sl o8]),aS 2 5 8] (.seq (q' 9 [am 0,ao (.call 33 [.t 9,.k (.v false [.c (.i .i64 6)])]),aV 6] (fo 0 11 [am 6,aC .gtr 11 0] 12 1 (rm' [(true,2,m' 17 0),(true,3,m' 18 1),(false,0,f' 15 1 5),(false,1,l' 16 15),(false,4,c' 19 236 [17,18]),(false,5,c' 20 179 [16, 19]),(false,6,f' 21 1 5),(false,7,s' 1 21 20)] [[0,1,2,4,3,5,6,7],[0,1,4,2,3,5,6,7]] []) (g' 13 [am 6,aC .sub 13 1,aV 6]))) (q' 22 [ae 2 5,aS 2 4 22] .ret)))) [.c 4 true 2] [(33,[0],l5),(179,[0],a2S),(236,[0],a1w)] ?_;intro hb hE;obtain⟨hp,ha0,ha⟩:=hpre;have h1:=i8 hp 6;have hb:=j9 c (n:=6) (by omega);simp only[go_sem];(repeat' first|apply cj'|intro hc|apply z6);(all_goals(try(refine(show A3U _ _ _ _ _ _ from ?_);simp only[go_sem]at hc ⊢;simp only[go_sem,A7u,A7y,A6L,A6K,A7t,A6J,nf_put_sub,A7w,A7v,nf_put_susK,nf_put_dip,nf_put_put,A7x,A7s,A6M,j8,j6,j4,j5,j7,nf_sub_sub]at hc ⊢;simp only[hc,q0R,q0I];done)));all_goals try exact om'
 ·exact hp
 refine lk' false [(true,10,1,200020)] [0,1,4,5] [8] [] (fun i:{q:Nat×c7×List d3 // (q.1<=5/\k7 q.2.1)/\q.2.2.length+q.1<=10/\(∀x∈q.2.2,okL x.V/\x.V.length<=1000)/\b0Z a q.1 q.2.1 q.2.2=a3M c a}=>[(6,slV (.i .i64 i.1.1))]) (fun i=>[(10,[.c (.i .i64 a),.ow 200020]),(1,[.c (.sl false [.i .u8 0] (i.1.2.1.b.map cU8)),.c (.i .i64 i.1.2.1.i),.c (.i .i64 i.1.2.1.h)])]) (fun i=>[(200020,o8,i.1.2.2.map (d3.cells false false))]) (fun i=>i.1.1) (⟨((i7 c 6).toNat,i6 c 6,[]),⟨by show(i7 c 6).toNat<=5;omega,h1⟩,by show 0+(i7 c 6).toNat<=10;omega,(fun x hx=>by cases hx),rfl⟩) ?_;intro S0 hS0 i;obtain⟨⟨k,d,l⟩,⟨hk,hd⟩,hl,hf,he⟩:=i;simp only at hk hd hl hf he;have h2:=a7t hd a.toNat
 have h3:=b5O d a.toNat
 have h4:=a3K d a.toNat
 simp only[go_sem,hS0];(repeat' first|apply cj'|intro hc|apply z6);(all_goals(try((first|refine u1 2 rfl ?_);intro S hS B0 hB;simp only[go_sem,hS0,V7,q0O]at hS hB;(repeat(first|replace hS:=And.right hS|replace hS:=CJ.r hS));have Rr5:=congrArg (fun s:St=>s.sl 5) hS;have Rr17:=congrArg (fun s:St=>s.sl 17) hS;have Rr18:=congrArg (fun s:St=>s.sl 18) hS;have Rb1:=congrArg (fun s:St=>s.bx 1) hS;have Rb10:=congrArg (fun s:St=>s.bx 10) hS;have Ro200020:=congrArg (fun s:St=>s.ow 200020) hS;clear hS;simp only[go_sem,hS0]at Rr5 Rr17 Rr18 Rb1 Rb10 Ro200020;(try clear hc);intro K hc;simp only[go_sem,hS0,Rr5,Rr17,Rr18,Rb1,Rb10,Ro200020,hB,V8,q0K,V6,q0G]at hc ⊢;simp only[go_sem,hS0,Rr5,Rr17,Rr18,Rb1,Rb10,Ro200020,hB,A7u,A7y,A6L,A6K,A7t,A6J,nf_put_sub,A7w,A7v,nf_put_susK,nf_put_dip,nf_put_put,A7x,A7s,A6M,j8,j6,j4,j5,j7,nf_sub_sub,o6,m7,o5,t7,m9,t6,m8]at hc ⊢;simp only[a0o]at hc ⊢;(first|(simp only[hc,q0R,q0I];done)|((repeat' first|exact hc|apply V1);done)))));all_goals try exact om'
 ·exact⟨hd,by omega⟩
 ·exact⟨⟨⟨by omega,h3⟩,by omega⟩,fun x hx=>(hf x hx).1⟩
 ·have h5:=b8e (r:=⟨(a0l d a.toNat).1⟩) hf ⟨h3,by show(a0l d a.toNat).1.length<=1000;omega⟩;have h6:=b3f q0 l ⟨(a0l d a.toNat).1⟩;have hw:IntKind.i64.wrap ((k:Int)-1)=((k-1:Nat):Int):=by rw[IntWalk.i64_in _ ⟨by omega,by omega⟩];omega
  have he2:b0Z a (k-1) (a0l d a.toNat).2 (a0f q0 l ⟨(a0l d a.toNat).1⟩)=a3M c a:=by rw[<-he,show k=k-1+1 by omega];rfl
  (refine lpK_n2 (⟨(k-1,(a0l d a.toNat).2,a0f q0 l ⟨(a0l d a.toNat).1⟩),⟨by show k-1<=5;omega,h2⟩,by show(a0f q0 l ⟨(a0l d a.toNat).1⟩).length+(k-1)<=10;omega,h5,he2⟩) _ (by simp only[go_sem];try rfl) ?_;simp only[go_sem,hS0]<;>repeat' first|apply V1|exact on'|fail)
 ·rw[<-he,show k=0 by omega];exact⟨rfl,rfl⟩
noncomputable def a4q:CT:=p6 (fun(x:c7×Int) h=>b7l x.1 x.2 h)
@[go_sem] def c7d:=fun x0 x1 x2 a=>nm' (fP' a4q rfl (⟨x0,x1,x2⟩,a))
end Go.Aw
