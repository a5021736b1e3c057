/- What an event changes: the program's fire. No condition. -/
import Derived.Test.YtkophkhamikaoaaGreatkbF2
import Derived.Test.YtkophkhamikaoaaGreatlBx19kb
namespace Go.Aw
open Go.Proofs
attribute [local irreducible] aft blk lpK retK AW A0e
attribute [local irreducible] RM
set_option linter.all false
set_option maxRecDepth 100000
set_option maxHeartbeats 4000000
def d9m{r:c8}(h:l8 r=true):r.Kind=1\/r.Kind=2\/r.Kind=3:=by
 simp only[l8,K7]at h;omega
def e2f{p:c4}{w:c6}{x:c9}(h:okF p w x=true):(chF p w x).Plus.Rows.length<=300:=by
 rw[okF,W3,V8]at h;exact h.2
def sumF{c:i4}(h1:c.Plus.Rows.length<=300)(h2:c.Minus.Rows.length<=300):0<IntKind.i64.wrap ((c.Plus.Rows.length:Int)+(c.Minus.Rows.length:Int))↔a2e c=false:=by
 rw[IntWalk.i64_in _ ⟨z0D,z0D⟩,a2e,q1E];omega
noncomputable def a2G:CT:=(ctO b1D b1E)
@[go_sem] def d4W(l:List c7)(x0:List UInt8)(x1:Int)(x2:List c7):a2G [(false,[d6i l]),(false,[.f 115 [.p [.s x0,.i .i64 x1,u7 x2]]])]=some ((y8 (c9.mk x0 (f8.mk x1 x2)).Rel=true/\∀t∈l,a0t t=true)/\l.length<=1000000,[],.one (false,[d6i (l.filter fun t=>!s8 (c9.mk x0 (f8.mk x1 x2)).Rel.Rows t)])):=c0V (c4b l x0 x1 x2)
@[go_sem] def d4X(l:List c7)(x0:List UInt8)(x1:Int)(x2:List c7)(P:List c7)(M:List c7):a2G [(false,[d6i l]),(false,[.f 117 [.p [.s x0,.i .i64 x1,u7 x2],.p [.f 109 []],.p [.sl false k7 [],.sl false k7 [],u7 P,u7 M]]])]=some ((y8 (c9.mk x0 (f8.mk x1 x2)).Rel=true/\∀t∈l,a0t t=true)/\l.length<=1000000,[],.one (false,[d6i (l.filter fun t=>!(!s8 (c9.mk x0 (f8.mk x1 x2)).Rel.Rows t||s8 P t))])):=(b3o (d8G (fun x h=>z0J))).trans (c4d l x0 x1 x2 P M)
def b2N:OkC Tryz.prog 113 a2G:=(d3S c4c c4e)
def d0F(p:c4)(s:c6)(all:c6)(e:i5)(hpre:(y3 p=true/\j9 s=true/\j9 (z7 all e)=true)/\SS sLt (all.Rels.map c9.Name)/\all.Rels.length<=1000):spZ 68 [(true,[p6 p.Decls,o9 p.Rules]),(true,[j7 s.Rels]),(true,[j7 all.Rels]),(true,[.s e.Name,l9 e.Row.V])] [] (.tup [(true,[d0r (((a2t p s (z7 all e)).1).Changes)]),(false,[.i .i64 ((a2t p s (z7 all e)).2)])]):=by
 refine sx' false true none Tryz.func68 (q' 4 [aX 2 0,aX 1 1,aX 1 2,aX 2 3,aw [.sl a0E],aK 0] (q' 29 [ae 1 6,ae 2 7,ac 105 [29,30],aS 1 6 31] (q' 10 [ax (o' 32 (.bld [.sl a0E] [])),aw [.sl a0E],aS 1 10 32] (q' 33 [ao (.bsl 2 0 [.i .i64,.sl k7] []),aV 11] (q' 34 [ao (.bsl 2 0 [.i .i64,.sl k7] []),aV 12] (.seq (q' 35 [aG 0 5,aN,aK 0] (fO 0 39 [ar 38 37] 39 1 (q' 40 [ai 3 36 38,aE 3,ax (w' 14 [.s,.i .i64,.sl k7]),aS 3 14 41] (q' 15 [ax (o' 42 (.bld [.sl k7,.sl k7,.sl k7,.sl k7] [])),aw [.sl k7,.sl k7,.sl k7,.sl k7],aS 4 15 42] (.seq (q' 43 [aG 1 4,aN,aK 0] (fO 2 47 [ar 46 45] 47 3 (q' 48 [ai 4 44 46,aE 4,ax (w' 17 [.i .i64,.s,.sl k9,.sl a9K]),aS 4 17 49] (.seq (q' 50 [aG 0 17,aC .eql 51 1,am 52,aH 53 false [bf 1 17,bF 0,bL,bf 0 14,bL,bD .neq 56 58],aQ 53 59] (ci 60 (.exit 3))) (q' 62 [ae 4 17,ae 1 6,ac 106 [62,63],aV 61,aZ 61 0,aZ 61 1,ax (w' 18 [.i .i64,.sl k7]),aS 2 18 65,aV 19] (.seq (q' 67 [am 19,aO 67] (ci 68 (q' 69 [ao (.bld [.sl a0E] []),aS 1 8 69,az 9 3] .ret))) (.rego [(true,0,f' 70 0 17),(true,1,l' 71 70),(true,2,f' 72 0 17),(true,3,l' 73 72),(true,6,f' 76 1 18),(true,7,l' 77 76),(false,4,o' 74 (.ib 4 1 (.t 15) (.t 73))),(false,5,l' 75 74),(false,8,o' 78 (.app 1 24 [.sl l7] (.t 75) (.t 77))),(false,9,o' 79 (.ib 4 1 (.t 15) (.t 71))),(false,10,s' 1 79 78)] [34,35,36,37]))))) (g' 80 [aA 46]))) (q' 20 [aw [.f],ax (⟨none,.st 1 (.t 20) (.k (.v false [.c (.f 109 [])])),none⟩)] (q' 81 [ao (.ib 4 1 (.t 15) (k' 2)),aL,ac 114 [82],ao (.mf 115 [.t 14]),ac 113 [83,84],aV 21] (q' 86 [ao (.ib 4 1 (.t 15) (k' 3)),aL,ac 114 [87],ao (.mf 117 [.t 14,.t 20,.t 15]),ac 113 [88,89],aV 22] (q' 92 [af 1 14,aG 0 92,am 21,ac 118 [94,95],aV 91,aZ 91 0,aZ 91 1,ax (w' 23 [.i .i64,.sl k7]),aS 2 23 97,aV 24] (q' 100 [af 1 14,aG 0 100,am 22,ac 118 [102,103],aV 99,aZ 99 0,aZ 99 1,ax (w' 25 [.i .i64,.sl k7]),aS 2 25 105,aV 26] (.seq (q' 107 [am 24,aO 107,am 108,aH 109 false [bm 26,bO 110],aQ 109 111] (ci 112 (q' 113 [ao (.bld [.sl a0E] []),aS 1 8 113,az 9 3] .ret))) (q' 114 [am 11,ae 2 23,ao (.bsl 2 1 [.i .i64,.sl k7] [(0,.t 115)]),ao (.app 2 32 [.i .i64,.sl k7] (.t 114) (.t 116)),aV 11] (g' 118 [am 12,ae 2 25,ao (.bsl 2 1 [.i .i64,.sl k7] [(0,.t 119)]),ao (.app 2 32 [.i .i64,.sl k7] (.t 118) (.t 120)),aV 12]))))))))))) (g' 122 [aA 38]))) (.seq (q' 123 [aG 0 5,aN,aK 0] (fO 4 127 [ar 126 125] 127 5 (q' 128 [am 126,ai 3 124 126,aE 3,ax (w' 28 [.s,.i .i64,.sl k7]),av 27 128,aS 3 28 130] (.seq (G' 131 [aM [11,27],aI 2,aG 1 133,aN,aM [12,27],aI 2,aG 1 139,aN,aD .add 136 142,aC .gtr 143 0]) (ci 144 (rm' [(true,2,f' 147 0 28),(true,3,l' 148 147),(true,4,m' 149 11),(true,5,m' 150 27),(true,6,i' 151 2 149 150),(true,7,e' 152 2 151),(true,8,m' 153 12), (true,9,m' 154 27),(true,10,i' 155 2 153 154),(true,11,e' 156 2 155),(true,12,o' 157 (.bld [.s,.i .i64,.sl k7,.i .i64,.sl k7] [(0,1,.t 148),(1,2,.t 152),(3,2,.t 156)])),(false,0,f' 145 0 10),(false,1,l' 146 145),(false,13, o' 158 (.bsl 5 1 [.s,.i .i64,.sl k7,.i .i64,.sl k7] [(0,.t 157)])),(false,14,o' 159 (.app 5 80 [.s,.i .i64,.sl k7,.i .i64,.sl k7] (.t 146) (.t 158))),(false,15,f' 160 0 10), (false,16,s' 1 160 159)] [[0,1,2,3,4,5,6,7,8,9,10,11,13,12,14,15,16],[0,1,2,3,4,5,6,7,8,9,10,13,11,12,14,15,16]] [56, 57])))) (g' 161 [aA 126]))) (q' 162 [ae 1 10,aS 1 8 162,az 9 0] .ret)))))))) [.c 8 true 1,.t 9] [(105,[],a5t),(106,[],a1E),(114,[],b1C),(113,[0],a2G),(118,[],a2J)] ?_ (hΓ:=⟨c0S,b2P,c4a,b2N,b2T,trivial⟩);intro hb hE;obtain⟨⟨hg,hs,hw⟩,ha⟩:=hpre;obtain⟨w,hwe⟩:∃w,z7 all e=w:=⟨_,rfl⟩
 rw[hwe]at hw ⊢;have hP:=a0B (a0c (u9 hg));simp only[go_sem,hwe];(repeat' first|apply cj'|intro hc|apply a0o);(all_goals(try(refine(show A3H _ _ _ _ _ _ from ?_);simp only[go_sem,hwe]at hc ⊢;simp only[go_sem,hwe,K0]at hc ⊢;simp only[hc,K5];done)));all_goals try exact om'
 ·exact ha
 refine aw_loop2 false [(false,11,0,100022),(false,12,0,100024)] [4,5,6,8,10,36,37] [8,10,12,35,37,57] [] (fun i:{n:Nat // n<=s.Rels.length/\(s.Rels.take n).all (okF p w)=true}=>[(11,.v false [.ow 100022]),(12,.v false [.ow 100024]),(38,slV (.i .i64 i.1))]) (fun i=>[(20,[.nl a0E]),(16,[.nl a0E])]) (fun i=>[(100022,zFRel,((s.Rels.take i.1).map (fun x=>(chF p w x).Plus)).map (f8.cells false false)),(100024,zFRel,((s.Rels.take i.1).map (fun x=>(chF p w x).Minus)).map (f8.cells false false))]) (fun i=>s.Rels.length-i.1) (⟨0,z0E⟩) _ z1L ?_ ?_
 ·simp only[go_sem,hwe];all_goals((repeat' apply W6)<;>try exact on')
 intro S0 hS0 i;simp only[go_sem,hwe]at hS0;obtain⟨n,hn,hok⟩:=i;have h24:=a1T hs;have hol:(s.Rels.take n).length=n:=by rw[V1];omega
 have hX:=fun(h:n<s.Rels.length)=>a1o hs _ (u4 default h)
 refine aw_seq (A2j ?_);simp only[go_sem,hwe,hS0];refine aft_n (aw_seq (A2j ?_));simp only[go_sem,hwe,hS0];refine cj' (fun hc=>?_) (fun hc=>?_)
 ·have hnl:n<s.Rels.length:=by omega
  have hx:=hX hnl;clear hc;refine aft_n (aw_seq (A5P (aw_seq (A2j ?_))));simp only[go_sem,hwe,hS0];refine cj' z0D (aft_n (aw_seq (A2j ?_)));simp only[go_sem,hwe,hS0];refine aft_n (aw_seq (aw_seq (A2j ?_)));simp only[go_sem,hwe,hS0];refine aft_n (A5P ?_);have hno:=fire_no (p:=p) (w:=w) hnl;have hsn1:=d4s (fun x=>(chF p w x).Plus) default hnl;have hsn2:=d4s (fun x=>(chF p w x).Minus) default hnl;have hall:=y9 (p:=okF p w) default hnl hok;generalize hxe:s.Rels.getD n default=x at hx hno hsn1 hsn2 hall ⊢;refine lk' false [(true,30,2,200060),(true,30,3,200062)] [4,5,6,8,10,11,12,14,15,36,37,38,44,45] [8,10,12,20,28,35,37,57] [100022,100024] (fun i:{m:Nat // m<=p.Rules.length/\a1L w (w5 2 x.Name) (p.Rules.take m)=true/\a1L w (w5 3 x.Name) (p.Rules.take m)=true}=>[(46,slV (.i .i64 i.1))]) (fun i=>[(30,[.nl k7,.nl k7,.ow 200060,.ow 200062]),(16,[.nl a0E])]) (fun i=>[(200060,k7,(p9 w (w5 2 x.Name) (p.Rules.take i.1)).map (c7.cells false false)),(200062,k7,(p9 w (w5 3 x.Name) (p.Rules.take i.1)).map (c7.cells false false))]) (fun i=>p.Rules.length-i.1) (⟨0,by simp[a1L]⟩) ?_;intro S1 hS1 i;obtain⟨m,hm,ho2,ho3⟩:=i;have hl2:=a1M hw (w5 2 x.Name) (L:=p.Rules.take m) fun r hr=>hP.1 r (q1L hr)
  have hl3:=a1M hw (w5 3 x.Name) (L:=p.Rules.take m) fun r hr=>hP.1 r (q1L hr)
  rw[V1]at hl2 hl3;have hP2:=hP.2;by_cases hml:m<p.Rules.length
  ·have hR:=hP.1 _ (u4 (l:=p.Rules) default hml);have hs2:=a5C w (w5 2 x.Name) hml;have hs3:=a5C w (w5 3 x.Name) hml;have hb2:=c7c (s:=w) (q:=w5 2 x.Name) hml ho2;have hb3:=c7c (s:=w) (q:=w5 3 x.Name) hml ho3;have ha2:=y9 (p:=fun r:c8=>!w5 2 x.Name r||(t6 r w).2) default hml ho2;have ha3:=y9 (p:=fun r:c8=>!w5 3 x.Name r||(t6 r w).2) default hml ho3;have hrl:=(a1N hR hw).1;rcases hrr:p.Rules.getD m default with⟨k,hd,bd⟩
   rw[hrr]at hR hs2 hs3 hb2 hb3 ha2 ha3 hrl;rcases d9m hR with rfl|rfl|rfl
   ·have q2:w5 2 x.Name ⟨1,hd,bd⟩=false:=rfl;have q3:w5 3 x.Name ⟨1,hd,bd⟩=false:=rfl;rw[q2]at hs2 ha2;rw[q3]at hs3 ha3;rw[V2,q0A]at hs2 hs3;simp only[go_sem,hwe,hS0,hS1,hwe,hrr];(repeat' first|apply cj'|intro hc|apply a0o);(all_goals(try(refine(show A3H _ _ _ _ _ _ from ?_);simp only[go_sem,hwe,hS0,hS1,hwe,hrr]at hc ⊢;simp only[go_sem,hwe,hS0,hS1,hwe,hrr,K0]at hc ⊢;simp only[hc,K5];done)));all_goals try exact om'
    ·(refine lpK_n2 (⟨m+1,z0D,ha2 rfl,ha3 rfl⟩) _ z00 ?_;simp only[go_sem,hwe,hS0,hS1,hwe,hrr]<;>repeat' first|apply W6|exact on'|fail)
     all_goals first|rw[hs2]|rw[hs3]|trace_state
   ·have q3:w5 3 x.Name ⟨2,hd,bd⟩=false:=rfl;have q2:w5 2 x.Name ⟨2,hd,bd⟩=(hd.Name==x.Name):=rfl;rw[q3]at hs3 ha3;rw[V2,q0A]at hs3;simp only[go_sem,hwe,hS0,hS1,hwe,hrr,hwe,hrr];(repeat' first|apply cj'|intro hc|apply a0o);(all_goals(try(refine(show A3H _ _ _ _ _ _ from ?_);simp only[go_sem,hwe,hS0,hS1,hwe,hrr,hwe,hrr]at hc ⊢;simp only[go_sem,hwe,hS0,hS1,hwe,hrr,hwe,hrr,K0]at hc ⊢;simp only[hc,K5];done)));all_goals try exact om'
    ·have hq:w5 2 x.Name ⟨2,hd,bd⟩=false:=by rw[q2];exact hc.resolve_left (by decide)
     rw[hq]at hs2 ha2;rw[V2,q0A]at hs2
     (refine lpK_n2 (⟨m+1,z0D,ha2 rfl,ha3 rfl⟩) _ z00 ?_;simp only[go_sem,hwe,hS0,hS1,hwe,hrr,hwe,hrr]<;>repeat' first|apply W6|exact on'|fail)
     all_goals first|rw[hs2]|rw[hs3]|trace_state
    ·rename_i hq;have hq:w5 2 x.Name ⟨2,hd,bd⟩=true:=by rw[q2];exact hq.2
     refine blk_r (aft_r (blk_r (aft_r ?_)));simp only[go_sem,hwe,hS0,hS1,hwe,hrr,hwe,hrr];rw[hno (by rw[okF,(hb2 hq hc).2];simp)];exact⟨rfl,rfl⟩
    ·rename_i hq;have hq:w5 2 x.Name ⟨2,hd,bd⟩=true:=by rw[q2];exact hq.2
     rw[hq]at hs2 ha2;rw[W8]at hs2
     (refine lpK_n2 (⟨m+1,z0D,ha2 (by first|rfl|(rw[hc];rfl)),ha3 (by first|rfl|(rw[hc];rfl))⟩) _ z00 ?_;simp only[go_sem,hwe,hS0,hS1,hwe,hrr,hwe,hrr]<;>repeat' first|apply W6|exact on'|fail)
     all_goals first|rw[hs2]|rw[hs3]|trace_state
   ·have q2:w5 2 x.Name ⟨3,hd,bd⟩=false:=rfl;have q3:w5 3 x.Name ⟨3,hd,bd⟩=(hd.Name==x.Name):=rfl;rw[q2]at hs2 ha2;rw[V2,q0A]at hs2;simp only[go_sem,hwe,hS0,hS1,hwe,hrr,hwe,hrr,hwe,hrr];(repeat' first|apply cj'|intro hc|apply a0o);(all_goals(try(refine(show A3H _ _ _ _ _ _ from ?_);simp only[go_sem,hwe,hS0,hS1,hwe,hrr,hwe,hrr,hwe,hrr]at hc ⊢;simp only[go_sem,hwe,hS0,hS1,hwe,hrr,hwe,hrr,hwe,hrr,K0]at hc ⊢;simp only[hc,K5];done)));all_goals try exact om'
    ·have hq:w5 3 x.Name ⟨3,hd,bd⟩=false:=by rw[q3];exact hc.resolve_left (by decide)
     rw[hq]at hs3 ha3;rw[V2,q0A]at hs3
     (refine lpK_n2 (⟨m+1,z0D,ha2 rfl,ha3 rfl⟩) _ z00 ?_;simp only[go_sem,hwe,hS0,hS1,hwe,hrr,hwe,hrr,hwe,hrr]<;>repeat' first|apply W6|exact on'|fail)
     all_goals first|rw[hs2]|rw[hs3]|trace_state
    ·rename_i hq;have hq:w5 3 x.Name ⟨3,hd,bd⟩=true:=by rw[q3];exact hq.2
     refine blk_r (aft_r (blk_r (aft_r ?_)));simp only[go_sem,hwe,hS0,hS1,hwe,hrr,hwe,hrr,hwe,hrr];rw[hno (by rw[okF,(hb3 hq hc).2];simp)];exact⟨rfl,rfl⟩
    ·rename_i hq;have hq:w5 3 x.Name ⟨3,hd,bd⟩=true:=by rw[q3];exact hq.2
     rw[hq]at hs3 ha3;rw[W8]at hs3
     (refine lpK_n2 (⟨m+1,z0D,ha2 (by first|rfl|(rw[hc];rfl)),ha3 (by first|rfl|(rw[hc];rfl))⟩) _ z00 ?_;simp only[go_sem,hwe,hS0,hS1,hwe,hrr,hwe,hrr,hwe,hrr]<;>repeat' first|apply W6|exact on'|fail)
     all_goals first|rw[hs2]|rw[hs3]|trace_state
  ·have hme:p.Rules.take m=p.Rules:=j5 hml;rw[hme]at ho2 ho3 hl2 hl3;have hpr:=e2l (p:=p) (w:=w) (x:=x);have hmr:=d9a (p:=p) (w:=w) hx;have hml3:=b6f (p:=p) (w:=w) hx;have hrk2:=fun t=>d0h hg hw (q:=w5 2 x.Name) (t:=t)
   have hrk3:=fun t=>d0h hg hw (q:=w5 3 x.Name) (t:=t)
   simp only[go_sem,hwe,hS0,hS1,hwe,hwe,hwe];(repeat' first|apply cj'|intro hc|apply a0o);(all_goals(try(refine(show A3H _ _ _ _ _ _ from ?_);simp only[go_sem,hwe,hS0,hS1,hwe,hwe,hwe]at hc ⊢;simp only[go_sem,hwe,hS0,hS1,hwe,hwe,hwe,K0]at hc ⊢;simp only[hc,K5];done)));all_goals try exact om'
   refine blk_x (aft_n (a2B 200060 (a2B 200062 (d2Q 14 (d2Q 15 (aw_seq (A2j ?_)))))));simp only[go_sem,hwe,hS0,hS1,hwe,hwe,hwe,hme];refine aft_n (d2Q 20 (A2j ?_))
   (try refine A2j ?_);simp only[go_sem,hwe,hS0,hS1,hwe,hwe,hwe,hme];(repeat' first|apply cj'|intro hc|apply a0o);(all_goals(try(refine(show A3H _ _ _ _ _ _ from ?_);simp only[go_sem,hwe,hS0,hS1,hwe,hwe,hwe,hme]at hc ⊢;simp only[go_sem,hwe,hS0,hS1,hwe,hwe,hwe,hme,K0]at hc ⊢;simp only[hc,K5];done)));all_goals try exact om'
   ·exact⟨⟨hx,hrk2⟩,z0D⟩
   ·exact⟨⟨hx,hrk3⟩,z0D⟩
   ·exact⟨q3B (q1F _ _) z0D,fun t ht=>c7y hw hP.1 (q0N.1 ht).1⟩
   ·exact⟨q3B (q1F _ _) z0D,fun t ht=>c7y hw hP.1 (q0N.1 ht).1⟩
   ·rw[hpr,hmr]at hc;have hbig:decide (300<((chF p w x).Plus.Rows.length:Int))=true:=by
     rcases hc with hc|hc
     ·cases h:decide (300<((chF p w x).Plus.Rows.length:Int))with
      | true=>rfl
      | false=>rw[h]at hc;cases hc
     ·cases hc
    have h3:=of_decide_eq_true hbig;refine blk_r (aft_r ?_);simp only[go_sem,hwe,hS0,hS1,hwe,hwe,hwe,hme];rw[hno (by rw[okF,V5 (show¬(chF p w x).Plus.Rows.length<=300 by omega),q2B])];exact⟨rfl,rfl⟩
   ·rw[hpr]at hc;have hsm:decide (300<((chF p w x).Plus.Rows.length:Int))=false:=by
     cases h:decide (300<((chF p w x).Plus.Rows.length:Int))with
     | false=>rfl
     | true=>rw[h]at hc;cases hc.1
    have h3:=of_decide_eq_false hsm;have hp1:(a6n x.Rel.Arity ((p9 w (w5 2 x.Name) p.Rules).filter fun t=>!s8 x.Rel.Rows t)).1=(chF p w x).Plus:=by rw[hpr,hsm];rfl
    have hm1:(a6n x.Rel.Arity ((p9 w (w5 3 x.Name) p.Rules).filter fun t=>!(!s8 x.Rel.Rows t||s8 (p9 w (w5 2 x.Name) p.Rules) t))).1=(chF p w x).Minus:=by rw[hmr]
    have hokx:okF p w x=true:=by rw[okF,ho2,ho3,V3 (show(chF p w x).Plus.Rows.length<=300 by omega)];rfl
    refine blk_n (aft_n (A2j ?_));simp only[go_sem,hwe,hS0,hS1,hwe,hwe,hwe,hme]
    (refine lpK_n2 (⟨n+1,z0D,hall hokx⟩) _ z00 ?_;simp only[go_sem,hwe,hS0,hS1,hwe,hwe,hwe,hme]<;>repeat' first|apply W6|exact on'|fail)
    all_goals first|rw[hsn1,hp1]|rw[hsn2,hm1]|trace_state
 ·refine aft_x ?_;simp only[go_sem,hwe,hS0,hwe,hwe,hwe];have hX2:=a1o hs;have hnt:s.Rels.take n=s.Rels:=j5 z0D;rw[hnt]at hok;refine a2B 100022 (a2B 100024 ?_);refine lk' false [(true,20,0,200040)] [8,10,11,12,124,125] [16,57] [] (fun i:{m:Nat // m<=s.Rels.length}=>[(126,slV (.i .i64 i.1))]) (fun i=>[(20,[.ow 200040])]) (fun i=>[(200040,a0E,(a4g p w (s.Rels.take i.1)).map (i4.cells false false))]) (fun i=>s.Rels.length-i.1) (⟨0,z0E⟩) ?_;intro S2 hS2 i;obtain⟨m,hm⟩:=i;by_cases hml:m<s.Rels.length
  ·have hq1:(s.Rels.map fun x=>(chF p w x).Plus).getD m default=(chF p w (s.Rels.getD m default)).Plus:=by rw[k8 default (by simpa using hml),k8 default hml,q3R]
   have hq2:(s.Rels.map fun x=>(chF p w x).Minus).getD m default=(chF p w (s.Rels.getD m default)).Minus:=by rw[k8 default (by simpa using hml),k8 default hml,q3R]
   have hfl:=e1q p w (s.Rels.take m);rw[V1]at hfl;have ho1:=q0I.1 hok _ (u4 (l:=s.Rels) default hml);have hx:=hX2 _ (u4 (l:=s.Rels) default hml);have hsum:=sumF (c:=chF p w (s.Rels.getD m default)) (e2f ho1) (b6f hx);simp only[go_sem,hwe,hS0,hwe,hwe,hwe,hnt,hS2,hq1,hq2];(repeat' first|apply cj'|intro hc|apply a0o);(all_goals(try((first|refine a0V 11 rfl ?_);intro S hS B0 hB;simp only[go_sem,hwe,hS0,hwe,hwe,hwe,hnt,hS2,hq1,hq2,z0B]at hS hB;(repeat(first|replace hS:=And.right hS|replace hS:=CJ.r hS));have Rr10:=congrArg (fun s:St=>s.sl 10) hS;have Rr157:=congrArg (fun s:St=>s.sl 157) hS;have Rb20:=congrArg (fun s:St=>s.bx 20) hS;have Rb56:=congrArg (fun s:St=>s.bx 56) hS;have Rb57:=congrArg (fun s:St=>s.bx 57) hS;have Ro200040:=congrArg (fun s:St=>s.ow 200040) hS;clear hS;simp only[go_sem,hwe,hS0,hwe,hwe,hwe,hnt,hS2,hq1,hq2]at Rr10 Rr157 Rb20 Rb56 Rb57 Ro200040;(try clear hc);intro K hc;simp only[go_sem,hwe,hS0,hwe,hwe,hwe,hnt,hS2,hq1,hq2,Rr10,Rr157,Rb20,Rb56,Rb57,Ro200040,hB,K6]at hc ⊢;simp only[go_sem,hwe,hS0,hwe,hwe,hwe,hnt,hS2,hq1,hq2,Rr10,Rr157,Rb20,Rb56,Rb57,Ro200040,hB,K0]at hc ⊢;(first|(simp only[hc,K5];done)|((repeat' first|exact hc|apply W6);done)))));all_goals try exact om'
   ·have hs:a4g p w (s.Rels.take (m+1))=_:=d8I hml (hsum.1 hc)
    (refine lpK_n2 (⟨m+1,z0D⟩) _ z1V ?_;simp only[go_sem,hwe,hS0,hwe,hwe,hwe,hnt,hS2,hq1,hq2]<;>repeat' first|apply W6|exact on'|fail)
    all_goals(rw[hs];rfl)
   ·have hs:a4g p w (s.Rels.take (m+1))=_:=e1r hml (by cases h:a2e (chF p w (s.Rels.getD m default))with
     | true=>rfl
     | false=>exact absurd (hsum.2 h) hc)
    (refine lpK_n2 (⟨m+1,z0D⟩) _ z1V ?_;simp only[go_sem,hwe,hS0,hwe,hwe,hwe,hnt,hS2,hq1,hq2]<;>repeat' first|apply W6|exact on'|fail)
    all_goals(rw[hs])
  ·have hmt:s.Rels.take m=s.Rels:=j5 hml;simp only[go_sem,hwe,hS0,hwe,hwe,hwe,hnt,hS2,hmt];(repeat' first|apply cj'|intro hc|apply a0o);(all_goals(try((first|refine a0V 11 rfl ?_);intro S hS B0 hB;simp only[go_sem,hwe,hS0,hwe,hwe,hwe,hnt,hS2,hmt,z0B]at hS hB;(repeat(first|replace hS:=And.right hS|replace hS:=CJ.r hS));have Rr10:=congrArg (fun s:St=>s.sl 10) hS;have Rr157:=congrArg (fun s:St=>s.sl 157) hS;have Rb20:=congrArg (fun s:St=>s.bx 20) hS;have Rb56:=congrArg (fun s:St=>s.bx 56) hS;have Rb57:=congrArg (fun s:St=>s.bx 57) hS;have Ro200040:=congrArg (fun s:St=>s.ow 200040) hS;clear hS;simp only[go_sem,hwe,hS0,hwe,hwe,hwe,hnt,hS2,hmt]at Rr10 Rr157 Rb20 Rb56 Rb57 Ro200040;(try clear hc);intro K hc;simp only[go_sem,hwe,hS0,hwe,hwe,hwe,hnt,hS2,hmt,Rr10,Rr157,Rb20,Rb56,Rb57,Ro200040,hB,K6]at hc ⊢;simp only[go_sem,hwe,hS0,hwe,hwe,hwe,hnt,hS2,hmt,Rr10,Rr157,Rb20,Rb56,Rb57,Ro200040,hB,K0]at hc ⊢;(first|(simp only[hc,K5];done)|((repeat' first|exact hc|apply W6);done)))));all_goals try exact om'
   rw[e1v hok];exact⟨rfl,rfl⟩
noncomputable def b6C:CT:=n9 (fun(x:c4×c6×c6×i5) h=>d0F x.1 x.2.1 x.2.2.1 x.2.2.2 h)
@[go_sem] def e1f:=fun x0 x1 x2 x3 x4 x5=>nm' (fP' b6C rfl (⟨x0,x1⟩,⟨x2⟩,⟨x3⟩,⟨x4,⟨x5⟩⟩))
noncomputable def chS(p:c4)(w:c6)(x:c9):i4:=⟨x.Name,⟨x.Rel.Arity,a1f (a1k p w 2 x.Name x.Rel.Arity).1.Rows x.Rel.Rows false⟩,⟨x.Rel.Arity,a1f (a1f (a1k p w 3 x.Name x.Rel.Arity).1.Rows (a1k p w 2 x.Name x.Rel.Arity).1.Rows false) x.Rel.Rows true⟩⟩
noncomputable def okS(p:c4)(w:c6)(x:c9):Bool:=((a1k p w 2 x.Name x.Rel.Arity).2&&(a1k p w 3 x.Name x.Rel.Arity).2)&&decide ((chS p w x).Plus.Rows.length<=300)
noncomputable def a5B(p:c4)(w:c6)(l:List c9):List i4:=(l.map (chS p w)).filter fun c=>!a2e c
def d1u{p:c4}{w:c6}{k:Int}{x:c9}(h:a1L w (w5 k x.Name) p.Rules=true):(a1k p w k x.Name x.Rel.Arity).1.Rows=fwP p w k x:=by
 rw[a1k,c7d h];rfl
def e2g(p:c4)(w:c6)(x:c9):okS p w x=okF p w x/\(okF p w x=true->chS p w x=chF p w x):=by
 have e2:(a1k p w 2 x.Name x.Rel.Arity).2=a1L w (w5 2 x.Name) p.Rules:=rfl;have e3:(a1k p w 3 x.Name x.Rel.Arity).2=a1L w (w5 3 x.Name) p.Rules:=rfl;rw[okS,okF,e2,e3];cases h2:a1L w (w5 2 x.Name) p.Rules with
 | false=>exact⟨rfl,fun h=>by cases h⟩
 | true=>
   cases h3:a1L w (w5 3 x.Name) p.Rules with
   | false=>exact⟨rfl,fun h=>by cases h⟩
   | true=>
     have e:chS p w x=chF p w x:=by rw[chS,chF,d1u h2,d1u h3]
     rw[e];exact⟨rfl,fun _=>rfl⟩
def d6u(p:c4)(w:c6)(l:List c9):l.all (okS p w)=l.all (okF p w):=by
 rw[show okS p w=okF p w from funext fun x=>(e2g p w x).1]
variable{dst src sw:Int}{l:List c9}{i:Nat}
def e1s{p:c4}{w:c6}(h:l.all (okF p w)=true):a5B p w l=a4g p w l:=by
 rw[a5B,a4g,q3C fun x hx=>(e2g p w x).2 (q0I.1 h x hx)]
def e1t(p:c4)(w:c6)(l:List c9):(a5B p w l).length<=l.length:=by
 have:=q1F (fun c:i4=>!a2e c) (l.map (chS p w));rw[q0C]at this;exact this
def d8J{p:c4}{w:c6}(hi:i<l.length)(h:a2e (chS p w (l.getD i default))=false):a5B p w (l.take (i+1))=a5B p w (l.take i)++[chS p w (l.getD i default)]:=by
 rw[j6 default hi,a5B,a5B,q1B,q3Q,q0D,q1D,q3M,h];rfl
def e1u{p:c4}{w:c6}(hi:i<l.length)(h:a2e (chS p w (l.getD i default))=true):a5B p w (l.take (i+1))=a5B p w (l.take i):=by
 rw[j6 default hi,a5B,a5B,q1B,q3Q,q0D,q1D,q3M,h];simp
def d6D{p:c4}{w:c6}(hg:y3 p=true)(hw:j9 w=true)(k:Int)(x:c9):(a1k p w k x.Name x.Rel.Arity).1.Rows.length<=7200/\∀t∈(a1k p w k x.Name x.Rel.Arity).1.Rows,t.V.length<1000:=by
 have hP:=a0B (a0c (u9 hg));have h1:=a1M hw (w5 k x.Name) (L:=p.Rules.take (c3Z w (w5 k x.Name) p.Rules)) fun r hr=>hP.1 r (q1L hr)
 have h2:=a0u o5 (p9 w (w5 k x.Name) (p.Rules.take (c3Z w (w5 k x.Name) p.Rules))) [];rw[V1]at h1;rw[q1R]at h2;refine⟨by show(l5 o5 [] _).length<=7200;have:=hP.2;omega,fun t ht=>?_⟩;have ht:t∈l5 o5 [] (p9 w (w5 k x.Name) (p.Rules.take (c3Z w (w5 k x.Name) p.Rules))):=ht;rcases o7.1 ht with h|h
 ·cases h
 ·exact(c7y hw (q:=w5 k x.Name) (L:=p.Rules.take (c3Z w (w5 k x.Name) p.Rules)) (fun r hr=>hP.1 r (q1L hr)) h).2
def d6v{p:c4}{w:c6}{x:c9}(h:((a1k p w 2 x.Name x.Rel.Arity).2=false\/(a1k p w 3 x.Name x.Rel.Arity).2=false)\/300<((chS p w x).Plus.Rows.length:Int)):okS p w x=false:=by
 rw[okS];rcases h with(h|h)|h
 ·rw[h];rfl
 ·rw[h,q2B];rfl
 ·rw[V5 z0D,q2B]
def e2h{p:c4}{w:c6}{x:c9}(h:(a1k p w 2 x.Name x.Rel.Arity).2=true/\(a1k p w 3 x.Name x.Rel.Arity).2=true)(h3:¬300<((chS p w x).Plus.Rows.length:Int)):okS p w x=true:=by
 rw[okS,h.1,h.2,V3 z0D];rfl
def c8q{p:c4}{w:c6}{n:Nat}{b:Bool}(hn:n<l.length)(h:okS p w (l.getD n default)=b):(!(l.take (n+1)).all (okS p w))=bif b then !(l.take n).all (okS p w)else true:=by
 rw[A7e (d:=default) hn,h];cases b
 ·rw[q2B];rfl
 ·rw[q1G];rfl
def sumS{c:i4}(h1:c.Plus.Rows.length<=8000)(h2:c.Minus.Rows.length<=8000):0<IntKind.i64.wrap ((c.Plus.Rows.length:Int)+(c.Minus.Rows.length:Int))↔a2e c=false:=by
 rw[IntWalk.i64_in _ ⟨z0D,z0D⟩,a2e,q1E];omega
def d9d{c:i4}(h:a2e c=false->False):a2e c=true:=by
 cases e:a2e c with
 | true=>rfl
 | false=>exact(h e).elim
def c2B(p:c4)(s:c6)(all:c6)(e:i5)(hpre:(y3 p=true/\j9 s=true/\j9 (z7 all e)=true)/\cpS all.Rels/\e.Row.V.length<1000):spZ 55 [(true,[p6 p.Decls,o9 p.Rules]),(true,[j7 s.Rels]),(true,[j7 all.Rels]),(true,[.s e.Name,l9 e.Row.V])] [] (.tup [(true,[d0r (((a2t p s (z7 all e)).1).Changes)]),(false,[.i .i64 ((a2t p s (z7 all e)).2)])]):=by
 refine sx' false true none Tryz.func55 (q' 4 [aX 2 0,aX 1 1,aX 1 2,aX 2 3,aw [.sl a0E],aK 0] (q' 19 [ae 1 6,aG 0 7,af 1 7,aG 0 22,aN,af 1 7,aE 1,ao (.bsl 1 1 [.sl l7] [(0,.t 27)]),ao (.bld [.i .i64,.sl k7] [(0,1,.t 25),(1,1,.t 28)]),ac 84 [19,21,29],aS 1 6 30] (q' 10 [ax (o' 31 (.bld [.sl a0E] [])),aw [.sl a0E],aS 1 10 31] (q' 11 [aU false] (.seq (q' 32 [aG 0 5,aN,aK 0] (fO 0 36 [ar 35 34] 36 1 (q' 37 [ai 3 33 35,aE 3,ax (w' 13 [.s,.i .i64,.sl k7]),aS 3 13 38] (q' 40 [ae 2 4,ae 1 6,aG 0 13,af 1 13,aG 0 44,ao (.call 85 [.t 40,.t 41,.k (.v false [.c (.i .i64 2)]),.t 43,.t 46]),aV 39,aZ 39 0,aZ 39 1,ax (w' 14 [.i .i64,.sl k7]),aS 2 14 48,aV 15] (q' 51 [ae 2 4,ae 1 6,aG 0 13,af 1 13,aG 0 55,ao (.call 85 [.t 51,.t 52,.k (.v false [.c (.i .i64 3)]),.t 54,.t 57]),aV 50,aZ 50 0,aZ 50 1,ax (w' 16 [.i .i64, .sl k7]),aS 2 16 59,aV 17] (.seq (q' 61 [am 15,aO 61,am 62,aH 63 false [bm 17,bO 64],aQ 63 65] (ci 66 (g' 11 [aU true]))) (q' 67 [aG 0 13,ao (.bld [.s,.i .i64,.sl k7,.i .i64,.sl k7] [(0,1,.t 68)]),ax (w' 18 [.s,.i .i64,.sl k7,.i .i64,.sl k7]),aS 5 18 69] (q' 70 [ae 2 14,af 1 13,aE 2,ao (.call 93 [.t 70,.t 72,.k (.v false [.c (.b false)])]),af 1 18,aS 2 74 73] (.seq (.rego [(true,0,e' 75 2 16),(true,1,e' 76 2 14),(true,3,f' 78 1 13),(true,4,e' 79 2 78),(false,2,o' 77 (.call 93 [.t 75,.t 76,.k (.v false [.c (.b false)])])),(false,5,o' 80 (.call 93 [.t 77,.t 79,.k (.v false [.c (.b true)])])), (false,6,f' 81 3 18),(false,7,s' 2 81 80)] [32,33,28,29,26,27]) (.seq (q' 82 [af 1 18,aG 1 82,aN,aC .gtr 85 300] (ci 86 (g' 11 [aU true]))) (q' 87 [af 1 18,aG 1 87,aN,af 3 18,aG 1 91,aN,aD .add 90 94,aC .gtr 95 0] (ci 96 (g' 97 [aG 0 10,ae 5 18,ao (.bsl 5 1 [.s,.i .i64,.sl k7,.i .i64,.sl k7] [(0,.t 99)]),ao (.app 5 80 [.s,.i .i64,.sl k7,.i .i64,.sl k7] (.t 98) (.t 100)),af 0 10,aS 1 102 101]))))))))))) (g' 103 [aA 35]))) (.seq (q' 104 [am 11] (ci 104 (q' 105 [ao (.bld [.sl a0E] []),aS 1 8 105,az 9 3] .ret))) (q' 106 [ae 1 10,aS 1 8 106,az 9 0] .ret))))))) [.c 8 true 1,.t 9] [(84,[],a1r),(85,[],a4X),(93,[],a6H)] ?_;intro hb hE;obtain⟨⟨hg,hs,hw⟩,hcp,h4⟩:=hpre;obtain⟨w,hwe⟩:∃w,(⟨a1D all.Rels e.Name ⟨e.Name,⟨(e.Row.V.length:Int),[⟨e.Row.V⟩]⟩⟩⟩:c6)=w:=⟨_,rfl⟩
 have hwd:z7 all e=w:=hwe;rw[hwd]at hw ⊢;simp only[go_sem,hwe];repeat' first|apply cj'|intro hc|exact om'|fail
 ·exact⟨hcp,fun y hy=>by rw[hy];exact h4⟩
 have h24:=a1T hs;refine lk' false [(true,20,0,200040)] [4,6,8,10,33,34] [8,12,16,27,29,33] [] (fun i:{n:Nat // n<=s.Rels.length}=>[(11,slV (.b (!(s.Rels.take i.1).all (okS p w)))),(35,slV (.i .i64 i.1))]) (fun i=>[(20,[.ow 200040])]) (fun i=>[(200040,a0E,(a5B p w (s.Rels.take i.1)).map (i4.cells false false))]) (fun i=>s.Rels.length-i.1) (⟨0,z0E⟩) ?_;intro S0 hS0 i;obtain⟨n,hn⟩:=i;have hfl:=e1t p w (s.Rels.take n);rw[V1]at hfl;have hX:=fun(h:n<s.Rels.length)=>a1o hs _ (u4 default h)
 have ht2:=d6D hg hw 2 (s.Rels.getD n default);have ht3:=d6D hg hw 3 (s.Rels.getD n default);have hsl:=b9n (a1k p w 3 (s.Rels.getD n default).Name (s.Rels.getD n default).Rel.Arity).1.Rows (a1k p w 2 (s.Rels.getD n default).Name (s.Rels.getD n default).Rel.Arity).1.Rows false;have hs2:=b9n (a1k p w 2 (s.Rels.getD n default).Name (s.Rels.getD n default).Rel.Arity).1.Rows (s.Rels.getD n default).Rel.Rows false;have hs3:=b9n (a1f (a1k p w 3 (s.Rels.getD n default).Name (s.Rels.getD n default).Rel.Arity).1.Rows (a1k p w 2 (s.Rels.getD n default).Name (s.Rels.getD n default).Rel.Arity).1.Rows false) (s.Rels.getD n default).Rel.Rows true;have hsum:=sumS (c:=chS p w (s.Rels.getD n default)) (show(a1f _ _ _).length<=8000 by omega) (show(a1f _ _ _).length<=8000 by omega);simp only[go_sem,hwe,hS0];repeat' first|apply cj'|intro hc|exact om'|fail
 all_goals first
  | exact⟨z0D,ht2.2⟩
  | exact⟨z0D,ht3.2⟩
  | exact⟨z0D,fun t ht=>ht3.2 t (q0N.1 ht).1⟩
  | (have hq:(s.Rels.take n).all (okS p w)=false:=hc
     rw[j5 z0D,d6u]at hq;rw[a2t,hq];exact⟨rfl,rfl⟩)
  | (have hq:(s.Rels.take n).all (okS p w)=true:=hc
     rw[j5 z0D,d6u]at hq;rw[j5 z0D,e1s hq,a2t,hq];exact⟨rfl,rfl⟩)
  | skip
 all_goals rename_i g1 g2 g3
 all_goals(have hnl:n<s.Rels.length:=by omega)
 all_goals first
  | have hk:=c8q hnl (d6v (.inl g2))
  | have hk:=c8q hnl (d6v (.inr g3))
  | have hk:=c8q hnl (e2h g2 g3)
 all_goals first
  | have hf:a5B p w (s.Rels.take (n+1))=_:=d8J hnl (hsum.1 hc)
  | have hf:a5B p w (s.Rels.take (n+1))=_:=e1u hnl (d9d (fun h=>hc (hsum.2 h)))
 all_goals
  (refine lpK_n2 (⟨n+1,z0D⟩) _ z1L ?_;simp only[go_sem,hwe,hS0]<;>repeat' first|apply W6|exact on'|fail)
 all_goals first|(rw[hk];rfl)|(rw[hf];done)|(rw[hf];rfl)|trace_state
noncomputable def a9u:CT:=n9 (fun(x:c4×c6×c6×i5) h=>c2B x.1 x.2.1 x.2.2.1 x.2.2.2 h)
@[go_sem] def d5N:=fun x0 x1 x2 x3 x4 x5=>nm' (fP' a9u rfl (⟨x0,x1⟩,⟨x2⟩,⟨x3⟩,⟨x4,⟨x5⟩⟩))
def e1R(l:List Int)(v:Int):spZ 119 [(false,[a4h l]),(false,[.i .i64 v])] [] (.one (false,[.i .i64 (a0A (fun y=>v==y) l)])):=by
 refine sy' Tryz.func119 (q' 4 [aK 0] (.seq (q' 6 [am 0,aN,aK 0] (fO 0 9 [ar 8 7] 9 1 (q' 10 [am 8,aV 5] (q' 11 [aM [1,0,5],aI 1,aL,aD .eql 11 15] (ci 16 (q' 17 [am 5,aV 4] .ret)))) (g' 18 [aA 8]))) (q' 4 [ao (.mov (.k (.v false [.c (.i .i64 (-1))])))] .ret))) [.t 4] [] ?_;intro hb hE;simp only[go_sem];repeat' first|apply cj'|intro hc|exact om'|fail
 refine lq' false [0,1,7] [] [] (fun i:{i:Nat // i<=l.length/\(l.take i).any (fun y=>v==y)=false}=>[(8,slV (.i .i64 i.1))]) nl' nl' (fun i=>l.length-i.1) (⟨0,z0E⟩) ?_;intro S0 hS0 i;obtain⟨i,hi,ha⟩:=i;simp only[go_sem,hS0];repeat' first|apply cj'|intro hc|exact om'|fail
 ·exact(y5 (p:=fun y=>v==y) (d:=0) z0D ha hc).symm
 ·exact nx0 ⟨i+1,z0D,u6 (p:=fun y=>v==y) 0 z0D ha hc⟩
 ·exact(w9 z0K).symm
noncomputable def c9v:CT:=l4 (fun(x:(List Int)×Int)=>e1R x.1 x.2)
@[go_sem] def c_idxInt_eq:=fun l v=>nm' (fQ' c9v rfl (l,v))
def e1N(l:List Int)(v:Int):spZ 69 [(false,[a4h l]),(false,[.i .i64 v])] [] (.one (false,[.b (l.contains v)])):=by
 refine sy' Tryz.func69 (q' 4 [aU false] (q' 5 [aM [0,1],ac 119 [5,6],aC .geq 7 0,aV 4] .ret)) [.t 4] [(119,[],c9v)] ?_;intro hb hE;simp only[go_sem];repeat' first|apply cj'|intro hc|exact om'|fail
 all_goals(rw[q4F];exact a0Z _ _)
noncomputable def c9r:CT:=l4 (fun(x:(List Int)×Int)=>e1N x.1 x.2)
@[go_sem] def c_conInt_eq:=fun l v=>nm' (fQ' c9r rfl (l,v))
def c8k(l:List Int)(n:Int):spZ 56 [(false,[a4h l]),(false,[.i .i64 n])] [] (.one (false,[.b (l.contains n)])):=by
 refine sy' Tryz.func56 (q' 4 [aU false] (.seq (q' 7 [am 0,aN,aK 0] (fO 0 10 [ar 9 8] 10 1 (q' 11 [ai 1 7 9,aL,aV 6] (q' 13 [aM [6,1],aD .eql 13 14] (ci 15 (q' 4 [aU true] .ret)))) (g' 16 [aA 9]))) (q' 4 [aU false] .ret))) [.t 4] [] ?_;intro hb hE;simp only[go_sem];repeat' first|apply cj'|intro hc|exact om'|fail
 refine lq' false [1,7,8] [] [] (fun i:{i:Nat // i<=l.length/\(l.take i).any (fun x=>x==n)=false}=>[(9,slV (.i .i64 i.1))]) nl' nl' (fun i=>l.length-i.1) (⟨0,z0E⟩) ?_;intro S0 hS0 i;obtain⟨i,hi,ha⟩:=i;simp only[go_sem,hS0];repeat' first|apply cj'|intro hc|exact om'|fail
 ·rw[q4F,any_true (d:=0) (i:=i) z0D (by rw[beq_iff_eq]at hc ⊢;exact hc.symm)]
 ·exact nx0 ⟨i+1,z0D,u6 0 z0D ha hc⟩
 ·rw[q4F];rw[j5 z0D]at ha;rw[<-ha]
  congr 1
  funext x
  exact q3L.2 ⟨fun h=>by rw[beq_iff_eq]at h ⊢;exact h.symm,fun h=>by rw[beq_iff_eq]at h ⊢;exact h.symm⟩
noncomputable def b3i:CT:=l4 (fun(x:(List Int)×Int)=>c8k x.1 x.2)
@[go_sem] def e0f:=fun l n=>nm' (fQ' b3i rfl (l,n))
def b6M(l:List Int)(i:Nat):Bool:=!(decide (1<=l.getD i 0)&&decide (l.getD i 0<=255))||(decide (0<i)&&decide (l.getD i 0<=l.getD (i-1) 0))
def a5j(l:List Int):Bool:=decide (l.length<=8)&&!a2Y l.length (b6M l)
def b9l{n:Nat}(h0:0<(i:Int))(h:(i:Int)<n)(hn:(n:Int)<=9223372036854775807):IntKind.i64.wrap ((i:Int)-1)=((i-1:Nat):Int):=by
 rw[IntWalk.i64_in _ ⟨z0D,z0D⟩];omega
def e2m{l:List Int}(hi:(i:Int)<l.length)(hn:(l.length:Int)<=9223372036854775807)(h:(decide (1<=l.getD i 0)&&decide (l.getD i 0<=255))=false\/0<(i:Int)/\l.getD i 0<=l.getD (IntKind.i64.wrap ((i:Int)-1)).toNat 0):b6M l i=true:=by
 rw[b6M];rcases h with h|h
 ·rw[h];rfl
 ·rw[b9l h.1 hi hn]at h;have h2:=h.2;rw[q3V]at h2;rw[V3 h2,V3 (show 0<i by omega),q1V,q5Y]
def pt_no{l:List Int}(hi:(i:Int)<l.length)(hn:(l.length:Int)<=9223372036854775807)(h:(1<=l.getD i 0/\l.getD i 0<=255)/\(decide (0<(i:Int))&&decide (l.getD i 0<=l.getD (IntKind.i64.wrap ((i:Int)-1)).toNat 0))=false):b6M l i=false:=by
 rw[b6M,V3 h.1.1,V3 h.1.2];rcases q5S i with rfl|h0
 ·rfl
 ·have h2:=h.2;rw[b9l z0D hi hn,q3V,V3 (show 0<(i:Int) by omega),q0P]at h2;rw[h2];simp
def d1b{l:List Int}{i:Nat}(hi:i<l.length)(h:b6M l i=true):a5j l=false:=by
 rw[a5j,a2r hi h,q4M,q2B]
def c1A(l:List Int):spZ 34 [(false,[a4h l])] [] (.one (false,[.b (a5j l)])):=by
 refine sy' Tryz.func34 (q' 2 [aU false] (.seq (q' 5 [am 0,aN,aK 0] (fO 0 8 [ar 7 6] 8 1 (q' 9 [am 7,ai 1 5 7,aL,av 3 9,aV 4] (q' 12 [am 4,ac 33 [12],aO 13,am 14,aH 15 false [bm 3,bC .gtr 16 0,bm 17],aH 18 true [bm 0,bm 3,bC .sub 20 1,bi 1 19 21,bL,bm 4,bD .geq 23 24],aH 15 false [bP 18 25],aQ 15 26] (ci 27 (q' 2 [aU false] .ret)))) (g' 28 [aA 7]))) (q' 29 [am 0,aN,aC .leq 30 8,aV 2] .ret))) [.t 2] [(33,[],a3q)] ?_;intro hb hE;simp only[go_sem];repeat' first|apply cj'|intro hc|exact om'|fail
 have hN:(l.length:Int)<=9223372036854775807:=by omega
 refine lq' false [0,5,6] [] [] (fun i:{i:Nat // i<=l.length/\a2Y i (b6M l)=false}=>[(7,slV (.i .i64 i.1))]) nl' nl' (fun i=>l.length-i.1) (⟨0,z0E,a1w⟩) ?_;intro S0 hS0 i;obtain⟨i,hi,ha⟩:=i;simp only[go_sem,hS0];repeat' first|apply cj'|intro hc|exact om'|fail
 ·rw[b9l hc.2 z0D hN];omega
 ·rw[d1b (i:=i) z0D (e2m z0D hN hc)]
 ·exact nx0 ⟨i+1,z0D,a1h ha (pt_no z0D hN hc)⟩
 ·obtain rfl:i=l.length:=by omega
  rw[a5j,ha,q3K,q1G];exact decide_eq_decide.2 z0D
noncomputable def a8H:CT:=l4 (fun(x:(List Int))=>c1A x)
@[go_sem] def d4J:=fun l=>nm' (fQ' a8H rfl l)
def c2o(l:List Int):spZ 24 [(false,[a4h l])] [] (.one (false,[.b (a5j l)])):=by
 refine sy' Tryz.func24 (q' 2 [aU false] (.seq (q' 5 [am 0,aN,aC .gtr 6 8] (ci 7 (q' 2 [aU false] .ret))) (.seq (q' 8 [am 0,aN,aK 0] (fO 0 11 [ar 10 9] 11 1 (q' 12 [am 10,ai 1 8 10,aL,av 3 12,aV 4] (q' 15 [am 4,aC .lss 15 1,am 16,aH 17 false [bm 4,bC .gtr 18 255],aQ 17 19,am 20,aH 21 false [bm 3,bC .gtr 22 0,bm 23],aH 24 true [bm 0,bm 3,bC .sub 26 1,bi 1 25 27,bL,bm 4,bD .geq 29 30],aH 21 false [bP 24 31],aQ 21 32] (ci 33 (q' 2 [aU false] .ret)))) (g' 34 [aA 10]))) (q' 2 [aU true] .ret)))) [.t 2] [] ?_;intro hb hE;simp only[go_sem];repeat' first|apply cj'|intro hc|exact om'|fail
 ·rw[a5j,V5 z0D];rfl
 have h8:l.length<=8:=by omega
 clear hc;refine lq' false [0,8,9] [] [] (fun i:{i:Nat // i<=l.length/\a2Y i (b6M l)=false}=>[(10,slV (.i .i64 i.1))]) nl' nl' (fun i=>l.length-i.1) (⟨0,z0E,a1w⟩) ?_;intro S0 hS0 i;obtain⟨i,hi,ha⟩:=i;simp only[go_sem,hS0];repeat' first|apply cj'|intro hc|exact om'|fail
 ·rw[b9l hc.2 z0D z0D];omega
 ·rw[d1b (i:=i) z0D (e2m z0D z0D (hc.imp (fun h=>by
   rcases h with h|h
   ·rw[V5 z0D];rfl
   ·rw[V5 (show¬l.getD i 0<=255 by omega),q2B]) id))]
 ·exact nx0 (⟨i+1,z0D,a1h ha (pt_no z0D z0D ⟨⟨z0D,z0D⟩,hc.2⟩)⟩)
 ·obtain rfl:i=l.length:=by omega
  rw[a5j,ha,V3 h8];rfl
noncomputable def a9n:CT:=l4 (fun(x:(List Int))=>c2o x)
@[go_sem] def d5A:=fun l=>nm' (fQ' a9n rfl l)
def b2z(told ports:List Int)(inn:Int)(d:i7):List i3:=((told.filter fun t=>ports.contains t&&t != inn).map fun t=>(⟨1,t,0⟩:i3))++bif decide (0<d.Changes.length)then[⟨4,0,0⟩]else[]
noncomputable def a4d(p:c4)(s w:c6)(ports:List Int)(e:i5):List i3×Int:=bif (a1s p w).2 then(bif (a2t p s w).2==0 then(b2z (a1s p w).1 ports (e.Row.V.getD 1 default).N (a2t p s w).1,0)else([],4))else([],3)
def c1k{p:c4}{w:c6}(hg:y3 p=true)(hw:j9 w=true):(a1s p w).1.length<=7200:=by
 have hP:=a0B (a0c (u9 hg));have hFL:=a1M hw a0T (L:=p.Rules) hP.1;have hPL:=b3X (p9 w a0T p.Rules);rw[a1s];cases a1L w a0T p.Rules with
 | false=>exact q2D _
 | true=>
   have h1:=a9w (a1a iLt (a2W (p9 w a0T p.Rules)));have h2:=(a1q iLt (a2W (p9 w a0T p.Rules))).length_eq;rw[W8];show(Lib.compact _).length<=7200;have:=hP.2;omega
def c1F(p:c4)(s:c6)(all:c6)(ports:List Int)(e:i5)(hpre:((y3 p=true/\j9 s=true/\j9 (z7 all e)=true)/\SS sLt (all.Rels.map c9.Name)/\all.Rels.length<=1000)/\e.Row.V.length=4):spZ 36 [(true,[p6 p.Decls,o9 p.Rules]),(true,[j7 s.Rels]),(true,[j7 all.Rels]),(false,[a4h ports]),(true,[.s e.Name,l9 e.Row.V])] [] (.tup [(false,[d6h ((a4d p s (z7 all e) ports e).1)]),(false,[.i .i64 ((a4d p s (z7 all e) ports e).2)])]):=by
 refine sy' Tryz.func36 (q' 5 [aX 2 0,aX 1 1,aX 1 2,ax (o' 9 (.box 2 (.t 4))),ax (o' 10 (.mov (.k (.v false [.nl a3Q])))),az 11 0] (q' 20 [ae 2 5,ae 1 7,ae 2 9,ac 67 [20,21,22],aV 19,aZ 19 0,aZ 19 1,av 12 24,aV 13] (.seq (q' 26 [am 13,aO 26] (ci 27 (q' 10 [ao (.mov (.k (.v false [.nl a3Q]))),aK 3] .ret))) (q' 29 [ae 2 5,ae 1 6,ae 1 7,ae 2 9,ac 68 [29,30,31,32],aV 28,aZ 28 0,aZ 28 1,ax (w' 14 [.sl a0E]),aS 1 14 34,aV 15] (.seq (q' 36 [am 15,aC .neq 36 0] (ci 37 (q' 10 [ao (.mov (.k (.v false [.nl a3Q]))),aK 4] .ret))) (q' 38 [ao (.bsl 3 0 [.i .i64,.i .i64,.i .i64] []),aV 16] (.seq (q' 39 [am 12,aN,aK 0] (fO 0 42 [ar 41 40] 42 1 (q' 43 [ai 1 39 41,aL,aV 18] (q' 45 [aM [3,18],ac 69 [45,46],am 47,aH 48 true [bm 18,bf 1 9,bF 0,bL,bo (.ia 2 (.t 52) (k' 1)),bF 0,bL,bD .neq 49 55],aP 48 56] (ci 57 (g' 58 [aM [16,18],ao (.bld [.i .i64,.i .i64,.i .i64] [(0,1,.k (.v false [.c (.i .i64 1)])),(1,1,.t 59)]),ao (.bsl 3 1 [.i .i64,.i .i64,.i .i64] [(0,.t 60)]),ao (.app 3 24 [.i .i64,.i .i64,.i .i64] (.t 58) (.t 61)),aV 16])))) (g' 63 [aA 41]))) (.seq (q' 64 [aG 0 14,aN,aC .gtr 66 0] (ci 67 (g' 68 [am 16,ao (.bld [.i .i64,.i .i64,.i .i64] [(0,1,.k (.v false [.c (.i .i64 4)]))]),ao (.bsl 3 1 [.i .i64,.i .i64,.i .i64] [(0,.t 69)]),ao (.app 3 24 [.i .i64,.i .i64,.i .i64] (.t 68) (.t 70)),aV 16]))) (q' 10 [av 72 16,am 72,aK 0] .ret))))))))) [.t 10,.t 11] [(67,[],a7G),(68,[],b6C),(69,[],c9r)] ?_;intro hb hE;obtain⟨⟨⟨hg,hs,hw⟩,ha⟩,h4⟩:=hpre;obtain⟨w,hwe⟩:∃w,z7 all e=w:=⟨_,rfl⟩
 rw[hwe]at hw ⊢;have hfl:=c1k hg hw;simp only[go_sem,hwe];repeat' first|apply cj'|intro hc|exact om'|fail
 ·exact⟨⟨⟨hg,hw⟩,ha.1⟩,ha.2⟩
 ·rw[a4d,hc];exact⟨rfl,rfl⟩
 ·exact⟨⟨⟨⟨hg,hs⟩,hw⟩,ha.1⟩,ha.2⟩
 ·rename_i h1;rw[a4d,h1,show((a2t p s w).2==0)=false by simpa[bne]using hc];exact⟨rfl,rfl⟩
 rename_i h1;have hR:a4d p s w ports e=(b2z (a1s p w).1 ports (e.Row.V.getD 1 default).N (a2t p s w).1,0):=by rw[a4d,h1,show((a2t p s w).2==0)=true by simpa[bne]using hc];rfl
 clear hc;refine a2B 2944 ?_;refine lk' false [(false,16,0,100032)] [3,9,14,39,40] [18,28] [] (fun i:{i:Nat // i<=(a1s p w).1.length}=>[(16,.v false [.ow 100032]),(41,slV (.i .i64 i.1))]) nl' (fun i=>[(100032,a3Q,((((a1s p w).1.take i.1).filter fun t=>ports.contains t&&t != (e.Row.V.getD 1 default).N).map fun t=>(⟨1,t,0⟩:i3)).map i3.cells)]) (fun i=>(a1s p w).1.length-i.1) (⟨0,z0E⟩) ?_;intro S0 hS0 i;obtain⟨i,hi⟩:=i;have hfm:=q1F (fun t=>ports.contains t&&t != (e.Row.V.getD 1 default).N) ((a1s p w).1.take i);rw[V1]at hfm;have hyes:=fun h=>a7n (p:=fun t=>ports.contains t&&t != (e.Row.V.getD 1 default).N) (fun t=>(⟨1,t,0⟩:i3)) (l:=(a1s p w).1) (i:=i) 0 h
 have hno:=fun h=>b3r (p:=fun t=>ports.contains t&&t != (e.Row.V.getD 1 default).N) (fun t=>(⟨1,t,0⟩:i3)) (l:=(a1s p w).1) (i:=i) 0 h
 simp only[go_sem,hwe,hS0];repeat' first|apply cj'|intro hc|exact om'|fail
 ·(refine lpK_n2 (⟨i+1,z0D⟩) _ z1L ?_;simp only[go_sem,hwe,hS0]<;>repeat' first|apply W6|exact on'|fail)
  all_goals rw[hyes z0D (by rw[hc.1,hc.2];rfl)]
 ·(refine lpK_n2 (⟨i+1,z0D⟩) _ z1L ?_;simp only[go_sem,hwe,hS0]<;>repeat' first|apply W6|exact on'|fail)
  all_goals rw[hno z0D hc]
 ·rw[hR,j5 z0D,b2z,V3 z0D];exact⟨rfl,rfl⟩
 ·rw[hR,j5 z0D,b2z,V5 z0D,V2,q0A];exact⟨rfl,rfl⟩
noncomputable def a8L:CT:=n9 (fun(x:c4×c6×c6×(List Int)×i5) h=>c1F x.1 x.2.1 x.2.2.1 x.2.2.2.1 x.2.2.2.2 h)
@[go_sem] def d4O:=fun x0 x1 x2 x3 x4 x5 x6=>nm' (fP' a8L rfl (⟨x0,x1⟩,⟨x2⟩,⟨x3⟩,x4,⟨x5,⟨x6⟩⟩))
def c2D(p:c4)(s:c6)(all:c6)(ports:List Int)(e:i5)(hpre:((y3 p=true/\j9 s=true/\j9 (z7 all e)=true)/\cpS all.Rels)/\e.Row.V.length=4):spZ 26 [(true,[p6 p.Decls,o9 p.Rules]),(true,[j7 s.Rels]),(true,[j7 all.Rels]),(false,[a4h ports]),(true,[.s e.Name,l9 e.Row.V])] [] (.tup [(false,[d0q ((a4d p s (z7 all e) ports e).1)]),(false,[.i .i64 ((a4d p s (z7 all e) ports e).2)])]):=by
 refine sx' false true none Tryz.func26 (q' 5 [aX 2 0,aX 1 1,aX 1 2,ax (o' 9 (.box 2 (.t 4))),ax (o' 10 (.mov (.k (.v false [.nl a3Q])))),az 11 0] (q' 19 [ae 2 5,ae 1 7,ae 2 9,ac 50 [19,20,21],aV 18,aZ 18 0,aZ 18 1,av 12 23,aV 13] (.seq (q' 25 [am 13,aC .neq 25 0] (ci 26 (q' 10 [av 27 13,ao (.mov (.k (.v false [.nl a3Q]))),am 27] .ret))) (q' 29 [ae 2 5,ae 1 6,ae 1 7,ae 2 9,ac 55 [29,30,31,32],aV 28,aZ 28 0,aZ 28 1,ax (w' 14 [.sl a0E]),aS 1 14 34,aV 13] (.seq (q' 36 [am 13,aC .neq 36 0] (ci 37 (q' 10 [ao (.mov (.k (.v false [.nl a3Q]))),aK 4] .ret))) (q' 38 [ao (.bsl 3 0 [.i .i64,.i .i64,.i .i64] []),aV 15] (.seq (q' 39 [am 12,aN,aK 0] (fO 0 42 [ar 41 40] 42 1 (q' 43 [ai 1 39 41,aL,aV 17] (q' 45 [aM [3,17],ac 56 [45,46],am 47,aH 48 true [bm 17,bf 1 9,bF 0,bL,bo (.ia 2 (.t 52) (k' 1)),bF 0,bL,bD .neq 49 55],aP 48 56] (ci 57 (g' 58 [aM [15,17],ao (.bld [.i .i64,.i .i64,.i .i64] [(0,1,.k (.v false [.c (.i .i64 1)])),(1,1,.t 59)]),ao (.bsl 3 1 [.i .i64,.i .i64,.i .i64] [(0,.t 60)]),ao (.app 3 24 [.i .i64,.i .i64,.i .i64] (.t 58) (.t 61)),aV 15])))) (g' 63 [aA 41]))) (.seq (q' 64 [aG 0 14,aN,aC .gtr 66 0] (ci 67 (g' 68 [am 15,ao (.bld [.i .i64,.i .i64,.i .i64] [(0,1,.k (.v false [.c (.i .i64 4)]))]),ao (.bsl 3 1 [.i .i64,.i .i64,.i .i64] [(0,.t 69)]),ao (.app 3 24 [.i .i64,.i .i64,.i .i64] (.t 68) (.t 70)),aV 15]))) (q' 10 [av 72 15,am 72,aK 0] .ret))))))))) [.t 10,.t 11] [(50,[],a2M),(55,[],a9u),(56,[],b3i)] ?_;intro hb hE;obtain⟨⟨⟨hg,hs,hw⟩,ha⟩,h4⟩:=hpre;obtain⟨w,hwe⟩:∃w,z7 all e=w:=⟨_,rfl⟩
 rw[hwe]at hw ⊢;have hf2:=d6b hg hw;have hf1:(d0i p w).1=(a1s p w).1:=by rw[hf2]
 have hfl:=c1k hg hw;simp only[go_sem,hwe,hf1];repeat' first|apply cj'|intro hc|exact om'|fail
 ·exact⟨⟨⟨hg,hw⟩,ha⟩,h4⟩
 ·cases h1:(a1s p w).2 with
  | true=>rw[hf2,h1]at hc;cases hc
  | false=>rw[a4d,hf2,h1];exact⟨rfl,rfl⟩
 ·exact⟨⟨⟨⟨hg,hs⟩,hw⟩,ha⟩,z0D⟩
 ·rename_i h0;cases h1:(a1s p w).2 with
  | false=>rw[hf2,h1]at h0;cases h0
  | true=>rw[a4d,h1,show((a2t p s w).2==0)=false by simpa[bne]using hc];exact⟨rfl,rfl⟩
 rename_i h0;have h1:(a1s p w).2=true:=by
  cases h1:(a1s p w).2 with
  | true=>rfl
  | false=>rw[hf2,h1]at h0;cases h0
 have hR:a4d p s w ports e=(b2z (a1s p w).1 ports (e.Row.V.getD 1 default).N (a2t p s w).1,0):=by rw[a4d,h1,show((a2t p s w).2==0)=true by simpa[bne]using hc];rfl
 clear hc;refine lk' false [(false,15,0,100030)] [3,9,14,39,40] [18,28] [] (fun i:{i:Nat // i<=(a1s p w).1.length}=>[(15,.v false [.ow 100030]),(41,slV (.i .i64 i.1))]) nl' (fun i=>[(100030,a3Q,((((a1s p w).1.take i.1).filter fun t=>ports.contains t&&t != (e.Row.V.getD 1 default).N).map fun t=>(⟨1,t,0⟩:i3)).map i3.cells)]) (fun i=>(a1s p w).1.length-i.1) (⟨0,z0E⟩) ?_;intro S0 hS0 i;obtain⟨i,hi⟩:=i;have hfm:=q1F (fun t=>ports.contains t&&t != (e.Row.V.getD 1 default).N) ((a1s p w).1.take i);rw[V1]at hfm;have hyes:=fun h=>a7n (p:=fun t=>ports.contains t&&t != (e.Row.V.getD 1 default).N) (fun t=>(⟨1,t,0⟩:i3)) (l:=(a1s p w).1) (i:=i) 0 h
 have hno:=fun h=>b3r (p:=fun t=>ports.contains t&&t != (e.Row.V.getD 1 default).N) (fun t=>(⟨1,t,0⟩:i3)) (l:=(a1s p w).1) (i:=i) 0 h
 simp only[go_sem,hwe,hf1,hS0];repeat' first|apply cj'|intro hc|exact om'|fail
 ·(refine lpK_n2 (⟨i+1,z0D⟩) _ (by simp only[go_sem,hwe,hf1];try rfl) ?_;simp only[go_sem,hwe,hf1,hS0]<;>repeat' first|apply W6|exact on'|fail)
  all_goals rw[hyes z0D (by rw[hc.1,hc.2];rfl)]
 ·(refine lpK_n2 (⟨i+1,z0D⟩) _ (by simp only[go_sem,hwe,hf1];try rfl) ?_;simp only[go_sem,hwe,hf1,hS0]<;>repeat' first|apply W6|exact on'|fail)
  all_goals rw[hno z0D hc]
 ·rw[hR,j5 z0D,b2z,V3 z0D];exact⟨rfl,rfl⟩
 ·rw[hR,j5 z0D,b2z,V5 z0D,V2,q0A];exact⟨rfl,rfl⟩
noncomputable def a9v:CT:=n9 (fun(x:c4×c6×c6×(List Int)×i5) h=>c2D x.1 x.2.1 x.2.2.1 x.2.2.2.1 x.2.2.2.2 h)
@[go_sem] def d5P:=fun x0 x1 x2 x3 x4 x5 x6=>nm' (fP' a9v rfl (⟨x0,x1⟩,⟨x2⟩,⟨x3⟩,x4,⟨x5,⟨x6⟩⟩))
set_option maxHeartbeats 40000000
noncomputable def c3X(p:c4)(s:c6)(sw:Int)(ports:List Int)(inn src dst:Int):List i3×Int:=bif (a0x p s&&a4n sw inn src dst)&&a5j ports then(bif (w6 p s).2==0 then a4d p s (z7 (w6 p s).1 (a8r sw inn src dst)) ports (a8r sw inn src dst)else([],(w6 p s).2))else([],1)
def d4B{p:c4}{s:c6}{inn:Int}{ports:List Int}(h:((a0x p s&&a4n sw inn src dst)&&a5j ports)=false):c3X p s sw ports inn src dst=([],1):=by rw[c3X,h];rfl
def a8y{p:c4}{s:c6}{inn:Int}{ports:List Int}(h:a0x p s=true/\a4n sw inn src dst=true)(hp:a5j ports=true):c3X p s sw ports inn src dst=bif (w6 p s).2==0 then a4d p s (z7 (w6 p s).1 (a8r sw inn src dst)) ports (a8r sw inn src dst)else([],(w6 p s).2):=by rw[c3X,h.1,h.2,hp];rfl
def c6p{p:c4}{s:c6}(h:a0x p s=true):j9 s=true:=by
 rw[a0x,W3,W3]at h;exact h.1.2
def b5r{p:c4}{s:c6}{inn:Int}(h:(a0x p s&&a4n sw inn src dst)=true):((a6r p s).2=true/\(w6 p s).1=(a6r p s).1/\(b8d p s sw inn src dst).2=bif (a1s p (z7 (w6 p s).1 (a8r sw inn src dst))).2 then 0 else 3)\/((a6r p s).2=false/\(b8d p s sw inn src dst).2=2/\(w6 p s).2=2):=by
 rw[W3]at h;rw[c7u h];cases ha:(a6r p s).2 with
 | true=>exact .inl ⟨rfl,by rw[w6,ha];rfl,rfl⟩
 | false=>
   have e:(w6 p s).2=2:=by rw[w6,ha];rfl
   exact .inr ⟨rfl,e,e⟩
def e1z{p:c4}{s:c6}{inn:Int}(h:((b8d p s sw inn src dst).2==1)=false):(a0x p s&&a4n sw inn src dst)=true:=by
 cases e:(a0x p s&&a4n sw inn src dst)with
 | true=>rfl
 | false=>rw[d6a e]at h;cases h
def for_out{p:c4}{s:c6}{inn:Int}(h:((b8d p s sw inn src dst).2==1)=true):(a0x p s&&a4n sw inn src dst)=false:=by
 cases e:(a0x p s&&a4n sw inn src dst)with
 | false=>rfl
 | true=>
   rcases b5r e with⟨_,_,h2⟩|⟨_,h2,_⟩
   ·rw[h2]at h;cases hf:(a1s p (z7 (w6 p s).1 (a8r sw inn src dst))).2<;>rw[hf]at h<;>cases h
   ·rw[h2]at h;cases h
def c1j{p:c4}{s:c6}{inn:Int}(h:((b8d p s sw inn src dst).2==1)=false)(h0:((b8d p s sw inn src dst).2 != 0)=false):(a0x p s=true/\a4n sw inn src dst=true)/\(w6 p s).1=(a6r p s).1/\((w6 p s).2==0)=true:=by
 have e:=e1z h;rcases b5r e with⟨h1,h2,h3⟩|⟨_,h2,_⟩
 ·exact⟨by rwa [W3]at e,h2,by rw[a9M,h1]⟩
 ·rw[h2]at h0;cases h0
def b1M(p:c4)(s:c6)(sw:Int)(ports:List Int)(inn:Int)(src:Int)(dst:Int):spZ 10 [(true,[p6 p.Decls,o9 p.Rules]),(true,[j7 s.Rels]),(false,[.i .i64 sw]),(false,[a4h ports]),(false,[.i .i64 inn]),(false,[.i .i64 src]),(false,[.i .i64 dst])] [] (.tup [(false,[d6h ((c3X p s sw ports inn src dst).1)]),(false,[.i .i64 ((c3X p s sw ports inn src dst).2)])]):=by
 refine sy' Tryz.func10 (q' 7 [aX 2 0,aX 1 1,ax (o' 14 (.mov (.k (.v false [.nl a3Q])))),az 15 0] (.seq (q' 18 [ae 2 7,ae 1 8,ac 31 [18,19],aO 20,am 21,aH 22 false [bm 2,bc 32 [23],bO 24],aQ 22 25,am 26,aH 27 false [bm 5,bc 32 [28],bO 29],aQ 27 30,am 31,aH 32 false [bm 6,bc 32 [33],bO 34],aQ 32 35,am 36,aH 37 false [bm 4,bc 33 [38],bO 39],aQ 37 40,am 41,aH 42 false [bm 3,bc 34 [43],bO 44],aQ 42 45] (ci 46 (q' 14 [ao (.mov (.k (.v false [.nl a3Q]))),aK 1] .ret))) (q' 48 [ae 2 7,ae 1 8,ac 35 [48,49],aV 47,aZ 47 0,aZ 47 1,ax (w' 16 [.sl o0]),aS 1 16 51,aV 17] (.seq (q' 53 [am 17,aC .neq 53 0] (ci 54 (q' 14 [av 55 17,ao (.mov (.k (.v false [.nl a3Q]))),am 55] .ret))) (.seq (rm' [(true,0,e' 56 2 7),(true,1,e' 57 1 8),(true,2,e' 58 1 16),(true,3,m' 59 3),(true,4,m' 60 2),(true,5,m' 61 4),(true, 6,m' 62 5),(false,7,m' 63 6),(false,8,c' 64 37 [60,61,62,63]),(false,9,c' 65 36 [56,57,58,59,64]),(false,10,o' 66 (.ext (.t 65) 0)), (false,11,o' 67 (.ext (.t 65) 1)),(false,12,m' 14 66),(false,13,m' 15 67)] [[0,1,2,3,4,5,6,7,8,9,11,10,12,13]] [14,15,16,17,32,33]) .ret))))) [.t 14,.t 15] [(31,[],a8J),(32,[],a3U),(33,[],a3q),(34,[],a8H),(35,[],a7D),(37,[],a4L),(36,[],a8L)] ?_;intro hb hE;simp only[go_sem];(repeat' first|apply cj'|intro hc|apply a0o);(all_goals(try((first|refine a0V 7 rfl ?_);intro S hS B0 hB;simp only[go_sem,z0B]at hS hB;(repeat(first|replace hS:=And.right hS|replace hS:=CJ.r hS));have Rr6:=congrArg (fun s:St=>s.sl 6) hS;have Rr56:=congrArg (fun s:St=>s.sl 56) hS;have Rr57:=congrArg (fun s:St=>s.sl 57) hS;have Rr58:=congrArg (fun s:St=>s.sl 58) hS;have Rr59:=congrArg (fun s:St=>s.sl 59) hS;have Rr60:=congrArg (fun s:St=>s.sl 60) hS;have Rr61:=congrArg (fun s:St=>s.sl 61) hS;have Rr62:=congrArg (fun s:St=>s.sl 62) hS;have Rb14:=congrArg (fun s:St=>s.bx 14) hS;have Rb15:=congrArg (fun s:St=>s.bx 15) hS;have Rb16:=congrArg (fun s:St=>s.bx 16) hS;have Rb17:=congrArg (fun s:St=>s.bx 17) hS;have Rb32:=congrArg (fun s:St=>s.bx 32) hS;have Rb33:=congrArg (fun s:St=>s.bx 33) hS;clear hS;simp only[go_sem]at Rr6 Rr56 Rr57 Rr58 Rr59 Rr60 Rr61 Rr62 Rb14 Rb15 Rb16 Rb17 Rb32 Rb33;(try clear hc);intro K hc;simp only[go_sem,Rr6,Rr56,Rr57,Rr58,Rr59,Rr60,Rr61,Rr62,Rb14,Rb15,Rb16,Rb17,Rb32,Rb33,hB,K6]at hc ⊢;simp only[go_sem,Rr6,Rr56,Rr57,Rr58,Rr59,Rr60,Rr61,Rr62,Rb14,Rb15,Rb16,Rb17,Rb32,Rb33,hB,K0,a7v,a5i,a7u,a9G,a6j,a9F,a6i]at hc ⊢;simp only[d2a]at hc ⊢;(first|(simp only[hc,K5];done)|((repeat' first|exact hc|apply W6);done)))));all_goals try exact om'
 ·rw[d4B (by
   rcases hc with h|h
   ·rw[arg_bad h];rfl
   ·rw[h,q2B])];exact⟨rfl,rfl⟩
 ·exact a2l (b1B hc.1).1
 ·rename_i h;rw[a8y (b1B h.1) h.2,show((w6 p s).2==0)=false by simpa[bne]using hc];exact⟨rfl,rfl⟩
 ·rename_i h;have hk:=b1B h.1;have hR:=a2l hk.1;have hc2:=b3n hR.1 hR.2;exact⟨⟨⟨⟨⟨hR.1,c6p hk.1⟩,b3W hk.1 hk.2⟩,a2q hc2⟩,(b4f hc2).1⟩,rfl⟩
 ·rename_i h;rw[a8y (b1B h.1) h.2,show((w6 p s).2==0)=true by simpa[bne]using hc];exact⟨rfl,rfl⟩
noncomputable def a4G:CT:=l4 (fun(x:c4×c6×Int×(List Int)×Int×Int×Int)=>b1M x.1 x.2.1 x.2.2.1 x.2.2.2.1 x.2.2.2.2.1 x.2.2.2.2.2.1 x.2.2.2.2.2.2)
@[go_sem] def c8D:=fun x0 x1 x2 sw x3 x4 x5 x6=>nm' (fQ' a4G rfl (⟨x0,x1⟩,⟨x2⟩,sw,x3,x4,x5,x6))
def b1R(p:c4)(s:c6)(sw:Int)(ports:List Int)(inn:Int)(src:Int)(dst:Int):spZ 6 [(true,[p6 p.Decls,o9 p.Rules]),(true,[j7 s.Rels]),(false,[.i .i64 sw]),(false,[a4h ports]),(false,[.i .i64 inn]),(false,[.i .i64 src]),(false,[.i .i64 dst])] [] (.tup [(false,[d0q ((c3X p s sw ports inn src dst).1)]),(false,[.i .i64 ((c3X p s sw ports inn src dst).2)])]):=by
 refine sx' false true none Tryz.func6 (q' 7 [aX 2 0,aX 1 1,ax (o' 14 (.mov (.k (.v false [.nl a3Q])))),az 15 0] (q' 21 [ae 2 7,ae 1 8,aM [2,4,5,6],ac 23 [21,22,23,24,25,26],aV 20,aZ 20 0,aZ 20 1,av 16 28,aV 17] (.seq (q' 30 [am 17,aC .eql 30 1,am 31,aH 32 false [bm 3,bc 24 [33],bO 34],aQ 32 35] (ci 36 (q' 14 [ao (.mov (.k (.v false [.nl a3Q]))),aK 1] .ret))) (.seq (q' 37 [am 17,aC .neq 37 0] (ci 38 (q' 14 [av 39 17,ao (.mov (.k (.v false [.nl a3Q]))),am 39] .ret))) (q' 41 [ae 2 7,ae 1 8,ac 25 [41,42],aV 40,aZ 40 0,aZ 40 1,ax (w' 18 [.sl o0]),aS 1 18 44,aV 19] (.seq (rm' [(true,0,e' 46 2 7),(true,1,e' 47 1 8),(true,2,e' 48 1 18),(true,3, m' 49 3),(true,4,m' 50 2),(true,5,m' 51 4),(true,6,m' 52 5),(false,7,m' 53 6),(false,8,c' 54 27 [50,51,52,53]),(false,9,c' 55 26 [46,47, 48,49,54]),(false,10,o' 56 (.ext (.t 55) 0)),(false,11,o' 57 (.ext (.t 55) 1)),(false,12,m' 14 56),(false,13,m' 15 57)] [[0,1,2,3,4,5,6, 7,8,9,11,10,12,13]] [14,15,16,17,36,37]) .ret)))))) [.t 14,.t 15] [(23,[],a9l),(24,[],a9n),(25,[],a6e),(27,[],a3e),(26,[],a9v)] ?_;intro hb hE;simp only[go_sem];(repeat' first|apply cj'|intro hc|apply a0o);(all_goals(try((first|refine a0V 7 rfl ?_);intro S hS B0 hB;simp only[go_sem,z0B]at hS hB;(repeat(first|replace hS:=And.right hS|replace hS:=CJ.r hS));have Rr6:=congrArg (fun s:St=>s.sl 6) hS;have Rr46:=congrArg (fun s:St=>s.sl 46) hS;have Rr47:=congrArg (fun s:St=>s.sl 47) hS;have Rr48:=congrArg (fun s:St=>s.sl 48) hS;have Rr49:=congrArg (fun s:St=>s.sl 49) hS;have Rr50:=congrArg (fun s:St=>s.sl 50) hS;have Rr51:=congrArg (fun s:St=>s.sl 51) hS;have Rr52:=congrArg (fun s:St=>s.sl 52) hS;have Rb14:=congrArg (fun s:St=>s.bx 14) hS;have Rb15:=congrArg (fun s:St=>s.bx 15) hS;have Rb16:=congrArg (fun s:St=>s.bx 16) hS;have Rb17:=congrArg (fun s:St=>s.bx 17) hS;have Rb36:=congrArg (fun s:St=>s.bx 36) hS;have Rb37:=congrArg (fun s:St=>s.bx 37) hS;clear hS;simp only[go_sem]at Rr6 Rr46 Rr47 Rr48 Rr49 Rr50 Rr51 Rr52 Rb14 Rb15 Rb16 Rb17 Rb36 Rb37;(try clear hc);intro K hc;simp only[go_sem,Rr6,Rr46,Rr47,Rr48,Rr49,Rr50,Rr51,Rr52,Rb14,Rb15,Rb16,Rb17,Rb36,Rb37,hB,K6]at hc ⊢;simp only[go_sem,Rr6,Rr46,Rr47,Rr48,Rr49,Rr50,Rr51,Rr52,Rb14,Rb15,Rb16,Rb17,Rb36,Rb37,hB,K0,a7v,a5i,a7u,a9G,a6j,a9F,a6i]at hc ⊢;simp only[d2a]at hc ⊢;(first|(simp only[hc,K5];done)|((repeat' first|exact hc|apply W6);done)))));all_goals try exact om'
 ·rw[d4B (by
   rcases hc with h|h
   ·rw[for_out h];rfl
   ·rw[h,q2B])];exact⟨rfl,rfl⟩
 ·rename_i h;have e:=e1z h.1;have e2:=e;rw[W3]at e2;rcases b5r e with⟨h1,_,h3⟩|⟨h1,h2,h3⟩
  ·cases hf:(a1s p (z7 (w6 p s).1 (a8r sw inn src dst))).2 with
   | true=>rw[h3,hf]at hc;cases hc
   | false=>rw[a8y e2 h.2,a9M,h1,h3,hf,a4d,hf];exact⟨rfl,rfl⟩
  ·rw[a8y e2 h.2,a9M,h1,h2,V2,h3];exact⟨rfl,rfl⟩
 ·rename_i h;exact a2l (c1j h.1 hc).1.1
 ·rename_i h;obtain⟨hk,he,_⟩:=c1j h.1 hc;have hR:=a2l hk.1;have hc2:=b3n hR.1 hR.2;rw[<-he];exact⟨⟨⟨⟨hR.1,c6p hk.1⟩,b3W hk.1 hk.2⟩,b4f hc2⟩,rfl⟩
 ·rename_i h;obtain⟨hk,he,h0⟩:=c1j h.1 hc;rw[a8y hk h.2,h0,<-he];exact⟨rfl,rfl⟩
noncomputable def a4Q:CT:=l4 (fun(x:c4×c6×Int×(List Int)×Int×Int×Int)=>b1R x.1 x.2.1 x.2.2.1 x.2.2.2.1 x.2.2.2.2.1 x.2.2.2.2.2.1 x.2.2.2.2.2.2)
@[go_sem] def c8L:=fun x0 x1 x2 sw x3 x4 x5 x6=>nm' (fQ' a4Q rfl (⟨x0,x1⟩,⟨x2⟩,sw,x3,x4,x5,x6))
end Go.Aw
namespace Go.Aw
set_option maxHeartbeats 4000000
open Go.Proofs
attribute [local irreducible] aft blk lpK retK AW A0e
set_option linter.all false
set_option maxRecDepth 100000
def a1v(x:d8):Nat:=x.S.length
def c2g(a:d8)(left:Int)(hpre:0<=left/\left<=1048576):spZ 240 [(true,[.i .i64 a.N,.s a.S]),(false,[.i .i64 left])] [] (.one (false,[.i .i64 (szR left (a1v a:Nat))])):=by
 refine sy' Tryz.func240 (q' 2 [aX 2 0,az 4 0] (q' 5 [am 1,aG 1 2,ao (.lens (.t 7)),aD .sub 5 8,aV 1] (.seq (q' 10 [am 1,aC .lss 10 0] (ci 11 (q' 4 [ao (.mov (.k (.v false [.c (.i .i64 (-1))])))] .ret))) (q' 12 [am 1,aV 4] .ret)))) [.t 4] [] ?_;intro hb hE;simp only[go_sem];repeat' first|apply cj'|intro hc|exact om'|fail
 all_goals((repeat(simp(disch:=omega) only[a0U]at*))<;>(try simp only[szR,a1v]at*)<;>(first|omega|(split<;>omega)))
noncomputable def a4O:CT:=n9 (fun(x:d8×Int) h=>c2g x.1 x.2 h)
@[go_sem] def d5s:=fun x0 x1 x2=>nm' (fP' a4O rfl (⟨x0,x1⟩,x2))
def c2m(a:d8):spZ 254 [(true,[.i .i64 a.N,.s a.S])] [] (.one (true,[.i .i64 a.N,.s a.S])):=by
 refine sx' true false none Tryz.func254 (q' 1 [aX 2 0,aw [.i .i64,.s]] (q' 3 [aw [.i .i64,.s]] (q' 4 [aG 0 1,af 0 3,aS 1 6 5] (q' 7 [aG 1 1,af 1 3,aS 1 9 8] (q' 10 [ae 2 3,aS 2 2 10] .ret))))) [.c 2 true 2] [] ?_;intro hb hE;simp only[go_sem];repeat' first|apply cj'|intro hc|exact om'|fail
noncomputable def a4P:CT:=l4 (fun(x:d8)=>c2m x)
@[go_sem] def d5y:=fun x0 x1=>nm' (fQ' a4P rfl ⟨x0,x1⟩)
def c2a(a:d8)(b:d8):spZ 308 [(true,[.i .i64 a.N,.s a.S]),(true,[.i .i64 b.N,.s b.S])] [] (.one (false,[.b (decide (a=b))])):=by
 refine sy' Tryz.func308 (q' 2 [aX 2 0,aX 2 1,aU false] (.seq (q' 5 [aG 0 2,aG 0 3,aD .neq 6 8] (ci 9 (q' 4 [aU false] .ret))) (.seq (q' 10 [aG 1 2,aG 1 3,aD .neq 11 13] (ci 14 (q' 4 [aU false] .ret))) (q' 4 [aU true] .ret)))) [.t 4] [] ?_;intro hb hE;simp only[go_sem];repeat' first|apply cj'|intro hc|exact om'|fail
 all_goals(cases a;cases b;simp_all)
noncomputable def a4M:CT:=l4 (fun(x:d8×d8)=>c2a x.1 x.2)
@[go_sem] def d5m:=fun x0 x1 x2 x3=>nm' (fQ' a4M rfl (⟨x0,x1⟩,⟨x2,x3⟩))
def a2b(x:d9):Nat:=x.Var.length+a1v x.Val
def c4R(a:d9)(left:Int)(hpre:0<=left/\left<=1048576):spZ 177 [(true,[.s a.Var,.i .i64 a.Val.N,.s a.Val.S]),(false,[.i .i64 left])] [] (.one (false,[.i .i64 (szR left (a2b a:Nat))])):=by
 refine sy' Tryz.func177 (q' 2 [aX 3 0,az 4 0] (q' 5 [am 1,aG 0 2,ao (.lens (.t 7)),aD .sub 5 8,aV 1] (.seq (q' 10 [am 1,aC .lss 10 0] (ci 11 (q' 4 [ao (.mov (.k (.v false [.c (.i .i64 (-1))])))] .ret))) (q' 12 [af 1 2,aE 2,am 1,ac 240 [13,14],aV 1] (.seq (q' 16 [am 1,aC .lss 16 0] (ci 17 (q' 4 [ao (.mov (.k (.v false [.c (.i .i64 (-1))])))] .ret))) (q' 18 [am 1,aV 4] .ret)))))) [.t 4] [(240,[],a4O)] ?_;intro hb hE;simp only[go_sem];repeat' first|apply cj'|intro hc|exact om'|fail
 all_goals((repeat(simp(disch:=omega) only[a0U]at*))<;>(try simp only[szR,a2b]at*)<;>(first|omega|(split<;>omega)))
noncomputable def a5X:CT:=n9 (fun(x:d9×Int) h=>c4R x.1 x.2 h)
@[go_sem] def d8c:=fun x0 x1 x2 x3=>nm' (fP' a5X rfl (⟨x0,⟨x1,x2⟩⟩,x3))
def c2f(a:List d9)(left:Int)(hpre:0<=left/\left<=1048576):spZ 124 [(false,[o6 a]),(false,[.i .i64 left])] [] (.one (false,[.i .i64 (szR left ((a.length+p8 a2b a):Nat))])):=by
 refine sy' Tryz.func124 (q' 4 [aK 0] (q' 6 [aM [1,0],aN,aD .sub 6 8,aV 1] (.seq (q' 10 [am 1,aC .lss 10 0] (ci 11 (q' 4 [ao (.mov (.k (.v false [.c (.i .i64 (-1))])))] .ret))) (.seq (q' 5 [aK 0] (fo 0 12 [aM [5,0],aN,ar 12 14] 15 1 (q' 18 [aM [0,5],aI 3,aE 3,am 1,ac 177 [21,22],aV 1] (q' 24 [am 1,aC .lss 24 0] (ci 25 (q' 4 [ao (.mov (.k (.v false [.c (.i .i64 (-1))])))] .ret)))) (g' 16 [aB 5]))) (q' 26 [am 1,aV 4] .ret))))) [.t 4] [(177,[],a5X)] ?_;intro hb hE;simp only[go_sem];repeat' first|apply cj'|intro hc|exact om'|fail
 ·all_goals((repeat(simp(disch:=omega) only[a0U]at*))<;>(try simp only[szR,szR]at*)<;>(first|omega|(split<;>omega)))
 have hw:=a0U (l:=left) (n:=a.length) z0D z0D z0D z0D;rw[hw]at hc;refine lq' false [0] [] [] (fun i:{i:Nat // i<=a.length/\(a.length:Int)+(p8 a2b (a.take i):Nat)<=left}=>[(5,slV (.i .i64 i.1)),(1,slV (.i .i64 (left-a.length-(p8 a2b (a.take i.1):Nat))))]) nl' nl' (fun i=>a.length-i.1) (⟨0,z06⟩) ?_;intro S0 hS0 i;obtain⟨i,hi,ht⟩:=i;simp only[go_sem,hw,hS0];repeat' first|apply cj'|intro hc|exact om'|fail
 ·have h1:=s9 a2b (default:d9) (show i<a.length by omega);have h2:=a0m a2b a (i+1);all_goals((repeat(simp(disch:=omega) only[a0U]at*))<;>(try simp only[szR,szR]at*)<;>(first|omega|(split<;>omega)))
 ·have h1:=s9 a2b (default:d9) (show i<a.length by omega)
  (refine lpK_n2 (⟨i+1,z0D,z0R⟩) _ rfl ?_;simp only[go_sem,hw,hS0]<;>repeat' first|apply W6|exact on'|fail)
  rw[h1];unfold szR at hc ⊢;split at hc<;>omega
 ·have h1:=a1W a2b (show¬i<a.length by omega);all_goals((repeat(simp(disch:=omega) only[a0U]at*))<;>(try simp only[szR,szR]at*)<;>(first|omega|(split<;>omega)))
 all_goals all_goals((repeat(simp(disch:=omega) only[a0U]at*))<;>(try simp only[szR,szR]at*)<;>(first|omega|(split<;>omega)))
noncomputable def a9f:CT:=n9 (fun(x:(List d9)×Int) h=>c2f x.1 x.2 h)
@[go_sem] def d5r:=fun a x0=>nm' (fP' a9f rfl (a,x0))
def c4Y(a:d9):spZ 194 [(true,[.s a.Var,.i .i64 a.Val.N,.s a.Val.S])] [] (.one (true,[.s a.Var,.i .i64 a.Val.N,.s a.Val.S])):=by
 refine sx' true false none Tryz.func194 (q' 1 [aX 3 0,aw [.s,.i .i64,.s]] (q' 3 [aw [.s,.i .i64,.s]] (q' 4 [aG 0 1,af 0 3,aS 1 6 5] (q' 7 [af 1 1,aE 2,ac 254 [8],af 1 3,aS 2 10 9] (q' 11 [ae 3 3,aS 3 2 11] .ret))))) [.c 2 true 3] [(254,[],a4P)] ?_;intro hb hE;simp only[go_sem];repeat' first|apply cj'|intro hc|exact om'|fail
noncomputable def a5Z:CT:=l4 (fun(x:d9)=>c4Y x)
@[go_sem] def d8j:=fun x0 x1 x2=>nm' (fQ' a5Z rfl ⟨x0,⟨x1,x2⟩⟩)
def c2l(a:List d9)(hpre:(((a.length+p8 a2b a):Nat):Int)<=1048576):spZ 137 [(false,[o6 a])] [] (.one (false,[b5x a])):=by
 refine sx' true false none Tryz.func137 (q' 2 [ao (.mov (.k (.v false [.nl k9])))] (q' 5 [am 0,aN,ao (.mks 3 40 [.s,.i .i64,.s] (.t 6) (.t 6)),aV 3] (.seq (q' 4 [aK 0] (fo 0 8 [aM [4,0],aN,ar 8 10] 11 1 (g' 14 [aM [3,4,0,4],aI 3,aE 3,ac 194 [19],ai 3 14 15,aS 3 21 20]) (g' 12 [aB 4]))) (q' 22 [am 3,aV 2] .ret)))) [.t 2] [(194,[],a5Z)] ?_;intro hb hE;simp only[go_sem,b4o];repeat' first|apply cj'|intro hc|exact om'|fail
 refine lq' true [0,3] [] [] (fun i:{p:Nat×(List d9) // p.1<=a.length/\p.2.length=a.length/\p.2.take p.1=a.take p.1}=>[(4,slV (.i .i64 i.1.1))]) nl' (fun i=>[(896,k9,i.1.2.map d9.cells)]) (fun i=>a.length-i.1.1) (⟨(0,List.replicate a.length default),z0E⟩) ?_;intro S0 hS0 i;obtain⟨⟨i,L⟩,hi,hl,ht⟩:=i;simp only at hi hl ht;simp only[go_sem,b4o,hS0];repeat' first|apply cj'|intro hc|exact om'|fail
 ·(refine lpK_n2 (⟨(i+1,L.set i (a.getD i default)),z0G,z1F,z6 hl ht z0D⟩) _ rfl ?_;simp only[go_sem,b4o,hS0]<;>repeat' first|apply W6|exact on'|fail)
 ·obtain rfl:=w7 hl ht z0D;rfl
noncomputable def a9k:CT:=n9 (fun(x:(List d9)) h=>c2l x h)
@[go_sem] def d5x:=fun a=>nm' (fP' a9k rfl a)
def c4L(a:d9)(b:d9):spZ 238 [(true,[.s a.Var,.i .i64 a.Val.N,.s a.Val.S]),(true,[.s b.Var,.i .i64 b.Val.N,.s b.Val.S])] [] (.one (false,[.b (decide (a=b))])):=by
 refine sy' Tryz.func238 (q' 2 [aX 3 0,aX 3 1,aU false] (.seq (q' 5 [aG 0 2,aG 0 3,aD .neq 6 8] (ci 9 (q' 4 [aU false] .ret))) (.seq (q' 10 [af 1 2,aE 2,af 1 3,aE 2,ac 308 [11,13],aO 14] (ci 15 (q' 4 [aU false] .ret))) (q' 4 [aU true] .ret)))) [.t 4] [(308,[],a4M)] ?_;intro hb hE;simp only[go_sem];repeat' first|apply cj'|intro hc|exact om'|fail
 all_goals(cases a;cases b;simp_all)
noncomputable def a5V:CT:=l4 (fun(x:d9×d9)=>c4L x.1 x.2)
@[go_sem] def d7W:=fun x0 x1 x2 x3 x4 x5=>nm' (fQ' a5V rfl (⟨x0,⟨x1,x2⟩⟩,⟨x3,⟨x4,x5⟩⟩))
def c1Z(a:List d9)(b:List d9):spZ 174 [(false,[o6 a]),(false,[o6 b])] [] (.one (false,[.b (decide (a=b))])):=by
 refine sy' Tryz.func174 (q' 4 [aU false] (.seq (q' 6 [am 0,aN,am 1,aN,aD .neq 7 9] (ci 10 (q' 4 [aU false] .ret))) (.seq (q' 5 [aK 0] (fo 0 11 [aM [5,0],aN,ar 11 13] 14 1 (.seq (G' 17 [aM [0,5],aI 3,aE 3,aM [1,5],aI 3,aE 3,ac 238 [20,24],aO 25]) (ci 26 (q' 4 [aU false] .ret))) (g' 15 [aB 5]))) (q' 4 [aU true] .ret)))) [.t 4] [(238,[],a5V)] ?_;intro hb hE;simp only[go_sem];repeat' first|apply cj'|intro hc|exact om'|fail
 ·symm;rw[q1E];rintro rfl;simp at hc
 have hl:a.length=b.length:=by simpa[q3H]using hc
 refine lq' false [0,1] [] [] (fun i:{i:Nat // i<=a.length/\a.take i=b.take i}=>[(5,slV (.i .i64 i.1))]) nl' nl' (fun i=>a.length-i.1) (⟨0,z0E⟩) ?_;intro S0 hS0 i;obtain⟨i,hi,ht⟩:=i;simp only[go_sem,hS0];repeat' first|apply cj'|intro hc|exact om'|fail
 ·exact(V5 (a1p default (i:=i) z0O)).symm
 ·exact nx0 ⟨i+1,z0D,a0Q ht z0D z0D (d:=default) z0O⟩
 ·exact(V3 (w7 hl ht z0D)).symm
noncomputable def a9a:CT:=l4 (fun(x:(List d9)×(List d9))=>c1Z x.1 x.2)
@[go_sem] def d5l:=fun a b=>nm' (fQ' a9a rfl (a,b))
def b8t(a:List d8)(b:List d8):spZ 309 [(false,[l9 a]),(false,[l9 b])] [] (.one (false,[.b (decide (a=b))])):=by
 refine sy' Tryz.func309 (q' 4 [aU false] (.seq (q' 6 [am 0,aN,am 1,aN,aD .neq 7 9] (ci 10 (q' 4 [aU false] .ret))) (.seq (q' 5 [aK 0] (fo 0 11 [aM [5,0],aN,ar 11 13] 14 1 (.seq (G' 17 [aM [0,5],aI 2,aE 2,aM [1,5],aI 2,aE 2,ac 308 [20,24],aO 25]) (ci 26 (q' 4 [aU false] .ret))) (g' 15 [aB 5]))) (q' 4 [aU true] .ret)))) [.t 4] [(308,[],a4M)] ?_;intro hb hE;simp only[go_sem];repeat' first|apply cj'|intro hc|exact om'|fail
 ·symm;rw[q1E];rintro rfl;simp at hc
 have hl:a.length=b.length:=by simpa[q3H]using hc
 refine lq' false [0,1] [] [] (fun i:{i:Nat // i<=a.length/\a.take i=b.take i}=>[(5,slV (.i .i64 i.1))]) nl' nl' (fun i=>a.length-i.1) (⟨0,z0E⟩) ?_;intro S0 hS0 i;obtain⟨i,hi,ht⟩:=i;simp only[go_sem,hS0];repeat' first|apply cj'|intro hc|exact om'|fail
 ·exact(V5 (a1p default (i:=i) z0O)).symm
 ·exact nx0 ⟨i+1,z0D,a0Q ht z0D z0D (d:=default) z0O⟩
 ·exact(V3 (w7 hl ht z0D)).symm
noncomputable def a7K:CT:=l4 (fun(x:(List d8)×(List d8))=>b8t x.1 x.2)
@[go_sem] def d3i:=fun a b=>nm' (fQ' a7K rfl (a,b))
def c8a(a:c7)(b:c7):spZ 239 [(true,[l9 a.V]),(true,[l9 b.V])] [] (.one (false,[.b (decide (a=b))])):=by
 refine sy' Tryz.func239 (q' 2 [aX 1 0,aX 1 1,aU false] (.seq (q' 5 [aG 0 2,aG 0 3,ac 309 [6,8],aO 9] (ci 10 (q' 4 [aU false] .ret))) (q' 4 [aU true] .ret))) [.t 4] [(309,[],a7K)] ?_;intro hb hE;simp only[go_sem];repeat' first|apply cj'|intro hc|exact om'|fail
 all_goals(cases a;cases b;simp_all)
noncomputable def b2Z:CT:=l4 (fun(x:c7×c7)=>c8a x.1 x.2)
@[go_sem] def d9V:=fun x0 x1=>nm' (fQ' b2Z rfl (⟨x0⟩,⟨x1⟩))
def a5H(x:f9):Nat:=x.Name.length+(x.Args.length+p8 a2b x.Args)
def a1U(x:e8):Nat:=a5H x.Atom+a2b x.A+a2b x.B
def a1b(x:c8):Nat:=a5H x.Head+(x.Body.length+p8 a1U x.Body)
def a2T(x:f7):Nat:=x.Name.length
def a3n(x:c4):Nat:=(x.Decls.length+p8 a2T x.Decls)+(x.Rules.length+p8 a1b x.Rules)
def c4M(a:f9)(left:Int)(hpre:0<=left/\left<=1048576):spZ 77 [(true,[.s a.Name,o6 a.Args]),(false,[.i .i64 left])] [] (.one (false,[.i .i64 (szR left (a5H a:Nat))])):=by
 refine sy' Tryz.func77 (q' 2 [aX 2 0,az 4 0] (q' 5 [am 1,aG 0 2,ao (.lens (.t 7)),aD .sub 5 8,aV 1] (.seq (q' 10 [am 1,aC .lss 10 0] (ci 11 (q' 4 [ao (.mov (.k (.v false [.c (.i .i64 (-1))])))] .ret))) (q' 12 [aG 1 2,am 1,ac 124 [13,14],aV 1] (.seq (q' 16 [am 1,aC .lss 16 0] (ci 17 (q' 4 [ao (.mov (.k (.v false [.c (.i .i64 (-1))])))] .ret))) (q' 18 [am 1,aV 4] .ret)))))) [.t 4] [(124,[],a9f)] ?_;intro hb hE;simp only[go_sem];repeat' first|apply cj'|intro hc|exact om'|fail
 all_goals((repeat(simp(disch:=omega) only[a0U]at*))<;>(try simp only[szR,a5H]at*)<;>(first|omega|(split<;>omega)))
noncomputable def a5W:CT:=n9 (fun(x:f9×Int) h=>c4M x.1 x.2 h)
@[go_sem] def d7X:=fun x0 x1 x2=>nm' (fP' a5W rfl (⟨x0,x1⟩,x2))
def c8b(a:e8)(left:Int)(hpre:0<=left/\left<=1048576):spZ 125 [(true,[.i .i64 a.Kind,.s a.Atom.Name,o6 a.Atom.Args,.i .i64 a.Op,.s a.A.Var,.i .i64 a.A.Val.N,.s a.A.Val.S,.s a.B.Var,.i .i64 a.B.Val.N,.s a.B.Val.S]),(false,[.i .i64 left])] [] (.one (false,[.i .i64 (szR left (a1U a:Nat))])):=by
 refine sy' Tryz.func125 (q' 2 [aX 10 0,az 4 0] (q' 5 [af 1 2,aE 2,am 1,ac 77 [6,7],aV 1] (.seq (q' 9 [am 1,aC .lss 9 0] (ci 10 (q' 4 [ao (.mov (.k (.v false [.c (.i .i64 (-1))])))] .ret))) (q' 11 [af 4 2,aE 3,am 1,ac 177 [12,13],aV 1] (.seq (q' 15 [am 1,aC .lss 15 0] (ci 16 (q' 4 [ao (.mov (.k (.v false [.c (.i .i64 (-1))])))] .ret))) (q' 17 [af 7 2,aE 3,am 1,ac 177 [18,19],aV 1] (.seq (q' 21 [am 1,aC .lss 21 0] (ci 22 (q' 4 [ao (.mov (.k (.v false [.c (.i .i64 (-1))])))] .ret))) (q' 23 [am 1,aV 4] .ret)))))))) [.t 4] [(77,[],a5W),(177,[],a5X)] ?_;intro hb hE;simp only[go_sem];repeat' first|apply cj'|intro hc|exact om'|fail
 all_goals((repeat(simp(disch:=omega) only[a0U]at*))<;>(try simp only[szR,a1U]at*)<;>(first|omega|(split<;>omega)))
noncomputable def b3a:CT:=n9 (fun(x:e8×Int) h=>c8b x.1 x.2 h)
@[go_sem] def d9W:=fun x0 x1 x2 x3 x4 x5 x6 x7 x8 x9 x10=>nm' (fP' b3a rfl (⟨x0,⟨x1,x2⟩,x3,⟨x4,⟨x5,x6⟩⟩,⟨x7,⟨x8,x9⟩⟩⟩,x10))
def c4O(a:List e8)(left:Int)(hpre:0<=left/\left<=1048576):spZ 78 [(false,[a0s a]),(false,[.i .i64 left])] [] (.one (false,[.i .i64 (szR left ((a.length+p8 a1U a):Nat))])):=by
 refine sy' Tryz.func78 (q' 4 [aK 0] (q' 6 [aM [1,0],aN,aD .sub 6 8,aV 1] (.seq (q' 10 [am 1,aC .lss 10 0] (ci 11 (q' 4 [ao (.mov (.k (.v false [.c (.i .i64 (-1))])))] .ret))) (.seq (q' 5 [aK 0] (fo 0 12 [aM [5,0],aN,ar 12 14] 15 1 (q' 18 [aM [0,5],aI 10,aE 10,am 1,ac 125 [21,22],aV 1] (q' 24 [am 1,aC .lss 24 0] (ci 25 (q' 4 [ao (.mov (.k (.v false [.c (.i .i64 (-1))])))] .ret)))) (g' 16 [aB 5]))) (q' 26 [am 1,aV 4] .ret))))) [.t 4] [(125,[],b3a)] ?_;intro hb hE;simp only[go_sem];repeat' first|apply cj'|intro hc|exact om'|fail
 ·all_goals((repeat(simp(disch:=omega) only[a0U]at*))<;>(try simp only[szR,szR]at*)<;>(first|omega|(split<;>omega)))
 have hw:=a0U (l:=left) (n:=a.length) z0D z0D z0D z0D;rw[hw]at hc;refine lq' false [0] [] [] (fun i:{i:Nat // i<=a.length/\(a.length:Int)+(p8 a1U (a.take i):Nat)<=left}=>[(5,slV (.i .i64 i.1)),(1,slV (.i .i64 (left-a.length-(p8 a1U (a.take i.1):Nat))))]) nl' nl' (fun i=>a.length-i.1) (⟨0,z06⟩) ?_;intro S0 hS0 i;obtain⟨i,hi,ht⟩:=i;simp only[go_sem,hw,hS0];repeat' first|apply cj'|intro hc|exact om'|fail
 ·have h1:=s9 a1U (default:e8) (show i<a.length by omega);have h2:=a0m a1U a (i+1);all_goals((repeat(simp(disch:=omega) only[a0U]at*))<;>(try simp only[szR,szR]at*)<;>(first|omega|(split<;>omega)))
 ·have h1:=s9 a1U (default:e8) (show i<a.length by omega)
  (refine lpK_n2 (⟨i+1,z0D,z0R⟩) _ rfl ?_;simp only[go_sem,hw,hS0]<;>repeat' first|apply W6|exact on'|fail)
  rw[h1];unfold szR at hc ⊢;split at hc<;>omega
 ·have h1:=a1W a1U (show¬i<a.length by omega);all_goals((repeat(simp(disch:=omega) only[a0U]at*))<;>(try simp only[szR,szR]at*)<;>(first|omega|(split<;>omega)))
 all_goals all_goals((repeat(simp(disch:=omega) only[a0U]at*))<;>(try simp only[szR,szR]at*)<;>(first|omega|(split<;>omega)))
noncomputable def b0J:CT:=n9 (fun(x:(List e8)×Int) h=>c4O x.1 x.2 h)
@[go_sem] def d7Z:=fun a x0=>nm' (fP' b0J rfl (a,x0))
def c4Q(a:c8)(left:Int)(hpre:0<=left/\left<=1048576):spZ 46 [(true,[.i .i64 a.Kind,.s a.Head.Name,o6 a.Head.Args,a0s a.Body]),(false,[.i .i64 left])] [] (.one (false,[.i .i64 (szR left (a1b a:Nat))])):=by
 refine sy' Tryz.func46 (q' 2 [aX 4 0,az 4 0] (q' 5 [af 1 2,aE 2,am 1,ac 77 [6,7],aV 1] (.seq (q' 9 [am 1,aC .lss 9 0] (ci 10 (q' 4 [ao (.mov (.k (.v false [.c (.i .i64 (-1))])))] .ret))) (q' 11 [aG 3 2,am 1,ac 78 [12,13],aV 1] (.seq (q' 15 [am 1,aC .lss 15 0] (ci 16 (q' 4 [ao (.mov (.k (.v false [.c (.i .i64 (-1))])))] .ret))) (q' 17 [am 1,aV 4] .ret)))))) [.t 4] [(77,[],a5W),(78,[],b0J)] ?_;intro hb hE;simp only[go_sem];repeat' first|apply cj'|intro hc|exact om'|fail
 all_goals((repeat(simp(disch:=omega) only[a0U]at*))<;>(try simp only[szR,a1b]at*)<;>(first|omega|(split<;>omega)))
noncomputable def b0L:CT:=n9 (fun(x:c8×Int) h=>c4Q x.1 x.2 h)
@[go_sem] def d8b:=fun x0 x1 x2 x3 x4=>nm' (fP' b0L rfl (⟨x0,⟨x1,x2⟩,x3⟩,x4))
def c2d(a:List c8)(left:Int)(hpre:0<=left/\left<=1048576):spZ 21 [(false,[o9 a]),(false,[.i .i64 left])] [] (.one (false,[.i .i64 (szR left ((a.length+p8 a1b a):Nat))])):=by
 refine sy' Tryz.func21 (q' 4 [aK 0] (q' 6 [aM [1,0],aN,aD .sub 6 8,aV 1] (.seq (q' 10 [am 1,aC .lss 10 0] (ci 11 (q' 4 [ao (.mov (.k (.v false [.c (.i .i64 (-1))])))] .ret))) (.seq (q' 5 [aK 0] (fo 0 12 [aM [5,0],aN,ar 12 14] 15 1 (q' 18 [aM [0,5],aI 4,aE 4,am 1,ac 46 [21,22],aV 1] (q' 24 [am 1,aC .lss 24 0] (ci 25 (q' 4 [ao (.mov (.k (.v false [.c (.i .i64 (-1))])))] .ret)))) (g' 16 [aB 5]))) (q' 26 [am 1,aV 4] .ret))))) [.t 4] [(46,[],b0L)] ?_;intro hb hE;simp only[go_sem];repeat' first|apply cj'|intro hc|exact om'|fail
 ·all_goals((repeat(simp(disch:=omega) only[a0U]at*))<;>(try simp only[szR,szR]at*)<;>(first|omega|(split<;>omega)))
 have hw:=a0U (l:=left) (n:=a.length) z0D z0D z0D z0D;rw[hw]at hc;refine lq' false [0] [] [] (fun i:{i:Nat // i<=a.length/\(a.length:Int)+(p8 a1b (a.take i):Nat)<=left}=>[(5,slV (.i .i64 i.1)),(1,slV (.i .i64 (left-a.length-(p8 a1b (a.take i.1):Nat))))]) nl' nl' (fun i=>a.length-i.1) (⟨0,z06⟩) ?_;intro S0 hS0 i;obtain⟨i,hi,ht⟩:=i;simp only[go_sem,hw,hS0];repeat' first|apply cj'|intro hc|exact om'|fail
 ·have h1:=s9 a1b (default:c8) (show i<a.length by omega);have h2:=a0m a1b a (i+1);all_goals((repeat(simp(disch:=omega) only[a0U]at*))<;>(try simp only[szR,szR]at*)<;>(first|omega|(split<;>omega)))
 ·have h1:=s9 a1b (default:c8) (show i<a.length by omega)
  (refine lpK_n2 (⟨i+1,z0D,z0R⟩) _ rfl ?_;simp only[go_sem,hw,hS0]<;>repeat' first|apply W6|exact on'|fail)
  rw[h1];unfold szR at hc ⊢;split at hc<;>omega
 ·have h1:=a1W a1b (show¬i<a.length by omega);all_goals((repeat(simp(disch:=omega) only[a0U]at*))<;>(try simp only[szR,szR]at*)<;>(first|omega|(split<;>omega)))
 all_goals all_goals((repeat(simp(disch:=omega) only[a0U]at*))<;>(try simp only[szR,szR]at*)<;>(first|omega|(split<;>omega)))
noncomputable def a9d:CT:=n9 (fun(x:(List c8)×Int) h=>c2d x.1 x.2 h)
@[go_sem] def d5p:=fun a x0=>nm' (fP' a9d rfl (a,x0))
def c4N(a:f7)(left:Int)(hpre:0<=left/\left<=1048576):spZ 45 [(true,[.i .i64 a.Kind,.s a.Name,.i .i64 a.Arity]),(false,[.i .i64 left])] [] (.one (false,[.i .i64 (szR left (a2T a:Nat))])):=by
 refine sy' Tryz.func45 (q' 2 [aX 3 0,az 4 0] (q' 5 [am 1,aG 1 2,ao (.lens (.t 7)),aD .sub 5 8,aV 1] (.seq (q' 10 [am 1,aC .lss 10 0] (ci 11 (q' 4 [ao (.mov (.k (.v false [.c (.i .i64 (-1))])))] .ret))) (q' 12 [am 1,aV 4] .ret)))) [.t 4] [] ?_;intro hb hE;simp only[go_sem];repeat' first|apply cj'|intro hc|exact om'|fail
 all_goals((repeat(simp(disch:=omega) only[a0U]at*))<;>(try simp only[szR,a2T]at*)<;>(first|omega|(split<;>omega)))
noncomputable def b0I:CT:=n9 (fun(x:f7×Int) h=>c4N x.1 x.2 h)
@[go_sem] def d7Y:=fun x0 x1 x2 x3=>nm' (fP' b0I rfl (⟨x0,x1,x2⟩,x3))
def c2b(a:List f7)(left:Int)(hpre:0<=left/\left<=1048576):spZ 20 [(false,[p6 a]),(false,[.i .i64 left])] [] (.one (false,[.i .i64 (szR left ((a.length+p8 a2T a):Nat))])):=by
 refine sy' Tryz.func20 (q' 4 [aK 0] (q' 6 [aM [1,0],aN,aD .sub 6 8,aV 1] (.seq (q' 10 [am 1,aC .lss 10 0] (ci 11 (q' 4 [ao (.mov (.k (.v false [.c (.i .i64 (-1))])))] .ret))) (.seq (q' 5 [aK 0] (fo 0 12 [aM [5,0],aN,ar 12 14] 15 1 (q' 18 [aM [0,5],aI 3,aE 3,am 1,ac 45 [21,22],aV 1] (q' 24 [am 1,aC .lss 24 0] (ci 25 (q' 4 [ao (.mov (.k (.v false [.c (.i .i64 (-1))])))] .ret)))) (g' 16 [aB 5]))) (q' 26 [am 1,aV 4] .ret))))) [.t 4] [(45,[],b0I)] ?_;intro hb hE;simp only[go_sem];repeat' first|apply cj'|intro hc|exact om'|fail
 ·all_goals((repeat(simp(disch:=omega) only[a0U]at*))<;>(try simp only[szR,szR]at*)<;>(first|omega|(split<;>omega)))
 have hw:=a0U (l:=left) (n:=a.length) z0D z0D z0D z0D;rw[hw]at hc;refine lq' false [0] [] [] (fun i:{i:Nat // i<=a.length/\(a.length:Int)+(p8 a2T (a.take i):Nat)<=left}=>[(5,slV (.i .i64 i.1)),(1,slV (.i .i64 (left-a.length-(p8 a2T (a.take i.1):Nat))))]) nl' nl' (fun i=>a.length-i.1) (⟨0,z06⟩) ?_;intro S0 hS0 i;obtain⟨i,hi,ht⟩:=i;simp only[go_sem,hw,hS0];repeat' first|apply cj'|intro hc|exact om'|fail
 ·have h1:=s9 a2T (default:f7) (show i<a.length by omega);have h2:=a0m a2T a (i+1);all_goals((repeat(simp(disch:=omega) only[a0U]at*))<;>(try simp only[szR,szR]at*)<;>(first|omega|(split<;>omega)))
 ·have h1:=s9 a2T (default:f7) (show i<a.length by omega)
  (refine lpK_n2 (⟨i+1,z0D,z0R⟩) _ rfl ?_;simp only[go_sem,hw,hS0]<;>repeat' first|apply W6|exact on'|fail)
  rw[h1];unfold szR at hc ⊢;split at hc<;>omega
 ·have h1:=a1W a2T (show¬i<a.length by omega);all_goals((repeat(simp(disch:=omega) only[a0U]at*))<;>(try simp only[szR,szR]at*)<;>(first|omega|(split<;>omega)))
 all_goals all_goals((repeat(simp(disch:=omega) only[a0U]at*))<;>(try simp only[szR,szR]at*)<;>(first|omega|(split<;>omega)))
noncomputable def a9b:CT:=n9 (fun(x:(List f7)×Int) h=>c2b x.1 x.2 h)
@[go_sem] def d5n:=fun a x0=>nm' (fP' a9b rfl (a,x0))
def b5I(a:c4)(left:Int)(hpre:0<=left/\left<=1048576):spZ 4 [(true,[p6 a.Decls,o9 a.Rules]),(false,[.i .i64 left])] [] (.one (false,[.i .i64 (szR left (a3n a:Nat))])):=by
 refine sy' Tryz.func4 (q' 2 [aX 2 0,az 4 0] (q' 5 [aG 0 2,am 1,ac 20 [6,7],aV 1] (.seq (q' 9 [am 1,aC .lss 9 0] (ci 10 (q' 4 [ao (.mov (.k (.v false [.c (.i .i64 (-1))])))] .ret))) (q' 11 [aG 1 2,am 1,ac 21 [12,13],aV 1] (.seq (q' 15 [am 1,aC .lss 15 0] (ci 16 (q' 4 [ao (.mov (.k (.v false [.c (.i .i64 (-1))])))] .ret))) (q' 17 [am 1,aV 4] .ret)))))) [.t 4] [(20,[],a9b),(21,[],a9d)] ?_;intro hb hE;simp only[go_sem];repeat' first|apply cj'|intro hc|exact om'|fail
 all_goals((repeat(simp(disch:=omega) only[a0U]at*))<;>(try simp only[szR,a3n]at*)<;>(first|omega|(split<;>omega)))
noncomputable def a6A:CT:=n9 (fun(x:c4×Int) h=>b5I x.1 x.2 h)
@[go_sem] def d1K:=fun x0 x1 x2=>nm' (fP' a6A rfl (⟨x0,x1⟩,x2))
def c4S(a:f9)(hpre:(a5H a:Int)<=1048576):spZ 94 [(true,[.s a.Name,o6 a.Args])] [] (.one (true,[.s a.Name,b5x a.Args])):=by
 refine sx' true false none Tryz.func94 (q' 1 [aX 2 0,aw [.s,.sl k9]] (q' 3 [aw [.s,.sl k9]] (q' 4 [aG 0 1,af 0 3,aS 1 6 5] (q' 7 [aG 1 1,ac 137 [8],af 1 3,aS 1 10 9] (q' 11 [ae 2 3,aS 2 2 11] .ret))))) [.c 2 true 2] [(137,[],a9k)] ?_;intro hb hE;simp only[go_sem];repeat' first|apply cj'|intro hc|exact om'|fail
 all_goals(simp only[a5H]at*;omega)
noncomputable def a5Y:CT:=n9 (fun(x:f9) h=>c4S x h)
@[go_sem] def d8d:=fun x0 x1=>nm' (fP' a5Y rfl ⟨x0,x1⟩)
def c8e(a:e8)(hpre:(a1U a:Int)<=1048576):spZ 138 [(true,[.i .i64 a.Kind,.s a.Atom.Name,o6 a.Atom.Args,.i .i64 a.Op,.s a.A.Var,.i .i64 a.A.Val.N,.s a.A.Val.S,.s a.B.Var,.i .i64 a.B.Val.N,.s a.B.Val.S])] [] (.one (true,[.i .i64 a.Kind,.s a.Atom.Name,b5x a.Atom.Args,.i .i64 a.Op,.s a.A.Var,.i .i64 a.A.Val.N,.s a.A.Val.S,.s a.B.Var,.i .i64 a.B.Val.N,.s a.B.Val.S])):=by
 refine sx' true false none Tryz.func138 (q' 1 [aX 10 0,aw [.i .i64,.s,.sl k9,.i .i64,.s,.i .i64,.s,.s,.i .i64,.s]] (q' 3 [aw [.i .i64,.s,.sl k9, .i .i64,.s,.i .i64,.s,.s,.i .i64,.s]] (q' 4 [aG 0 1,af 0 3,aS 1 6 5] (q' 7 [af 1 1,aE 2,ac 94 [8],af 1 3,aS 2 10 9] (q' 11 [aG 3 1,af 3 3,aS 1 13 12] (q' 14 [af 4 1,aE 3,ac 194 [15],af 4 3,aS 3 17 16] (q' 18 [af 7 1,aE 3,ac 194 [19],af 7 3,aS 3 21 20] (q' 22 [ae 10 3,aS 10 2 22] .ret)))))))) [.c 2 true 10] [(94,[],a5Y),(194,[],a5Z)] ?_;intro hb hE;simp only[go_sem];repeat' first|apply cj'|intro hc|exact om'|fail
 all_goals(simp only[a1U]at*;omega)
noncomputable def b3d:CT:=n9 (fun(x:e8) h=>c8e x h)
@[go_sem] def d9Z:=fun x0 x1 x2 x3 x4 x5 x6 x7 x8 x9=>nm' (fP' b3d rfl ⟨x0,⟨x1,x2⟩,x3,⟨x4,⟨x5,x6⟩⟩,⟨x7,⟨x8,x9⟩⟩⟩)
def c4V(a:List e8)(hpre:(((a.length+p8 a1U a):Nat):Int)<=1048576):spZ 95 [(false,[a0s a])] [] (.one (false,[d6f a])):=by
 refine sx' true false none Tryz.func95 (q' 2 [ao (.mov (.k (.v false [.nl a9K])))] (q' 5 [am 0,aN,ao (.mks 10 136 [.i .i64,.s,.sl k9,.i .i64,.s,.i .i64,.s,.s,.i .i64,.s] (.t 6) (.t 6)),aV 3] (.seq (q' 4 [aK 0] (fo 0 8 [aM [4,0],aN,ar 8 10] 11 1 (g' 14 [aM [3,4,0,4],aI 10,aE 10,ac 138 [19],ai 10 14 15,aS 10 21 20]) (g' 12 [aB 4]))) (q' 22 [am 3,aV 2] .ret)))) [.t 2] [(138,[],b3d)] ?_;intro hb hE;simp only[go_sem,b9r];repeat' first|apply cj'|intro hc|exact om'|fail
 refine lq' true [0,3] [] [] (fun i:{p:Nat×(List e8) // p.1<=a.length/\p.2.length=a.length/\p.2.take p.1=a.take p.1}=>[(4,slV (.i .i64 i.1.1))]) nl' (fun i=>[(896,d1z,i.1.2.map (e8.cells true true))]) (fun i=>a.length-i.1.1) (⟨(0,List.replicate a.length default),z0E⟩) ?_;intro S0 hS0 i;obtain⟨⟨i,L⟩,hi,hl,ht⟩:=i;simp only at hi hl ht;have hg:=b0e a1U a i default rfl;simp only[go_sem,b9r,hS0];repeat' first|apply cj'|intro hc|exact om'|fail
 ·(refine lpK_n2 (⟨(i+1,L.set i (a.getD i default)),z0G,z1F,z6 hl ht z0D⟩) _ rfl ?_;simp only[go_sem,b9r,hS0]<;>repeat' first|apply W6|exact on'|fail)
 ·obtain rfl:=w7 hl ht z0D;rfl
noncomputable def b0O:CT:=n9 (fun(x:(List e8)) h=>c4V x h)
@[go_sem] def d8g:=fun a=>nm' (fP' b0O rfl a)
def c4X(a:c8)(hpre:(a1b a:Int)<=1048576):spZ 59 [(true,[.i .i64 a.Kind,.s a.Head.Name,o6 a.Head.Args,a0s a.Body])] [] (.one (true,[.i .i64 a.Kind,.s a.Head.Name,b5x a.Head.Args,d6f a.Body])):=by
 refine sx' true false none Tryz.func59 (q' 1 [aX 4 0,aw [.i .i64,.s,.sl k9,.sl a9K]] (q' 3 [aw [.i .i64,.s,.sl k9,.sl a9K]] (q' 4 [aG 0 1,af 0 3,aS 1 6 5] (q' 7 [af 1 1,aE 2,ac 94 [8],af 1 3,aS 2 10 9] (q' 11 [aG 3 1,ac 95 [12],af 3 3,aS 1 14 13] (q' 15 [ae 4 3,aS 4 2 15] .ret)))))) [.c 2 true 4] [(94,[],a5Y),(95,[],b0O)] ?_;intro hb hE;simp only[go_sem];repeat' first|apply cj'|intro hc|exact om'|fail
 all_goals(simp only[a1b]at*;omega)
noncomputable def b0Q:CT:=n9 (fun(x:c8) h=>c4X x h)
@[go_sem] def d8i:=fun x0 x1 x2 x3=>nm' (fP' b0Q rfl ⟨x0,⟨x1,x2⟩,x3⟩)
def c2j(a:List c8)(hpre:(((a.length+p8 a1b a):Nat):Int)<=1048576):spZ 29 [(false,[o9 a])] [] (.one (false,[b5v a])):=by
 refine sx' true false none Tryz.func29 (q' 2 [ao (.mov (.k (.v false [.nl c3k])))] (q' 5 [am 0,aN,ao (.mks 4 72 [.i .i64,.s,.sl k9,.sl a9K] (.t 6) (.t 6)),aV 3] (.seq (q' 4 [aK 0] (fo 0 8 [aM [4,0],aN,ar 8 10] 11 1 (g' 14 [aM [3,4,0,4],aI 4,aE 4,ac 59 [19],ai 4 14 15,aS 4 21 20]) (g' 12 [aB 4]))) (q' 22 [am 3,aV 2] .ret)))) [.t 2] [(59,[],b0Q)] ?_;intro hb hE;simp only[go_sem,b4n];repeat' first|apply cj'|intro hc|exact om'|fail
 refine lq' true [0,3] [] [] (fun i:{p:Nat×(List c8) // p.1<=a.length/\p.2.length=a.length/\p.2.take p.1=a.take p.1}=>[(4,slV (.i .i64 i.1.1))]) nl' (fun i=>[(896,c3l,i.1.2.map (c8.cells true true))]) (fun i=>a.length-i.1.1) (⟨(0,List.replicate a.length default),z0E⟩) ?_;intro S0 hS0 i;obtain⟨⟨i,L⟩,hi,hl,ht⟩:=i;simp only at hi hl ht;have hg:=b0e a1b a i default rfl;simp only[go_sem,b4n,hS0];repeat' first|apply cj'|intro hc|exact om'|fail
 ·(refine lpK_n2 (⟨(i+1,L.set i (a.getD i default)),z0G,z1F,z6 hl ht z0D⟩) _ rfl ?_;simp only[go_sem,b4n,hS0]<;>repeat' first|apply W6|exact on'|fail)
 ·obtain rfl:=w7 hl ht z0D;rfl
noncomputable def a9i:CT:=n9 (fun(x:(List c8)) h=>c2j x h)
@[go_sem] def d5v:=fun a=>nm' (fP' a9i rfl a)
def c4T(a:f7):spZ 58 [(true,[.i .i64 a.Kind,.s a.Name,.i .i64 a.Arity])] [] (.one (true,[.i .i64 a.Kind,.s a.Name,.i .i64 a.Arity])):=by
 refine sx' true false none Tryz.func58 (q' 1 [aX 3 0,aw [.i .i64,.s,.i .i64]] (q' 3 [aw [.i .i64,.s,.i .i64]] (q' 4 [aG 0 1,af 0 3,aS 1 6 5] (q' 7 [aG 1 1,af 1 3,aS 1 9 8] (q' 10 [aG 2 1,af 2 3,aS 1 12 11] (q' 13 [ae 3 3,aS 3 2 13] .ret)))))) [.c 2 true 3] [] ?_;intro hb hE;simp only[go_sem];repeat' first|apply cj'|intro hc|exact om'|fail
noncomputable def b0M:CT:=l4 (fun(x:f7)=>c4T x)
@[go_sem] def d8e:=fun x0 x1 x2=>nm' (fQ' b0M rfl ⟨x0,x1,x2⟩)
def c2h(a:List f7)(hpre:(((a.length+p8 a2T a):Nat):Int)<=1048576):spZ 28 [(false,[p6 a])] [] (.one (false,[b5w a])):=by
 refine sx' true false none Tryz.func28 (q' 2 [ao (.mov (.k (.v false [.nl a9J])))] (q' 5 [am 0,aN,ao (.mks 3 32 [.i .i64,.s,.i .i64] (.t 6) (.t 6)),aV 3] (.seq (q' 4 [aK 0] (fo 0 8 [aM [4,0],aN,ar 8 10] 11 1 (g' 14 [aM [3,4,0,4],aI 3,aE 3,ac 58 [19],ai 3 14 15,aS 3 21 20]) (g' 12 [aB 4]))) (q' 22 [am 3,aV 2] .ret)))) [.t 2] [(58,[],b0M)] ?_;intro hb hE;simp only[go_sem,b4m];repeat' first|apply cj'|intro hc|exact om'|fail
 refine lq' true [0,3] [] [] (fun i:{p:Nat×(List f7) // p.1<=a.length/\p.2.length=a.length/\p.2.take p.1=a.take p.1}=>[(4,slV (.i .i64 i.1.1))]) nl' (fun i=>[(896,a9J,i.1.2.map f7.cells)]) (fun i=>a.length-i.1.1) (⟨(0,List.replicate a.length default),z0E⟩) ?_;intro S0 hS0 i;obtain⟨⟨i,L⟩,hi,hl,ht⟩:=i;simp only at hi hl ht;simp only[go_sem,b4m,hS0];repeat' first|apply cj'|intro hc|exact om'|fail
 ·(refine lpK_n2 (⟨(i+1,L.set i (a.getD i default)),z0G,z1F,z6 hl ht z0D⟩) _ rfl ?_;simp only[go_sem,b4m,hS0]<;>repeat' first|apply W6|exact on'|fail)
 ·obtain rfl:=w7 hl ht z0D;rfl
noncomputable def a9g:CT:=n9 (fun(x:(List f7)) h=>c2h x h)
@[go_sem] def d5t:=fun a=>nm' (fP' a9g rfl a)
def b5J(a:c4)(hpre:(a3n a:Int)<=1048576):spZ 7 [(true,[p6 a.Decls,o9 a.Rules])] [] (.one (true,[b5w a.Decls,b5v a.Rules])):=by
 refine sx' true false none Tryz.func7 (q' 1 [aX 2 0,aw [.sl a9J,.sl c3k]] (q' 3 [aw [.sl a9J,.sl c3k]] (q' 4 [aG 0 1,ac 28 [5],af 0 3,aS 1 7 6] (q' 8 [aG 1 1,ac 29 [9],af 1 3,aS 1 11 10] (q' 12 [ae 2 3,aS 2 2 12] .ret))))) [.c 2 true 2] [(28,[],a9g),(29,[],a9i)] ?_;intro hb hE;simp only[go_sem];repeat' first|apply cj'|intro hc|exact om'|fail
 all_goals(simp only[a3n]at*;omega)
noncomputable def a6B:CT:=n9 (fun(x:c4) h=>b5J x h)
@[go_sem] def d1L:=fun x0 x1=>nm' (fP' a6B rfl ⟨x0,x1⟩)
def c4F(a:f9)(b:f9):spZ 120 [(true,[.s a.Name,o6 a.Args]),(true,[.s b.Name,o6 b.Args])] [] (.one (false,[.b (decide (a=b))])):=by
 refine sy' Tryz.func120 (q' 2 [aX 2 0,aX 2 1,aU false] (.seq (q' 5 [aG 0 2,aG 0 3,aD .neq 6 8] (ci 9 (q' 4 [aU false] .ret))) (.seq (q' 10 [aG 1 2,aG 1 3,ac 174 [11,13],aO 14] (ci 15 (q' 4 [aU false] .ret))) (q' 4 [aU true] .ret)))) [.t 4] [(174,[],a9a)] ?_;intro hb hE;simp only[go_sem];repeat' first|apply cj'|intro hc|exact om'|fail
 all_goals(cases a;cases b;simp_all)
noncomputable def a5U:CT:=l4 (fun(x:f9×f9)=>c4F x.1 x.2)
@[go_sem] def d7Q:=fun x0 x1 x2 x3=>nm' (fQ' a5U rfl (⟨x0,x1⟩,⟨x2,x3⟩))
def c7Y(a:e8)(b:e8):spZ 175 [(true,[.i .i64 a.Kind,.s a.Atom.Name,o6 a.Atom.Args,.i .i64 a.Op,.s a.A.Var,.i .i64 a.A.Val.N,.s a.A.Val.S,.s a.B.Var,.i .i64 a.B.Val.N,.s a.B.Val.S]),(true,[.i .i64 b.Kind,.s b.Atom.Name,o6 b.Atom.Args,.i .i64 b.Op,.s b.A.Var,.i .i64 b.A.Val.N,.s b.A.Val.S,.s b.B.Var,.i .i64 b.B.Val.N,.s b.B.Val.S])] [] (.one (false,[.b (decide (a=b))])):=by
 refine sy' Tryz.func175 (q' 2 [aX 10 0,aX 10 1,aU false] (.seq (q' 5 [aG 0 2,aG 0 3,aD .neq 6 8] (ci 9 (q' 4 [aU false] .ret))) (.seq (q' 10 [af 1 2,aE 2,af 1 3,aE 2,ac 120 [11,13],aO 14] (ci 15 (q' 4 [aU false] .ret))) (.seq (q' 16 [aG 3 2,aG 3 3,aD .neq 17 19] (ci 20 (q' 4 [aU false] .ret))) (.seq (q' 21 [af 4 2,aE 3,af 4 3,aE 3,ac 238 [22,24],aO 25] (ci 26 (q' 4 [aU false] .ret))) (.seq (q' 27 [af 7 2,aE 3,af 7 3,aE 3,ac 238 [28,30],aO 31] (ci 32 (q' 4 [aU false] .ret))) (q' 4 [aU true] .ret))))))) [.t 4] [(120,[],a5U),(238,[],a5V)] ?_;intro hb hE;simp only[go_sem];repeat' first|apply cj'|intro hc|exact om'|fail
 all_goals(cases a;cases b;simp_all)
noncomputable def b2X:CT:=l4 (fun(x:e8×e8)=>c7Y x.1 x.2)
@[go_sem] def d9T:=fun x0 x1 x2 x3 x4 x5 x6 x7 x8 x9 x10 x11 x12 x13 x14 x15 x16 x17 x18 x19=>nm' (fQ' b2X rfl (⟨x0,⟨x1,x2⟩,x3,⟨x4,⟨x5,x6⟩⟩,⟨x7,⟨x8,x9⟩⟩⟩,⟨x10,⟨x11,x12⟩,x13,⟨x14,⟨x15,x16⟩⟩,⟨x17,⟨x18,x19⟩⟩⟩))
def c4I(a:List e8)(b:List e8):spZ 121 [(false,[a0s a]),(false,[a0s b])] [] (.one (false,[.b (decide (a=b))])):=by
 refine sy' Tryz.func121 (q' 4 [aU false] (.seq (q' 6 [am 0,aN,am 1,aN,aD .neq 7 9] (ci 10 (q' 4 [aU false] .ret))) (.seq (q' 5 [aK 0] (fo 0 11 [aM [5,0],aN,ar 11 13] 14 1 (.seq (G' 17 [aM [0,5],aI 10,aE 10,aM [1,5],aI 10,aE 10,ac 175 [20,24],aO 25]) (ci 26 (q' 4 [aU false] .ret))) (g' 15 [aB 5]))) (q' 4 [aU true] .ret)))) [.t 4] [(175,[],b2X)] ?_;intro hb hE;simp only[go_sem];repeat' first|apply cj'|intro hc|exact om'|fail
 ·symm;rw[q1E];rintro rfl;simp at hc
 have hl:a.length=b.length:=by simpa[q3H]using hc
 refine lq' false [0,1] [] [] (fun i:{i:Nat // i<=a.length/\a.take i=b.take i}=>[(5,slV (.i .i64 i.1))]) nl' nl' (fun i=>a.length-i.1) (⟨0,z0E⟩) ?_;intro S0 hS0 i;obtain⟨i,hi,ht⟩:=i;simp only[go_sem,hS0];repeat' first|apply cj'|intro hc|exact om'|fail
 ·exact(V5 (a1p default (i:=i) z0O)).symm
 ·exact nx0 ⟨i+1,z0D,a0Q ht z0D z0D (d:=default) z0O⟩
 ·exact(V3 (w7 hl ht z0D)).symm
noncomputable def b0F:CT:=l4 (fun(x:(List e8)×(List e8))=>c4I x.1 x.2)
@[go_sem] def d7T:=fun a b=>nm' (fQ' b0F rfl (a,b))
def c4K(a:c8)(b:c8):spZ 71 [(true,[.i .i64 a.Kind,.s a.Head.Name,o6 a.Head.Args,a0s a.Body]),(true,[.i .i64 b.Kind,.s b.Head.Name,o6 b.Head.Args,a0s b.Body])] [] (.one (false,[.b (decide (a=b))])):=by
 refine sy' Tryz.func71 (q' 2 [aX 4 0,aX 4 1,aU false] (.seq (q' 5 [aG 0 2,aG 0 3,aD .neq 6 8] (ci 9 (q' 4 [aU false] .ret))) (.seq (q' 10 [af 1 2,aE 2,af 1 3,aE 2,ac 120 [11,13],aO 14] (ci 15 (q' 4 [aU false] .ret))) (.seq (q' 16 [aG 3 2,aG 3 3,ac 121 [17,19],aO 20] (ci 21 (q' 4 [aU false] .ret))) (q' 4 [aU true] .ret))))) [.t 4] [(120,[],a5U),(121,[],b0F)] ?_;intro hb hE;simp only[go_sem];repeat' first|apply cj'|intro hc|exact om'|fail
 all_goals(cases a;cases b;simp_all)
noncomputable def b0H:CT:=l4 (fun(x:c8×c8)=>c4K x.1 x.2)
@[go_sem] def d7V:=fun x0 x1 x2 x3 x4 x5 x6 x7=>nm' (fQ' b0H rfl (⟨x0,⟨x1,x2⟩,x3⟩,⟨x4,⟨x5,x6⟩,x7⟩))
def c1X(a:List c8)(b:List c8):spZ 40 [(false,[o9 a]),(false,[o9 b])] [] (.one (false,[.b (decide (a=b))])):=by
 refine sy' Tryz.func40 (q' 4 [aU false] (.seq (q' 6 [am 0,aN,am 1,aN,aD .neq 7 9] (ci 10 (q' 4 [aU false] .ret))) (.seq (q' 5 [aK 0] (fo 0 11 [aM [5,0],aN,ar 11 13] 14 1 (.seq (G' 17 [aM [0,5],aI 4,aE 4,aM [1,5],aI 4,aE 4,ac 71 [20,24],aO 25]) (ci 26 (q' 4 [aU false] .ret))) (g' 15 [aB 5]))) (q' 4 [aU true] .ret)))) [.t 4] [(71,[],b0H)] ?_;intro hb hE;simp only[go_sem];repeat' first|apply cj'|intro hc|exact om'|fail
 ·symm;rw[q1E];rintro rfl;simp at hc
 have hl:a.length=b.length:=by simpa[q3H]using hc
 refine lq' false [0,1] [] [] (fun i:{i:Nat // i<=a.length/\a.take i=b.take i}=>[(5,slV (.i .i64 i.1))]) nl' nl' (fun i=>a.length-i.1) (⟨0,z0E⟩) ?_;intro S0 hS0 i;obtain⟨i,hi,ht⟩:=i;simp only[go_sem,hS0];repeat' first|apply cj'|intro hc|exact om'|fail
 ·exact(V5 (a1p default (i:=i) z0O)).symm
 ·exact nx0 ⟨i+1,z0D,a0Q ht z0D z0D (d:=default) z0O⟩
 ·exact(V3 (w7 hl ht z0D)).symm
noncomputable def a8Y:CT:=l4 (fun(x:(List c8)×(List c8))=>c1X x.1 x.2)
@[go_sem] def d5j:=fun a b=>nm' (fQ' a8Y rfl (a,b))
def c4G(a:f7)(b:f7):spZ 70 [(true,[.i .i64 a.Kind,.s a.Name,.i .i64 a.Arity]),(true,[.i .i64 b.Kind,.s b.Name,.i .i64 b.Arity])] [] (.one (false,[.b (decide (a=b))])):=by
 refine sy' Tryz.func70 (q' 2 [aX 3 0,aX 3 1,aU false] (.seq (q' 5 [aG 0 2,aG 0 3,aD .neq 6 8] (ci 9 (q' 4 [aU false] .ret))) (.seq (q' 10 [aG 1 2,aG 1 3,aD .neq 11 13] (ci 14 (q' 4 [aU false] .ret))) (.seq (q' 15 [aG 2 2,aG 2 3,aD .neq 16 18] (ci 19 (q' 4 [aU false] .ret))) (q' 4 [aU true] .ret))))) [.t 4] [] ?_;intro hb hE;simp only[go_sem];repeat' first|apply cj'|intro hc|exact om'|fail
 all_goals(cases a;cases b;simp_all)
noncomputable def b0D:CT:=l4 (fun(x:f7×f7)=>c4G x.1 x.2)
@[go_sem] def d7R:=fun x0 x1 x2 x3 x4 x5=>nm' (fQ' b0D rfl (⟨x0,x1,x2⟩,⟨x3,x4,x5⟩))
def c1V(a:List f7)(b:List f7):spZ 39 [(false,[p6 a]),(false,[p6 b])] [] (.one (false,[.b (decide (a=b))])):=by
 refine sy' Tryz.func39 (q' 4 [aU false] (.seq (q' 6 [am 0,aN,am 1,aN,aD .neq 7 9] (ci 10 (q' 4 [aU false] .ret))) (.seq (q' 5 [aK 0] (fo 0 11 [aM [5,0],aN,ar 11 13] 14 1 (.seq (G' 17 [aM [0,5],aI 3,aE 3,aM [1,5],aI 3,aE 3,ac 70 [20,24],aO 25]) (ci 26 (q' 4 [aU false] .ret))) (g' 15 [aB 5]))) (q' 4 [aU true] .ret)))) [.t 4] [(70,[],b0D)] ?_;intro hb hE;simp only[go_sem];repeat' first|apply cj'|intro hc|exact om'|fail
 ·symm;rw[q1E];rintro rfl;simp at hc
 have hl:a.length=b.length:=by simpa[q3H]using hc
 refine lq' false [0,1] [] [] (fun i:{i:Nat // i<=a.length/\a.take i=b.take i}=>[(5,slV (.i .i64 i.1))]) nl' nl' (fun i=>a.length-i.1) (⟨0,z0E⟩) ?_;intro S0 hS0 i;obtain⟨i,hi,ht⟩:=i;simp only[go_sem,hS0];repeat' first|apply cj'|intro hc|exact om'|fail
 ·exact(V5 (a1p default (i:=i) z0O)).symm
 ·exact nx0 ⟨i+1,z0D,a0Q ht z0D z0D (d:=default) z0O⟩
 ·exact(V3 (w7 hl ht z0D)).symm
noncomputable def a8W:CT:=l4 (fun(x:(List f7)×(List f7))=>c1V x.1 x.2)
@[go_sem] def d5h:=fun a b=>nm' (fQ' a8W rfl (a,b))
def b5D(a:c4)(b:c4):spZ 12 [(true,[p6 a.Decls,o9 a.Rules]),(true,[p6 b.Decls,o9 b.Rules])] [] (.one (false,[.b (decide (a=b))])):=by
 refine sy' Tryz.func12 (q' 2 [aX 2 0,aX 2 1,aU false] (.seq (q' 5 [aG 0 2,aG 0 3,ac 39 [6,8],aO 9] (ci 10 (q' 4 [aU false] .ret))) (.seq (q' 11 [aG 1 2,aG 1 3,ac 40 [12,14],aO 15] (ci 16 (q' 4 [aU false] .ret))) (q' 4 [aU true] .ret)))) [.t 4] [(39,[],a8W),(40,[],a8Y)] ?_;intro hb hE;simp only[go_sem];repeat' first|apply cj'|intro hc|exact om'|fail
 all_goals(cases a;cases b;simp_all)
noncomputable def a6w:CT:=l4 (fun(x:c4×c4)=>b5D x.1 x.2)
@[go_sem] def d1F:=fun x0 x1 x2 x3=>nm' (fQ' a6w rfl (⟨x0,x1⟩,⟨x2,x3⟩))
end Go.Aw
