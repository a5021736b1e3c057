/- Draws: any relation. No condition. -/
import Derived.Test.YtokefohpgeajaaaGreatwfU4
namespace Go.Aw
open Go.Proofs
attribute [local irreducible] aft blk lpK retK AW A0p
set_option linter.all false
set_option maxRecDepth 100000
attribute [local irreducible] RM
set_option maxHeartbeats 4000000
def c1O(a:Int):∀(n:Nat) (c:c7) (l:List d3),(b0Z a n c l).1.length<=l.length+n
 | 0,_,_=>by simp[b0Z]
 | n+1,c,l=>by
   rw[b0Z];have h1:=c1O a n (a0l c a.toNat).2 (a0f q0 l ⟨(a0l c a.toNat).1⟩);have h2:=b3f q0 l ⟨(a0l c a.toNat).1⟩;omega
def b8j{a:Int}(ha:a<=100):∀(n:Nat) (c:c7) (l:List d3),(∀x∈l,okL x.V/\x.V.length<=1000)->∀x∈(b0Z a n c l).1,okL x.V/\x.V.length<=1000
 | 0,_,_,h=>h
 | n+1,c,l,h=>b8j ha n _ _ (b8e h ⟨b5O c _,by rw[a3K];omega⟩)
def b8i{a:Int}(ha:a<=100)(c:c7):(a3M c a).1.length<=5/\∀x∈(a3M c a).1,okL x.V/\x.V.length<=1000:=by
 have hb:=j9 c (n:=6) (by omega);have h1:=c1O a (i7 c 6).toNat (i6 c 6) []
 exact⟨by unfold a3M;simp only[q0X]at h1;omega,b8j ha _ _ _ (fun x hx=>by cases hx)⟩
def b6G(r:f5)(c:c7)(k:Int):f5×c7:=
 if k=0 then(⟨(a4y c).1,r.Rows⟩,(a4y c).2)
 else if k=1 then(if r.Rows.length=0 then(r,c)else(⟨r.Arity,r.Rows.set (i7 c r.Rows.length).toNat ⟨(arF (i6 c r.Rows.length)).1⟩⟩,(arF (i6 c r.Rows.length)).2))
 else if k=2 then(if 1<r.Rows.length then(⟨r.Arity,(r.Rows.set 0 (r.Rows.getD (r.Rows.length-1) default)).set (r.Rows.length-1) (r.Rows.getD 0 default)⟩,c)else(r,c))
 else if k=3 then(if r.Rows.length=0 then(r,c)else(⟨r.Arity,r.Rows++[r.Rows.getD (r.Rows.length-1) default]⟩,c))
 else if k=4 then(⟨1,a0L 1 (300-i7 c 2+i7 (i6 c 2) 2).toNat⟩,i6 (i6 c 2) 2)
 else(r,c)
def a5g(c:c7):f5×c7:=b6G ⟨i7 c 4,(a3M (i6 c 4) (i7 c 4)).1⟩ (i6 (a3M (i6 c 4) (i7 c 4)).2 20) (i7 (a3M (i6 c 4) (i7 c 4)).2 20)
@[go_sem] def a6b:ACode:=q' 2 [aw [.i .i64,.sl o8]] (q' 7 [aM [0,0],ao (.call 33 [.t 8,.k (.v false [.c (.i .i64 4)])]),ac 298 [7,9],ax (w' 3 [.i .i64,
 .sl o8]),aS 2 3 10] (q' 11 [am 0,ao (.call 33 [.t 11,.k (.v false [.c (.i .i64 20)])]),aV 4] (q' 13 [aG 1 3,aN,aV 5] (.seq (q'
 16 [am 4,aC .eql 16 0] (ci 17 (g' 18 [am 0,ac 299 [18],af 0 3,aS 1 20 19]))) (.seq (q' 21 [am 4,aC .eql 21 1,am 22,aH 23 true [bm 5,bC .gtr 24 0],aP 23 25]
 (ci 26 (rm' [(true,0,f' 27 1 3),(true,2,m' 29 0),(true,3,m' 30 5),(true,5,m' 32 0),(false,1,l' 28 27),(false,4,c' 31 33 [29,30]),(false,6,
 c' 33 300 [32]),(false,7,i' 34 1 28 31),(false,8,s' 1 34 33)] [[0,1,2,3,5,4,6,7,8],[0,1,2,3,5,6,4,7,8]] [6,7]))) (.seq (q' 35 [am 4,aC
 .eql 35 2,am 36,aH 37 true [bm 5,bC .gtr 38 1],aP 37 39] (ci 40 (q' 41 [aG 1 3,ao (.ia 1 (.t 42) (k' 0)),aE 1,ax (w' 6 [.sl l3]),aS 1 6 44]
 (.seq (.rego [(true,0,f' 45 1 3),(true,2,f' 47 1 3),(true,4,m' 49 5),(true,5,o' 50 (.bin .sub (.t 49) (k' 1))),(false,1,l' 46 45),(false,3,l'
 48 47),(false,6,i' 51 1 48 50),(false,7,e' 52 1 51),(false,8,o' 53 (.ia 1 (.t 46) (k' 0))),(false,9,s' 1 53 52)] [6,7]) (g' 54 [aG 1 3,am 5,aC
 .sub 56 1,ae 1 6,ai 1 55 57,aS 1 59 58]))))) (.seq (q' 60 [am 4,aC .eql 60 3,am 61,aH 62 true [bm 5,bC .gtr 63 0],aP 62 64] (ci 65 (rm' [(true,4,m' 70 5),
 (true,5,o' 71 (.bin .sub (.t 70) (k' 1))),(false,0,f' 66 1 3),(false,1,l' 67 66),(false,2,f' 68 1 3),(false,3,l' 69 68),(false,6,i' 72 1 69
 71),(false,7,e' 73 1 72),(false,8,c' 74 270 [73]),(false,9,o' 75 (.bsl 1 1 [.sl l3] [(0,.t 74)])),(false,10,o' 76 (.app 1 24 [.sl
 l3] (.t 67) (.t 75))),(false,11,f' 77 1 3),(false,12,s' 1 77 76)] [[0,1,2,4,5,6,7,8,3,9,10,11,12],[0,1,2,4,5,6,7,8,
 9,3,10,11,12],[0,1,4,5,6,7,8,2,3,9,10,11,12],[0,1,4,5,6,7,8,2,9,3,10,11,12],[0,1,4,5,6,7,8,9,2,3,10,11,12]] [])))
 (.seq (q' 78 [am 4,aC .eql 78 4] (ci 79 (g' 80 [am 0,ao (.call 33 [.t 80,.k (.v false [.c (.i .i64 2)])]),ao (.bin .sub (k' 300) (.t 81)),am 0,ao (.call 33
 [.t 83,.k (.v false [.c (.i .i64 2)])]),aD .add 82 84,ao (.call 144 [.k (.v false [.c (.i .i64 1)]),.t 85]),aS 2 3 86]))) (q' 87 [ae 2 3,aS 2 2 87]
 .ret)))))))))
def b4A:cmp Tryz.prog Tryz.f239=some a6b:=by kernel_rfl
def b7i(c:c7)(hpre:k7 c):spZ 239 [(false,[.mp [.sl false [.i .u8 0] (c.b.map cU8),.i .i64 c.i,.i .i64 c.h]])] [(0,(false,[.mp [.sl false [.i .u8 0] ((((a5g c).2).b).map cU8),.i .i64 (((a5g c).2).i),.i .i64 (((a5g c).2).h)]]))] (.one (true,[.i .i64 (((a5g c).1).Arity),a1f (((a5g c).1).Rows)])):=by
 refine sq' false true (some 0) Tryz.func239 b4A [.c 2 true 2] [(33,[0],l5),(298,[0],a4q),(299,[0],a2D),(300,[0],a4M),(270,[],a1F),(144,[],a2b)] ?_;intro hb hE;simp only[go_sem]at hb;simp only[a6b,x'];have h1:=i8 hpre 4;have hb4:=j9 c (n:=4) (by omega);have h2:=c5K h1 (i7 c 4);obtain⟨hl,hf⟩:=b8i (a:=i7 c 4) (by omega) (i6 c 4);have h3:=i8 h2 20;have hk:=j9 (a3M (i6 c 4) (i7 c 4)).2 (n:=20) (by omega);obtain⟨a,ha⟩:∃a,a5g c=a:=⟨_,rfl⟩
 rw[ha];rw[a5g]at ha;refine aw_seq (A3s ?_);simp only[go_sem,pc_susB,Int.reduceBEq];refine aft_n (aw_seq (A3s ?_));simp only[go_sem,pc_susB,Int.reduceBEq];refine cj' hpre (cj' ⟨⟨h1,by omega⟩,by omega⟩ (aft_n (aw_seq (A3s ?_))));simp only[go_sem,pc_susB,Int.reduceBEq];refine cj' h2 (aft_n (aw_seq (A3s ?_)));simp only[go_sem,pc_susB,Int.reduceBEq];generalize(a3M (i6 c 4) (i7 c 4)).1=l at*;generalize i6 (a3M (i6 c 4) (i7 c 4)).2 20=f at*;generalize i7 (a3M (i6 c 4) (i7 c 4)).2 20=k at*;generalize i7 c 4=b at*;have hk5:k=0\/k=1\/k=2\/k=3\/k=4\/5<=k:=by omega
 have hw:IntKind.i64.wrap ((l.length:Int)-1)=(l.length:Int)-1:=IntWalk.i64_in _ ⟨by omega,by omega⟩;have hwt:((l.length:Int)-1).toNat=l.length-1:=by omega
 rcases hk5 with rfl|rfl|rfl|rfl|rfl|hk5
 ·repeat(refine aft_n (aw_seq (A3s ?_));simp only[go_sem,pc_susB,Int.reduceBEq])
  refine cj' h3 ?_;repeat(refine aft_n (aw_seq (A3s ?_));simp only[go_sem,pc_susB,Int.reduceBEq])
  refine aft_n (aw_ret ?_);simp only[go_sem,pc_susB,Int.reduceBEq];rw[b6G,if_pos rfl]at ha;subst ha;exact⟨⟨rfl,rfl⟩,rfl⟩
 ·repeat(refine aft_n (aw_seq (A3s ?_));simp only[go_sem,pc_susB,Int.reduceBEq])
  refine cj' (fun hc=>?_) (fun hc=>?_)
  ·have hb:=j9 f (n:=l.length) (by omega);have h4:=i8 h3 l.length;refine⟨?_, ?_⟩
   ·(all_goals(try((first|refine u1 4 rfl ?_);intro S hS B0 hB;simp only[go_sem,pc_susB,Int.reduceBEq,V7,q0O]at hS hB;(repeat(first|replace hS:=And.right hS|replace hS:=CJ.r hS));have Rr27:=congrArg (fun s:St=>s.sl 27) hS;have Rr29:=congrArg (fun s:St=>s.sl 29) hS;have Rr30:=congrArg (fun s:St=>s.sl 30) hS;have Rr32:=congrArg (fun s:St=>s.sl 32) hS;have Rb1:=congrArg (fun s:St=>s.bx 1) hS;have Rb6:=congrArg (fun s:St=>s.bx 6) hS;have Rb7:=congrArg (fun s:St=>s.bx 7) hS;have Ro1282:=congrArg (fun s:St=>s.ow 1282) hS;clear hS;simp only[go_sem,pc_susB,Int.reduceBEq]at Rr27 Rr29 Rr30 Rr32 Rb1 Rb6 Rb7 Ro1282;(try clear hc);intro K hc;simp only[go_sem,pc_susB,Int.reduceBEq,Rr27,Rr29,Rr30,Rr32,Rb1,Rb6,Rb7,Ro1282,hB,V8,q0K,V6,q0G]at hc ⊢;simp only[go_sem,pc_susB,Int.reduceBEq,Rr27,Rr29,Rr30,Rr32,Rb1,Rb6,Rb7,Ro1282,hB,A7u,A7y,A6L,A6K,A7t,A6J,nf_put_sub,A7w,A7v,nf_put_susK,nf_put_dip,nf_put_put,A7x,A7s,A6M,j8,j6,j4,j5,j7,nf_sub_sub,o6,m7,o5,t7,m9,t6,m8]at hc ⊢;simp only[a0o]at hc ⊢;(first|(simp only[hc,q0R,q0I];done)|((repeat' first|exact hc|apply V1);done)))))
   ·repeat(first|refine cj' h3 ?_|refine cj' h4 ?_|refine cj' hb ?_|refine cj' (by omega) ?_)
    repeat(refine aft_n (aw_seq (A3s ?_));simp only[go_sem,pc_susB,Int.reduceBEq])
    refine aft_n (aw_ret ?_);simp only[go_sem,pc_susB,Int.reduceBEq];rw[b6G,if_neg (by decide),if_pos rfl,if_neg (by show¬l.length=0;omega)]at ha;subst ha;exact⟨⟨rfl,rfl⟩,rfl⟩
  ·repeat(refine aft_n (aw_seq (A3s ?_));simp only[go_sem,pc_susB,Int.reduceBEq])
   refine aft_n (aw_ret ?_);simp only[go_sem,pc_susB,Int.reduceBEq];rw[b6G,if_neg (by decide),if_pos rfl,if_pos (by show l.length=0;omega)]at ha;subst ha;exact⟨⟨rfl,rfl⟩,rfl⟩
 ·repeat(refine aft_n (aw_seq (A3s ?_));simp only[go_sem,pc_susB,Int.reduceBEq,hw,hwt])
  refine cj' (fun hc=>?_) (fun hc=>?_)
  ·repeat(first|refine cj' (by omega) ?_)
   repeat(refine aft_n (aw_seq (A3s ?_));simp only[go_sem,pc_susB,Int.reduceBEq,hw,hwt])
   refine aft_n (aw_ret ?_);simp only[go_sem,pc_susB,Int.reduceBEq,hw,hwt];rw[b6G,if_neg (by decide),if_neg (by decide),if_pos rfl,if_pos (by show 1<l.length;omega)]at ha;subst ha;exact⟨⟨rfl,rfl⟩,rfl⟩
  ·repeat(refine aft_n (aw_seq (A3s ?_));simp only[go_sem,pc_susB,Int.reduceBEq,hw,hwt])
   refine aft_n (aw_ret ?_);simp only[go_sem,pc_susB,Int.reduceBEq,hw,hwt];rw[b6G,if_neg (by decide),if_neg (by decide),if_pos rfl,if_neg (by show¬1<l.length;omega)]at ha;subst ha;exact⟨⟨rfl,rfl⟩,rfl⟩
 ·repeat(refine aft_n (aw_seq (A3s ?_));simp only[go_sem,pc_susB,Int.reduceBEq,hw,hwt])
  refine cj' (fun hc=>?_) (fun hc=>?_)
  ·refine⟨?_, ?_⟩
   ·(all_goals(try((first|refine u1 2 rfl ?_);intro S hS B0 hB;simp only[go_sem,pc_susB,Int.reduceBEq,hw,hwt,V7,q0O]at hS hB;(repeat(first|replace hS:=And.right hS|replace hS:=CJ.r hS));have Rr3:=congrArg (fun s:St=>s.sl 3) hS;have Rr70:=congrArg (fun s:St=>s.sl 70) hS;have Rr71:=congrArg (fun s:St=>s.sl 71) hS;have Rb6:=congrArg (fun s:St=>s.bx 6) hS;have Ro1282:=congrArg (fun s:St=>s.ow 1282) hS;clear hS;simp only[go_sem,pc_susB,Int.reduceBEq,hw,hwt]at Rr3 Rr70 Rr71 Rb6 Ro1282;(try clear hc);intro K hc;simp only[go_sem,pc_susB,Int.reduceBEq,hw,hwt,Rr3,Rr70,Rr71,Rb6,Ro1282,hB,V8,q0K,V6,q0G]at hc ⊢;simp only[go_sem,pc_susB,Int.reduceBEq,hw,hwt,Rr3,Rr70,Rr71,Rb6,Ro1282,hB,A7u,A7y,A6L,A6K,A7t,A6J,nf_put_sub,A7w,A7v,nf_put_susK,nf_put_dip,nf_put_put,A7x,A7s,A6M,j8,j6,j4,j5,j7,nf_sub_sub,o6,m7,o5,t7,m9,t6,m8]at hc ⊢;simp only[a0o]at hc ⊢;(first|(simp only[hc,q0R,q0I];done)|((repeat' first|exact hc|apply V1);done)))))
   ·have hv:=(hf _ (y6 (l:=l) (i:=l.length-1) default (by omega))).2;repeat(first|refine cj' (by omega) ?_)
    repeat(refine aft_n (aw_seq (A3s ?_));simp only[go_sem,pc_susB,Int.reduceBEq,hw,hwt])
    refine aft_n (aw_ret ?_);simp only[go_sem,pc_susB,Int.reduceBEq,hw,hwt];rw[b6G,if_neg (by decide),if_neg (by decide),if_neg (by decide),if_pos rfl,if_neg (by show¬l.length=0;omega)]at ha;subst ha;exact⟨⟨rfl,rfl⟩,rfl⟩
  ·repeat(refine aft_n (aw_seq (A3s ?_));simp only[go_sem,pc_susB,Int.reduceBEq,hw,hwt])
   refine aft_n (aw_ret ?_);simp only[go_sem,pc_susB,Int.reduceBEq,hw,hwt];rw[b6G,if_neg (by decide),if_neg (by decide),if_neg (by decide),if_pos rfl,if_pos (by show l.length=0;omega)]at ha;subst ha;exact⟨⟨rfl,rfl⟩,rfl⟩
 ·have hb1:=j9 f (n:=2) (by omega);have hb2:=j9 (i6 f 2) (n:=2) (by omega);have h4:=i8 h3 2;have hw1:IntKind.i64.wrap (300-i7 f 2)=300-i7 f 2:=IntWalk.i64_in _ ⟨by omega,by omega⟩;have hw2:IntKind.i64.wrap (300-i7 f 2+i7 (i6 f 2) 2)=300-i7 f 2+i7 (i6 f 2) 2:=IntWalk.i64_in _ ⟨by omega,by omega⟩;repeat(refine aft_n (aw_seq (A3s ?_));simp only[go_sem,pc_susB,Int.reduceBEq,hw1,hw2])
  refine cj' h3 (cj' h4 (cj' ⟨⟨⟨by omega,by omega⟩,by omega⟩,by omega⟩ ?_));repeat(refine aft_n (aw_seq (A3s ?_));simp only[go_sem,pc_susB,Int.reduceBEq,hw1,hw2])
  refine aft_n (aw_ret ?_);simp only[go_sem,pc_susB,Int.reduceBEq,hw1,hw2];rw[b6G,if_neg (by decide),if_neg (by decide),if_neg (by decide),if_neg (by decide),if_pos rfl]at ha;subst ha;exact⟨⟨rfl,rfl⟩,rfl⟩
 ·obtain⟨e0,e1,e2,e3,e4⟩:(k==0)=false/\(k==1)=false/\(k==2)=false/\(k==3)=false/\(k==4)=false:=by simp only[beq_eq_false_iff_ne];omega
  repeat(refine aft_n (aw_seq (A3s ?_));simp only[go_sem,pc_susB,Int.reduceBEq,e0,e1,e2,e3,e4])
  refine aft_n (aw_ret ?_);simp only[go_sem,pc_susB,Int.reduceBEq,e0,e1,e2,e3,e4];rw[b6G,if_neg (by omega),if_neg (by omega),if_neg (by omega),if_neg (by omega),if_neg (by omega)]at ha;subst ha;exact⟨⟨rfl,rfl⟩,rfl⟩
noncomputable def a7R:CT:=p6 (fun(x:c7) h=>b7i x h)
@[go_sem] def c7a:=fun x0 x1 x2=>nm' (fP' a7R rfl ⟨x0,x1,x2⟩)
set_option maxHeartbeats 40000000
def b0J(r:f5)(hpre:r.Rows.length<=100000/\∀x∈r.Rows,x.V.length<1000):spZ 204 [(true,[.i .i64 r.Arity,a1f r.Rows])] [] (.one (true,[.i .i64 r.Arity,c1q r.Rows])):=by
 refine sx' true false none Tryz.func204 (q' 1 [aX 2 0,aw [.i .i64,.sl o8]] (q' 5 [aG 0 1,ao (.bld [.i .i64,.sl o8] [(0,1,.t 6)]),ax (w' 3 [.i .i64,.sl o8]),aS 2 3 7] (.seq (q' 8 [aG 1 1,aN,aK 0] (fO 0 12 [ar 11 10] 12 1 (q' 13 [am 11,aV 4] (rm' [(true,2,f' 16 1 1),(true,3,l' 17 16),(true,4,m' 18 4),(true,5,i' 19 1 17 18),(true,6,e' 20 1 19),(false,0,f' 14 1 3),(false,1,l' 15 14),(false,7,c' 21 270 [20]),(false,8,o' 22 (.bsl 1 1 [.sl l3] [(0,.t 21)])),(false,9,o' 23 (.app 1 24 [.sl l3] (.t 15) (.t 22))),(false, 10,f' 24 1 3),(false,11,s' 1 24 23)] [[0,1,2,3,4,5,7,6,8,9,10,11],[0,1,2,3,4,5,7,8,6,9,10,11],[0,1,2,3,4,7,5,6,8,9,10, 11],[0,1,2,3,4,7,5,8,6,9,10,11],[0,1,2,3,4,7,8,5,6,9,10,11]] [2,3])) (g' 25 [aA 11]))) (q' 26 [ae 2 3,aS 2 2 26] .ret)))) [.c 2 true 2] [(270,[],a7Q)] ?_;intro hb hE;obtain⟨hl,hv⟩:=hpre;simp only[go_sem];(repeat' first|apply cj'|intro hc|apply z6);(all_goals(try(refine(show A3U _ _ _ _ _ _ from ?_);simp only[go_sem]at hc ⊢;simp only[go_sem,A7u,A7y,A6L,A6K,A7t,A6J,nf_put_sub,A7w,A7v,nf_put_susK,nf_put_dip,nf_put_put,A7x,A7s,A6M,j8,j6,j4,j5,j7,nf_sub_sub]at hc ⊢;simp only[hc,q0R,q0I];done)));all_goals try exact om'
 refine lk' true [(true,6,1,200012)] [1,2,3,10] [2,4,3] [] (fun i:{i:Nat // i<=r.Rows.length}=>[(11,slV (.i .i64 i.1))]) (fun i=>[(6,[.c (.i .i64 r.Arity),.ow 200012])]) (fun i=>[(200012,c5N,(r.Rows.take i.1).map (d3.cells true true))]) (fun i=>r.Rows.length-i.1) (⟨0,by simp⟩) ?_;intro S0 hS0 i;obtain⟨i,hi⟩:=i;have hm:=fun(h:i<r.Rows.length)=>hv _ (y6 default h)
 have hol:(r.Rows.take i).length=i:=by rw[V9];omega
 have hsn:i<r.Rows.length->r.Rows.take (i+1)=r.Rows.take i++[r.Rows.getD i default]:=fun h=>l6 default h
 simp only[go_sem,hS0];(repeat' first|apply cj'|intro hc|apply z6);(all_goals(try((first|refine u1 5 rfl ?_);intro S hS B0 hB;simp only[go_sem,hS0,V7,q0O]at hS hB;(repeat(first|replace hS:=And.right hS|replace hS:=CJ.r hS));have Rr3:=congrArg (fun s:St=>s.sl 3) hS;have Rr20:=congrArg (fun s:St=>s.sl 20) hS;have Rb6:=congrArg (fun s:St=>s.bx 6) hS;have Rb2:=congrArg (fun s:St=>s.bx 2) hS;have Rb3:=congrArg (fun s:St=>s.bx 3) hS;have Ro200012:=congrArg (fun s:St=>s.ow 200012) hS;clear hS;simp only[go_sem,hS0]at Rr3 Rr20 Rb6 Rb2 Rb3 Ro200012;(try clear hc);intro K hc;simp only[go_sem,hS0,Rr3,Rr20,Rb6,Rb2,Rb3,Ro200012,hB,V8,q0K,V6,q0G]at hc ⊢;simp only[go_sem,hS0,Rr3,Rr20,Rb6,Rb2,Rb3,Ro200012,hB,A7u,A7y,A6L,A6K,A7t,A6J,nf_put_sub,A7w,A7v,nf_put_susK,nf_put_dip,nf_put_put,A7x,A7s,A6M,j8,j6,j4,j5,j7,nf_sub_sub]at hc ⊢;(first|(simp only[hc,q0R,q0I];done)|((repeat' first|exact hc|apply V1);done)))));all_goals try exact om'
 ·(refine lpK_n2 (⟨i+1,by omega⟩) _ (by simp only[go_sem];try rfl) ?_;simp only[go_sem,hS0]<;>repeat' first|apply V1|exact on'|fail)
  all_goals rw[hsn (by omega)]
 ·rw[k6 (by omega)]
noncomputable def a4N:CT:=p6 (fun(x:f5) h=>b0J x h)
@[go_sem] def c2r:=fun x0 x1=>nm' (fP' a4N rfl ⟨x0,x1⟩)
def a5R(s:d6)(n:List UInt8)(r:f5)(hpre:(s.Rels.length<=20000/\∀x∈s.Rels,x.Rel.Rows.length<=100000/\∀y∈x.Rel.Rows,y.V.length<1000)/\r.Rows.length<=100000/\∀y∈r.Rows,y.V.length<1000):spZ 105 [(true,[v9 s.Rels]),(false,[.s n]),(true,[.i .i64 r.Arity,a1f r.Rows])] [] (.one (true,[c5x ((⟨a2X s.Rels n ⟨n,r⟩⟩:d6).Rels)])):=by
 refine sx' true false none Tryz.func105 (q' 5 [ax (o' 3 (.box 1 (.t 0))),aX 2 2,aw [.sl a0t]] (q' 7 [ax (o' 10 (.bld [.sl a0t] [])),aw [.sl a0t],aS 1 7 10] (q' 8 [aU false] (.seq (q' 11 [aG 0 3,aN,aK 0] (fO 0 15 [ar 14 13] 15 1 (q' 16 [am 14,aV 9] (.seq (q' 17 [am 8,aO 17,am 18,aH 19 true [bm 1,bf 0 3,bL,bm 9,bI 3,bF 0,bL,bD .leq 20 26],aP 19 27] (ci 28 (.seq (rm' [(true,2,m' 31 1),(true,3,e' 32 2 5),(false,0,f' 29 0 7),(false,1,l' 30 29),(false,4,c' 33 204 [32]),(false,5,o' 34 (.bld [.s,.i .i64,.sl o8] [(0,1,.t 31),(1,2,.t 33)])),(false,6,o' 35 (.bsl 3 1 [.s,.i .i64, .sl o8] [(0,.t 34)])),(false,7,o' 36 (.app 3 48 [.s,.i .i64,.sl o8] (.t 30) (.t 35))), (false,8,f' 37 0 7),(false,9,s' 1 37 36)] [[0,1,2,4,3,5,6,7,8,9],[0,1,2,4,5,6,3,7,8,9],[0,1,4,2,3,5,6,7,8,9],[0,1,4,2, 5,6,3,7,8,9],[0,1,4,5,6,2,3,7,8,9]] [10,11]) (g' 8 [aU true])))) (q' 38 [aG 0 3,am 9,aI 3,aG 0 41,am 1,aD .neq 43 44] (ci 45 (rm' [(true,2, f' 48 0 3),(true,3,l' 49 48),(true,4,m' 50 9),(true,5,i' 51 3 49 50),(true,6,f' 52 0 51),(true,7,l' 53 52),(true,8,f' 54 0 3),(true,9,l' 55 54),(true,10,m' 56 9),(true,11,i' 57 3 55 56),(true,12,f' 58 1 57),(true,13,e' 59 2 58),(false,0,f' 46 0 7),(false,1,l' 47 46),(false, 14,c' 60 204 [59]),(false,15,o' 61 (.bld [.s,.i .i64,.sl o8] [(0,1,.t 53),(1,2,.t 60)])),(false,16,o' 62 (.bsl 3 1 [.s,.i .i64,.sl o8] [(0,.t 61)])),(false,17,o' 63 (.app 3 48 [.s,.i .i64,.sl o8] (.t 47) (.t 62))),(false,18,f' 64 0 7),(false,19,s' 1 64 63)] [[0,1,2,3,4,5,6,7,8,9,10,11,12,14,13,15,16,17,18,19],[0,1,2,3,4,5,6, 7,8,9,10,11,12,14,15,16,13,17,18,19],[0,1,2,3,4,5,6,7,8,9,10,11,14,12,13,15,16,17,18,19],[0,1,2,3,4,5,6,7,8,9,10, 11,14,12,15,16,13,17,18,19],[0,1,2,3,4,5,6,7,8,9,10,11,14,15,16,12,13,17,18,19]] [6,7]))))) (g' 65 [aA 14]))) (.seq (q' 66 [am 8,aO 66] (ci 67 (rm' [(true,2,m' 70 1),(true,3,e' 71 2 5),(false,0,f' 68 0 7),(false,1,l' 69 68),(false,4,c' 72 204 [71]),(false,5,o' 73 (.bld [.s,.i .i64,.sl o8] [(0,1,.t 70),(1,2,.t 72)])),(false,6,o' 74 (.bsl 3 1 [.s,.i .i64,.sl o8] [(0,.t 73)])),(false,7,o' 75 (.app 3 48 [.s,.i .i64,.sl o8] (.t 69) (.t 74))),(false,8,f' 76 0 7), (false,9,s' 1 76 75)] [[0,1,2,4,3,5,6,7,8,9],[0,1,2,4,5,6,3,7,8,9],[0,1,4,2,3,5,6,7,8,9],[0,1,4,2,5,6,3,7,8,9],[0, 1,4,5,6,2,3,7,8,9]] [10,11]))) (q' 77 [ae 1 7,aS 1 6 77] .ret)))))) [.c 6 true 1] [(204,[],a4N)] ?_;intro hb hE;obtain⟨⟨hlen,hv⟩,hr⟩:=hpre;simp only[go_sem];(repeat' first|apply cj'|intro hc|apply z6);(all_goals(try((first|refine u1 12 rfl ?_|refine u1 2 rfl ?_);intro S hS B0 hB;simp only[go_sem,V7,q0O]at hS hB;(repeat(first|replace hS:=And.right hS|replace hS:=CJ.r hS));have Rr7:=congrArg (fun s:St=>s.sl 7) hS;have Rr31:=congrArg (fun s:St=>s.sl 31) hS;have Rr32:=congrArg (fun s:St=>s.sl 32) hS;have Rr53:=congrArg (fun s:St=>s.sl 53) hS;have Rr59:=congrArg (fun s:St=>s.sl 59) hS;have Rr70:=congrArg (fun s:St=>s.sl 70) hS;have Rr71:=congrArg (fun s:St=>s.sl 71) hS;have Rb6:=congrArg (fun s:St=>s.bx 6) hS;have Rb7:=congrArg (fun s:St=>s.bx 7) hS;have Rb10:=congrArg (fun s:St=>s.bx 10) hS;have Rb11:=congrArg (fun s:St=>s.bx 11) hS;have Rb14:=congrArg (fun s:St=>s.bx 14) hS;have Ro200028:=congrArg (fun s:St=>s.ow 200028) hS;have Ro4608:=congrArg (fun s:St=>s.ow 4608) hS;clear hS;simp only[go_sem]at Rr7 Rr31 Rr32 Rr53 Rr59 Rr70 Rr71 Rb6 Rb7 Rb10 Rb11 Rb14 Ro200028 Ro4608;(try clear hc);intro K hc;simp only[go_sem,Rr7,Rr31,Rr32,Rr53,Rr59,Rr70,Rr71,Rb6,Rb7,Rb10,Rb11,Rb14,Ro200028,Ro4608,hB,V8,q0K,V6,q0G]at hc ⊢;simp only[go_sem,Rr7,Rr31,Rr32,Rr53,Rr59,Rr70,Rr71,Rb6,Rb7,Rb10,Rb11,Rb14,Ro200028,Ro4608,hB,A7u,A7y,A6L,A6K,A7t,A6J,nf_put_sub,A7w,A7v,nf_put_susK,nf_put_dip,nf_put_put,A7x,A7s,A6M,j8,j6,j4,j5,j7,nf_sub_sub]at hc ⊢;(first|(simp only[hc,q0R,q0I];done)|((repeat' first|exact hc|apply V1);done)))));all_goals try exact om'
 refine lk' true [(true,14,0,200028)] [1,3,5,6,7,13] [6,10,12,7,11] [] (fun i:{i:Nat // i<=s.Rels.length}=>[(8,slV (.b (a8a n ⟨n,r⟩ (s.Rels.take i.1)).2)),(14,slV (.i .i64 i.1))]) (fun i=>[(14,[.ow 200028])]) (fun i=>[(200028,b9X,((a8a n ⟨n,r⟩ (s.Rels.take i.1)).1).map (d8.cells true true))]) (fun i=>s.Rels.length-i.1) (⟨0,by simp⟩) ?_;intro S0 hS0 i;obtain⟨i,hi⟩:=i;generalize hfo:a8a n ⟨n,r⟩ (s.Rels.take i)=q;obtain⟨q1,q2⟩:=q;have hm:=fun(h:i<s.Rels.length)=>hv _ (y6 default h)
 have hql:q1.length<=2*i:=by
  have h:=b7R n ⟨n,r⟩ (s.Rels.take i) [] false;rw[show(s.Rels.take i).foldl (a1C n ⟨n,r⟩) ([],false)=(q1,q2)from hfo]at h;rw[V9]at h;simp only[q0X]at h;omega
 simp only[go_sem,hS0,hfo];(repeat' first|apply cj'|intro hc|apply z6);(all_goals(try((first|refine u1 12 rfl ?_|refine u1 2 rfl ?_);intro S hS B0 hB;simp only[go_sem,hS0,hfo,V7,q0O]at hS hB;(repeat(first|replace hS:=And.right hS|replace hS:=CJ.r hS));have Rr7:=congrArg (fun s:St=>s.sl 7) hS;have Rr31:=congrArg (fun s:St=>s.sl 31) hS;have Rr32:=congrArg (fun s:St=>s.sl 32) hS;have Rr53:=congrArg (fun s:St=>s.sl 53) hS;have Rr59:=congrArg (fun s:St=>s.sl 59) hS;have Rr70:=congrArg (fun s:St=>s.sl 70) hS;have Rr71:=congrArg (fun s:St=>s.sl 71) hS;have Rb6:=congrArg (fun s:St=>s.bx 6) hS;have Rb7:=congrArg (fun s:St=>s.bx 7) hS;have Rb10:=congrArg (fun s:St=>s.bx 10) hS;have Rb11:=congrArg (fun s:St=>s.bx 11) hS;have Rb14:=congrArg (fun s:St=>s.bx 14) hS;have Ro200028:=congrArg (fun s:St=>s.ow 200028) hS;have Ro4608:=congrArg (fun s:St=>s.ow 4608) hS;clear hS;simp only[go_sem,hS0,hfo]at Rr7 Rr31 Rr32 Rr53 Rr59 Rr70 Rr71 Rb6 Rb7 Rb10 Rb11 Rb14 Ro200028 Ro4608;(try clear hc);intro K hc;simp only[go_sem,hS0,hfo,Rr7,Rr31,Rr32,Rr53,Rr59,Rr70,Rr71,Rb6,Rb7,Rb10,Rb11,Rb14,Ro200028,Ro4608,hB,V8,q0K,V6,q0G]at hc ⊢;simp only[go_sem,hS0,hfo,Rr7,Rr31,Rr32,Rr53,Rr59,Rr70,Rr71,Rb6,Rb7,Rb10,Rb11,Rb14,Ro200028,Ro4608,hB,A7u,A7y,A6L,A6K,A7t,A6J,nf_put_sub,A7w,A7v,nf_put_susK,nf_put_dip,nf_put_put,A7x,A7s,A6M,j8,j6,j4,j5,j7,nf_sub_sub]at hc ⊢;(first|(simp only[hc,q0R,q0I];done)|((repeat' first|exact hc|apply V1);done)))));all_goals try exact om'
 ·exact hr
 ·exact hm (by omega)
 ·rename_i hy;have hs:=a5q n ⟨n,r⟩ (l:=s.Rels) (i:=i) (by omega);rw[hfo,b8p hy,hc]at hs;simp only[W4,W6,q0J]at hs
  (refine lpK_n2 (⟨i+1,by omega⟩) _ (by simp only[go_sem];try rfl) ?_;simp only[go_sem,hS0,hfo,hs]<;>repeat' first|apply V1|exact on'|fail)
  all_goals(simp only[q1U,V8,q0K,d8.cells,q1C];first|done|rfl)
 ·rename_i hy;have hs:=a5q n ⟨n,r⟩ (l:=s.Rels) (i:=i) (by omega);rw[hfo,b8p hy,hc]at hs;simp only[W4,W6,q0J]at hs
  (refine lpK_n2 (⟨i+1,by omega⟩) _ (by simp only[go_sem];try rfl) ?_;simp only[go_sem,hS0,hfo,hs]<;>repeat' first|apply V1|exact on'|fail)
  all_goals(simp only[q1U,V8,q0K,d8.cells,q1C];first|done|rfl)
 ·exact hm (by omega)
 ·rename_i hy;have hs:=a5q n ⟨n,r⟩ (l:=s.Rels) (i:=i) (by omega);rw[hfo,c2a hy,hc]at hs;simp only[W4,W6,q0J]at hs
  (refine lpK_n2 (⟨i+1,by omega⟩) _ (by simp only[go_sem];try rfl) ?_;simp only[go_sem,hS0,hfo,hs]<;>repeat' first|apply V1|exact on'|fail)
  all_goals(simp only[q1U,V8,q0K,d8.cells,q1C];first|done|rfl)
 ·rename_i hy;have hs:=a5q n ⟨n,r⟩ (l:=s.Rels) (i:=i) (by omega);rw[hfo,c2a hy,hc]at hs;simp only[W4,W6,q0J]at hs
  (refine lpK_n2 (⟨i+1,by omega⟩) _ (by simp only[go_sem];try rfl) ?_;simp only[go_sem,hS0,hfo,hs]<;>repeat' first|apply V1|exact on'|fail)
  all_goals(simp only[q1U,V8,q0K,d8.cells,q1C];first|done|rfl)
 ·exact hr
 ·rw[k6 (by omega)]at hfo;rw[a2X,hfo,hc];rfl
 ·rw[k6 (by omega)]at hfo;rw[a2X,hfo,hc];rfl
noncomputable def a5G:CT:=p6 (fun(x:d6×(List UInt8)×f5) h=>a5R x.1 x.2.1 x.2.2 h)
@[go_sem] def c3s:=fun x0 n x1 x2=>nm' (fP' a5G rfl (⟨x0⟩,n,⟨x1,x2⟩))
set_option maxHeartbeats 4000000
def d0x{a:Int}(ha:a<=100):∀(n:Nat) (c:c7) (l:List d3),(∀x∈l,x.V.length<=100)->∀x∈(b0Z a n c l).1,x.V.length<=100
 | 0,_,_,h=>h
 | n+1,c,l,h=>d0x ha n _ _ (fun x hx=>by
   rcases a2i.1 hx with hx|hx
   ·rw[hx];show(a0l c a.toNat).1.length<=100;rw[a3K];omega
   ·exact h x hx)
def smallR(r:f5):Prop:=r.Rows.length<=1000/\∀y∈r.Rows,y.V.length<=100
def smallS(l:List d8):Prop:=∀x∈l,smallR x.Rel
def b5K{a:Int}(ha:a<=100)(c:c7):smallR ⟨a,(a3M c a).1⟩:=
 ⟨by have:=(b8i ha c).1;show(a3M c a).1.length<=1000;omega,d0x ha _ _ _ (fun x hx=>by cases hx)⟩
def a5c(l:List d8)(n:List UInt8)(v:d8):(a2X l n v).length<=l.length+1:=by
 rw[c5L,W5,V5];have h1:=q2P (fun x:d8=>!(x.Name==n)) (l.dropWhile fun x=>sLt x.Name n);have h2:=congrArg List.length (q1V (p:=fun x:d8=>sLt x.Name n) (l:=l));rw[W5]at h2;omega
def smallS.set{l:List d8}(h:smallS l)(n:List UInt8){r:f5}(hr:smallR r):smallS (a2X l n ⟨n,r⟩):=fun x hx=>by
 rcases d0l hx with hx|hx
 ·rw[hx];exact hr
 ·exact h x hx
def smallS.pre{l:List d8}(h:smallS l):∀x∈l,x.Rel.Rows.length<=100000/\∀y∈x.Rel.Rows,y.V.length<1000:=fun x hx=>⟨by have:=(h x hx).1;omega,fun y hy=>by have:=(h x hx).2 y hy;omega⟩
def smallR.pre{r:f5}(h:smallR r):r.Rows.length<=100000/\∀y∈r.Rows,y.V.length<1000:=⟨by have:=h.1;omega,fun y hy=>by have:=h.2 y hy;omega⟩
def b1r(a n:Nat)(b:Int)(ha:a<=100)(hn:n<=1000):smallR ⟨b,a0L a n⟩:=by
 refine⟨by show(a0L a n).length<=1000;rw[a0L,q0H,q4C];exact hn,fun y hy=>?_⟩;obtain⟨i,_,rfl⟩:=q1E.1 hy;show(List.replicate a _).length<=100;rw[List.length_replicate];exact ha
def bigT:List UInt8:=[98,105,103]
def c0Z(c:c7):c7:=(a3M (i6 (i6 c 10) 3) (i7 (i6 c 10) 3)).2
def b4o(c:c7)(l:List d8):List d8:=a2X l (b6J.getD (i7 c 10).toNat []) ⟨b6J.getD (i7 c 10).toNat [],⟨i7 (i6 c 10) 3,(a3M (i6 (i6 c 10) 3) (i7 (i6 c 10) 3)).1⟩⟩
def a4P:Nat->c7->List d8->List d8×c7
 | 0,c,l=>(l,c)
 | n+1,c,l=>a4P n (c0Z c) (b4o c l)
def c1a{c:c7}(h:k7 c):k7 (c0Z c):=c5K (i8 (i8 h 10) 3) _
def c1b{c:c7}{l:List d8}(h:smallS l):smallS (b4o c l)/\(b4o c l).length<=l.length+1:=by
 have hb:=j9 (i6 c 10) (n:=3) (by omega);exact⟨h.set _ (b5K (by omega) _),a5c _ _ _⟩
def a1j(c:c7):List d8×c7:=
 let q:=a4P (i7 c 4).toNat (i6 c 4) []
 bif i7 q.2 25==0 then(a2X q.1 bigT ⟨bigT,⟨2,a0L 2 300⟩⟩,i6 q.2 25)else(q.1,i6 q.2 25)
def b5l(c:c7)(hpre:k7 c):spZ 237 [(false,[.mp [.sl false [.i .u8 0] (c.b.map cU8),.i .i64 c.i,.i .i64 c.h]])] [(0,(false,[.mp [.sl false [.i .u8 0] ((((a1j c).2).b).map cU8),.i .i64 (((a1j c).2).i),.i .i64 (((a1j c).2).h)]]))] (.one (true,[c5x ((⟨(a1j c).1⟩:d6).Rels)])):=by
 refine sx' true false (some 0) Tryz.func237 (q' 2 [aw [.sl a0t]] (q' 3 [ax (o' 5 (.bld [.sl a0t] [])),aw [.sl a0t],aS 1 3 5] (.seq (q' 6 [am 0,ao (.call 33 [.t 6,.k (.v false [.c (.i .i64 4)])]),aV 4] (fo 0 8 [am 4,aC .gtr 8 0] 9 1 (rm' [(true,1,m' 13 0),(true,3,m' 15 0),(true,4,m' 16 0),(false,0,e' 12 1 3), (false,2,c' 14 297 [13]),(false,5,o' 17 (.call 33 [.t 16,.k (.v false [.c (.i .i64 3)])])),(false,6,c' 18 298 [15,17]),(false,7,c' 19 105 [12, 14,18]),(false,8,s' 1 3 19)] [[0,1,2,4,3,5,6,7,8],[0,1,2,4,5,3,6,7,8],[0,1,2,4,5,6,3,7,8]] []) (g' 10 [am 4,aC .sub 10 1,aV 4]))) (.seq (q' 20 [am 0,ao (.call 33 [.t 20,.k (.v false [.c (.i .i64 25)])]),aC .eql 21 0] (ci 22 (rm' [(false,0,e' 23 1 3),(false,1,o' 24 (.call 144 [.k (.v false [.c (.i .i64 2)]),.k (.v false [.c (.i .i64 300)])])),(false,2,o' 25 (.call 105 [.t 23,.k (.v false [.c (.s [98,105,103])]),.t 24])), (false,3,s' 1 3 25)] [[1,0,2,3]] []))) (q' 26 [ae 1 3,aS 1 2 26] .ret))))) [.c 2 true 1] [(33,[0],l5),(297,[0],a3r),(298,[0],a4q),(144,[],a2b),(105,[],a5G)] ?_;intro hb hE;have h1:=i8 hpre 4;have hb:=j9 c (n:=4) (by omega);simp only[go_sem];(repeat' first|apply cj'|intro hc|apply z6);(all_goals(try(refine(show A3U _ _ _ _ _ _ from ?_);simp only[go_sem]at hc ⊢;simp only[go_sem,A7u,A7y,A6L,A6K,A7t,A6J,nf_put_sub,A7w,A7v,nf_put_susK,nf_put_dip,nf_put_put,A7x,A7s,A6M,j8,j6,j4,j5,j7,nf_sub_sub]at hc ⊢;simp only[hc,q0R,q0I];done)));all_goals try exact om'
 ·exact hpre
 refine lk' true [(true,6,0,200012)] [0,2,3] [4] [] (fun i:{q:Nat×c7×List d8 // (q.1<=3/\k7 q.2.1)/\q.2.2.length+q.1<=10/\smallS q.2.2/\a4P q.1 q.2.1 q.2.2=a4P (i7 c 4).toNat (i6 c 4) []}=>[(4,slV (.i .i64 i.1.1))]) (fun i=>[(6,[.ow 200012]),(1,[.c (.sl false [.i .u8 0] (i.1.2.1.b.map cU8)),.c (.i .i64 i.1.2.1.i),.c (.i .i64 i.1.2.1.h)])]) (fun i=>[(200012,b9X,i.1.2.2.map (d8.cells true true))]) (fun i=>i.1.1) (⟨((i7 c 4).toNat,i6 c 4,[]),⟨by show(i7 c 4).toNat<=3;omega,h1⟩,by show 0+(i7 c 4).toNat<=10;omega,(fun x hx=>by cases hx),rfl⟩) ?_;intro S0 hS0 i;obtain⟨⟨k,d,l⟩,⟨hk,hd⟩,hl,hf,he⟩:=i;simp only at hk hd hl hf he;have h2:=i8 hd 10;have h3:=i8 h2 3;have hb3:=j9 (i6 d 10) (n:=3) (by omega);have h4:=b5K (a:=i7 (i6 d 10) 3) (by omega) (i6 (i6 d 10) 3);have h5:=c1a hd;have h6:=c1b (c:=d) hf;have h7:=smallS.pre hf;have h8:=smallR.pre h4;have hsd:k=0->a1j c=bif i7 d 25==0 then(a2X l bigT ⟨bigT,⟨2,a0L 2 300⟩⟩,i6 d 25)else(l,i6 d 25):=fun hk0=>by rw[a1j,<-he,hk0];rfl
 simp only[go_sem,hS0];(repeat' first|apply cj'|intro hc|apply z6);(all_goals(try((first|refine u1 3 rfl ?_|refine u1 0 rfl ?_);intro S hS B0 hB;simp only[go_sem,hS0,V7,q0O]at hS hB;(repeat(first|replace hS:=And.right hS|replace hS:=CJ.r hS));have Rr3:=congrArg (fun s:St=>s.sl 3) hS;have Rr13:=congrArg (fun s:St=>s.sl 13) hS;have Rr15:=congrArg (fun s:St=>s.sl 15) hS;have Rr16:=congrArg (fun s:St=>s.sl 16) hS;have Rb1:=congrArg (fun s:St=>s.bx 1) hS;have Rb6:=congrArg (fun s:St=>s.bx 6) hS;have Ro200012:=congrArg (fun s:St=>s.ow 200012) hS;clear hS;simp only[go_sem,hS0]at Rr3 Rr13 Rr15 Rr16 Rb1 Rb6 Ro200012;(try clear hc);intro K hc;simp only[go_sem,hS0,Rr3,Rr13,Rr15,Rr16,Rb1,Rb6,Ro200012,hB,V8,q0K,V6,q0G]at hc ⊢;simp only[go_sem,hS0,Rr3,Rr13,Rr15,Rr16,Rb1,Rb6,Ro200012,hB,A7u,A7y,A6L,A6K,A7t,A6J,nf_put_sub,A7w,A7v,nf_put_susK,nf_put_dip,nf_put_put,A7x,A7s,A6M,j8,j6,j4,j5,j7,nf_sub_sub,o6,m7,o5,t7,m9,t6,m8]at hc ⊢;simp only[a0o]at hc ⊢;(first|(simp only[hc,q0R,q0I];done)|((repeat' first|exact hc|apply V1);done)))));all_goals try exact om'
 ·exact hd
 ·exact h2
 ·exact⟨⟨h3,hb3.1⟩,by omega⟩
 ·exact⟨⟨⟨by omega,h7⟩,h8.1⟩,h8.2⟩
 ·have hw:IntKind.i64.wrap ((k:Int)-1)=((k-1:Nat):Int):=by rw[IntWalk.i64_in _ ⟨by omega,by omega⟩];omega
  have he2:a4P (k-1) (c0Z d) (b4o d l)=a4P (i7 c 4).toNat (i6 c 4) []:=by rw[<-he,show k=k-1+1 by omega];rfl
  have h9:=h6.2
  (refine lpK_n2 (⟨(k-1,c0Z d,b4o d l),⟨by show k-1<=3;omega,h5⟩,by show(b4o d l).length+(k-1)<=10;omega,h6.1,he2⟩) _ (by simp only[go_sem];try rfl) ?_;simp only[go_sem,hS0]<;>repeat' first|apply V1|exact on'|fail)
 ·exact hd
 ·have h9:=smallR.pre (b1r 2 300 2 (by omega) (by omega));exact⟨⟨⟨by omega,h7⟩,h9.1⟩,h9.2⟩
 ·rw[hsd (by omega),hc];exact⟨rfl,rfl⟩
 ·rw[hsd (by omega),hc];exact⟨rfl,rfl⟩
noncomputable def a6D:CT:=p6 (fun(x:c7) h=>b5l x h)
@[go_sem] def c4R:=fun x0 x1 x2=>nm' (fP' a6D rfl ⟨x0,x1,x2⟩)
def c1c:∀(n:Nat) {c:c7} {l:List d8},k7 c->smallS l->k7 (a4P n c l).2/\smallS (a4P n c l).1/\(a4P n c l).1.length<=l.length+n
 | 0,_,_,h,g=>⟨h,g,by simp[a4P]⟩
 | n+1,c,l,h,g=>by
   have h1:=c1b (c:=c) g;have h2:=c1c n (c1a h) h1.1;exact⟨h2.1,h2.2.1,by have:=h2.2.2;have:=h1.2;show(a4P n (c0Z c) (b4o c l)).1.length<=_;omega⟩
def c7X{c:c7}(h:k7 c):k7 (a1j c).2/\smallS (a1j c).1/\(a1j c).1.length<=4:=by
 have hb:=j9 c (n:=4) (by omega);obtain⟨h1,h2,h3⟩:=c1c (i7 c 4).toNat (l:=[]) (i8 h 4) (fun x hx=>by cases hx)
 simp only[q0X]at h3;rw[a1j];cases i7 (a4P (i7 c 4).toNat (i6 c 4) []).2 25==0 with
 | true=>exact⟨i8 h1 25,h2.set _ (b1r 2 300 2 (by omega) (by omega)),by have:=a5c (a4P (i7 c 4).toNat (i6 c 4) []).1 bigT ⟨bigT,⟨2,a0L 2 300⟩⟩;simp only[W4];omega⟩
 | false=>exact⟨i8 h1 25,h2,by simp only[W6];omega⟩
end Go.Aw
namespace Go.Aw
set_option linter.all false
set_option maxHeartbeats 4000000
def St.frZ(st:St)(k:Nat):St:=match st.ow k with|some (d,l)=>((st.frN k).dip k).setOw k (C.freeL d) (C.freeRs l)|none=>st
def Sim.frZ{P:Program}{Γ:Ctx}{γ:G}{st:St}{a:Act}{w:World}{B:Base}{N:Nat}(hS:Sim N B γ st a w)(k:Nat):∃γ',Sim N B γ' (st.frZ k) a w:=by
 cases hk:st.ow k with
 | none=>exact⟨γ,by simp only[St.frZ,hk];exact hS⟩
 | some q=>
   obtain⟨d,l⟩:=q;obtain⟨γ1,h1⟩:=hS.frN (P:=P) (Γ:=Γ) k;have hk1:(st.frN k).ow k=some (d,C.freeRs l):=by simp[St.frN,hk,St.setOw]
   obtain⟨hrd,hnd⟩:=h1.ow k _ _ hk1;simp only[St.frZ,hk];refine⟨_,h1.turnKey (w':=w) hk1 ⟨fun _ _ _=>rfl,q0A _,rfl,Tp.of rfl rfl,rfl⟩ (C.freeL_length d) (fp:=γ1.f k) ?_ hnd (fun b hb=>.inl hb)⟩;unfold C.Rd at hrd ⊢;rw[C.freeL_length];exact hrd
def aw_frZ{P:Program}{Γ:Ctx}{N:Nat}{e:E P Γ N}{Q:Exit->St->Prop}{st:St}{x:ACode}(k:Nat)(h:AW e x Q (st.frZ k)):AW e x Q st:=by
 intro c hc γ a w hS;obtain⟨γ',hS'⟩:=hS.frZ (P:=P) (Γ:=Γ) k;exact h c hc γ' a w hS'
open Go.Proofs
attribute [local irreducible] aft blk lpK retK AW A0p
set_option maxRecDepth 100000
attribute [local irreducible] RM
def b2G(s:d6)(n:List UInt8)(r:f5)(hpre:(s.Rels.length<=20000/\∀x∈s.Rels,x.Rel.Rows.length<=100000/\∀y∈x.Rel.Rows,y.V.length<1000)/\r.Rows.length<=100000/\∀y∈r.Rows,y.V.length<1000):spZ 105 [(true,[v9 s.Rels]),(false,[.s n]),(true,[.i .i64 r.Arity,a1f r.Rows])] [] (.one (true,[v9 ((⟨a2X s.Rels n ⟨n,r⟩⟩:d6).Rels)])):=by
 exact a1T (a5R s n r hpre) (by simp only[go_sem,R.free,List.map])
noncomputable def a0w:CT:=p6 (fun(x:d6×(List UInt8)×f5) h=>b2G x.1 x.2.1 x.2.2 h)
@[go_sem] def a3t:=fun x0 n x1 x2=>nm' (fP' a0w rfl (⟨x0⟩,n,⟨x1,x2⟩))
def zT(i:Nat):List UInt8:=[122]++a9E (10+i)
def b9K:Nat->Nat->c7->List d8->List d8×c7
 | 0,i,c,l=>(l,c)
 | n+1,i,c,l=>bif decide ((i:Int)<24+i7 c 2)then b9K n (i+1) (i6 c 2) (a2X l (zT i) ⟨zT i,⟨0,[]⟩⟩)else(l,i6 c 2)
def padZ_on{i:Nat}{c:c7}{l:List d8}(h:(i:Int)<24+i7 c 2):b9K (26-i+1) i c l=b9K (26-(i+1)+1) (i+1) (i6 c 2) (a2X l (zT i) ⟨zT i,⟨0,[]⟩⟩):=by
 have hb:=j9 c (n:=2) (by omega);rw[show 26-i+1=(26-(i+1)+1)+1 by omega,b9K,V0 h,W4]
def d0q{i:Nat}{c:c7}{l:List d8}(h:¬(i:Int)<24+i7 c 2):b9K (26-i+1) i c l=(l,i6 c 2):=by
 rw[b9K,V3 h];rfl
def a8Q(l:List d8)(c:c7)(k:Int):List d8×c7:=
 if k=0 then(if l.length=0 then(l,c)else(l.set (i7 c l.length).toNat ⟨fewT.getD (i7 (i6 c l.length) 18).toNat [],(l.getD (i7 c l.length).toNat default).Rel⟩,i6 (i6 c l.length) 18))
 else if k=1 then(if l.length=0 then(l,c)else(l.set (i7 c l.length).toNat ⟨(l.getD (i7 c l.length).toNat default).Name,(a5g (i6 c l.length)).1⟩,(a5g (i6 c l.length)).2))
 else if k=2 then(if 1<l.length then((l.set 0 (l.getD (l.length-1) default)).set (l.length-1) (l.getD 0 default),c)else(l,c))
 else if k=3 then b9K (26-l.length+1) l.length c l
 else(l,c)
def b6F(c:c7):List d8×c7:=a8Q (a1j c).1 (i6 (a1j c).2 16) (i7 (a1j c).2 16)
@[go_sem] def a6d:ACode:=q' 2 [aw [.sl a0t]] (q' 8 [am 0,ac 237 [8],ax (w' 3 [.sl a0t]),aS 1 3 9] (q' 10 [aG 0 3,aN,aV 4] (q' 13 [am 0,ao (.call 33 [.t 13,.k (.v false [.c (.i .i64 16)])]),aV 5] (.seq (q' 15 [am 5,aC
 .eql 15 0,am 16,aH 17 true [bm 4,bC .gtr 18 0],aP 17 19] (ci 20 (rm' [(true,0,f' 21 0 3),(true,2,m' 23 0),(true,3,m' 24 4),(true,5,m' 26 0),
 (false,1,l' 22 21),(false,4,c' 25 33 [23,24]),(false,6,c' 27 238 [26]),(false,7,i' 28 3 22 25),(false,8,f' 29 0 28),(false,9,s' 1 29 27)]
 [[0,1,2,3,5,4,6,7,8,9],[0,1,2,3,5,6,4,7,8,9]] [6,7]))) (.seq (q' 30 [am 5,aC .eql 30 1,am 31,aH 32 true [bm 4,bC .gtr 33 0],aP 32 34] (ci
 35 (rm' [(true,0,f' 36 0 3),(true,2,m' 38 0),(true,3,m' 39 4),(true,5,m' 41 0),(false,1,l' 37 36),(false,4,c' 40 33 [38,39]),(false,6,c'
 42 239 [41]),(false,7,i' 43 3 37 40),(false,8,f' 44 1 43),(false,9,s' 2 44 42)] [[0,1,2,3,5,4,6,7,8,9],[0,1,2,3,5,6,4,7,8,9]] [6,
 7]))) (.seq (q' 45 [am 5,aC .eql 45 2,am 46,aH 47 true [bm 4,bC .gtr 48 1],aP 47 49] (ci 50 (q' 51 [aG 0 3,ao (.ia 3 (.t 52) (k' 0)),aE 3,ax (w' 6 [.s,.i
 .i64,.sl o8]),aS 3 6 54] (.seq (.rego [(true,0,f' 55 0 3),(true,2,f' 57 0 3),(true,4,m' 59 4),(true,5,o' 60 (.bin
 .sub (.t 59) (k' 1))),(false,1,l' 56 55),(false,3,l' 58 57),(false,6,i' 61 3 58 60),(false,7,e' 62 3 61),(false,8,o' 63 (.ia 3 (.t 56) (k'
 0))),(false,9,s' 3 63 62)] [6,7]) (g' 64 [aG 0 3,am 4,aC .sub 66 1,ae 3 6,ai 3 65 67,aS 3 69 68]))))) (.seq (q' 70 [am 5,aC .eql 70 3] (ci 71 (q' 72 [aG 0
 3,aN,aV 7] (fo 0 75 [aM [7,0],ao (.call 33 [.t 76,.k (.v false [.c (.i .i64 2)])]),ao (.bin .add (k' 24) (.t 77)),ar 75 78] 79 1 (.regm [(true,1,m' 83 7),
 (true,2,o' 84 (.bin .add (k' 10) (.t 83))),(true,5,o' 87 (.bld [.i .i64,.sl o8] [])),(false,0,e' 82 1 3),(false,3,
 c' 85 60 [84]),(false,4,o' 86 (.bin .add (.k (.v false [.c (.s [122])])) (.t 85))),(false,6,c' 88 105 [82,86,87]),(false,7,s' 1 3 88)] [[(true,1,
 m' 83 7),(true,2,o' 84 (.bin .add (k' 10) (.t 83))),(true,5,o' 87 (.bld [.i .i64,.sl o8] [])),(false,3,c' 85 60
 [84]),(true,4,o' 86 (.bin .add (.k (.v false [.c (.s [122])])) (.t 85))),(false,0,e' 82 1 3),(false,6,c' 88 105 [82,86,87]),(false,7,s' 1 3
 88)]] []) (g' 80 [aB 7]))))) (q' 89 [ae 1 3,aS 1 2 89] .ret))))))))
def b4B:cmp Tryz.prog Tryz.f143=some a6d:=by kernel_rfl
def b7m(c:c7)(hpre:k7 c):spZ 143 [(false,[.mp [.sl false [.i .u8 0] (c.b.map cU8),.i .i64 c.i,.i .i64 c.h]])] [(0,(false,[.mp [.sl false [.i .u8 0] ((((b6F c).2).b).map cU8),.i .i64 (((b6F c).2).i),.i .i64 (((b6F c).2).h)]]))] (.one (true,[v9 ((⟨(b6F c).1⟩:d6).Rels)])):=by
 refine sq' false true (some 0) Tryz.func143 b4B [.c 2 true 1] [(237,[0],a6D),(33,[0],l5),(238,[0],a2a),(239,[0],a7R),(60,[],a3q),(105,[],a0w)] ?_;intro hb hE;simp only[go_sem]at hb;simp only[a6d,x'];obtain⟨h1,hs,hl⟩:=c7X hpre;have h2:=i8 h1 16;have hk:=j9 (a1j c).2 (n:=16) (by omega);obtain⟨a,ha⟩:∃a,b6F c=a:=⟨_,rfl⟩
 rw[ha];rw[b6F]at ha;refine aw_seq (A3s ?_);simp only[go_sem,pc_susB,Int.reduceBEq];refine aft_n (aw_seq (A3s ?_));simp only[go_sem,pc_susB,Int.reduceBEq];refine cj' hpre (aft_n (aw_frZ 1152 (aw_seq (A3s ?_))));simp only[go_sem,pc_susB,Int.reduceBEq,St.frZ,St.frN];refine aft_n (aw_seq (A3s ?_));simp only[go_sem,pc_susB,Int.reduceBEq];refine cj' h1 ?_;generalize(a1j c).1=l at*;generalize i6 (a1j c).2 16=f at*;generalize i7 (a1j c).2 16=k at*;have hb:=fun h:l.length≠0=>j9 f (n:=l.length) (by omega)
 have h4:=i8 h2 l.length;have hw:IntKind.i64.wrap ((l.length:Int)-1)=(l.length:Int)-1:=IntWalk.i64_in _ ⟨by omega,by omega⟩;have hwt:((l.length:Int)-1).toNat=l.length-1:=by omega
 have hk4:k=0\/k=1\/k=2\/k=3\/4<=k:=by omega
 rcases hk4 with rfl|rfl|rfl|rfl|hk4
 ·repeat(refine aft_n (aw_seq (A3s ?_));simp only[go_sem,pc_susB,Int.reduceBEq,hw,hwt])
  refine cj' (fun hc=>?_) (fun hc=>?_)
  ·refine⟨?_, ?_⟩
   ·(all_goals(try((first|refine u1 4 rfl ?_);intro S hS B0 hB;simp only[go_sem,pc_susB,Int.reduceBEq,hw,hwt,V7,q0O]at hS hB;(repeat(first|replace hS:=And.right hS|replace hS:=CJ.r hS));have Rr21:=congrArg (fun s:St=>s.sl 21) hS;have Rr23:=congrArg (fun s:St=>s.sl 23) hS;have Rr24:=congrArg (fun s:St=>s.sl 24) hS;have Rr26:=congrArg (fun s:St=>s.sl 26) hS;have Rb1:=congrArg (fun s:St=>s.bx 1) hS;have Rb6:=congrArg (fun s:St=>s.bx 6) hS;have Rb7:=congrArg (fun s:St=>s.bx 7) hS;have Ro1152:=congrArg (fun s:St=>s.ow 1152) hS;clear hS;simp only[go_sem,pc_susB,Int.reduceBEq,hw,hwt]at Rr21 Rr23 Rr24 Rr26 Rb1 Rb6 Rb7 Ro1152;(try clear hc);intro K hc;simp only[go_sem,pc_susB,Int.reduceBEq,hw,hwt,Rr21,Rr23,Rr24,Rr26,Rb1,Rb6,Rb7,Ro1152,hB,V8,q0K,V6,q0G]at hc ⊢;simp only[go_sem,pc_susB,Int.reduceBEq,hw,hwt,Rr21,Rr23,Rr24,Rr26,Rb1,Rb6,Rb7,Ro1152,hB,A7u,A7y,A6L,A6K,A7t,A6J,nf_put_sub,A7w,A7v,nf_put_susK,nf_put_dip,nf_put_put,A7x,A7s,A6M,j8,j6,j4,j5,j7,nf_sub_sub,o6,m7,o5,t7,m9,t6,m8]at hc ⊢;simp only[a0o]at hc ⊢;(first|(simp only[hc,q0R,q0I];done)|((repeat' first|exact hc|apply V1);done)))))
   ·repeat(first|refine cj' h2 ?_|refine cj' h4 ?_|refine cj' (hb (by omega)) ?_|refine cj' (by have:=hb (by omega);omega) ?_)
    repeat(refine aft_n (aw_seq (A3s ?_));simp only[go_sem,pc_susB,Int.reduceBEq,hw,hwt])
    refine aft_n (aw_ret ?_);simp only[go_sem,pc_susB,Int.reduceBEq,hw,hwt];rw[a8Q,if_pos rfl,if_neg (by omega)]at ha;subst ha;exact⟨rfl,rfl⟩
  ·repeat(refine aft_n (aw_seq (A3s ?_));simp only[go_sem,pc_susB,Int.reduceBEq,hw,hwt])
   refine aft_n (aw_ret ?_);simp only[go_sem,pc_susB,Int.reduceBEq,hw,hwt];rw[a8Q,if_pos rfl,if_pos (by omega)]at ha;subst ha;exact⟨rfl,rfl⟩
 ·repeat(refine aft_n (aw_seq (A3s ?_));simp only[go_sem,pc_susB,Int.reduceBEq,hw,hwt])
  refine cj' (fun hc=>?_) (fun hc=>?_)
  ·refine⟨?_, ?_⟩
   ·(all_goals(try((first|refine u1 4 rfl ?_);intro S hS B0 hB;simp only[go_sem,pc_susB,Int.reduceBEq,hw,hwt,V7,q0O]at hS hB;(repeat(first|replace hS:=And.right hS|replace hS:=CJ.r hS));have Rr36:=congrArg (fun s:St=>s.sl 36) hS;have Rr38:=congrArg (fun s:St=>s.sl 38) hS;have Rr39:=congrArg (fun s:St=>s.sl 39) hS;have Rr41:=congrArg (fun s:St=>s.sl 41) hS;have Rb1:=congrArg (fun s:St=>s.bx 1) hS;have Rb6:=congrArg (fun s:St=>s.bx 6) hS;have Rb7:=congrArg (fun s:St=>s.bx 7) hS;have Ro1152:=congrArg (fun s:St=>s.ow 1152) hS;clear hS;simp only[go_sem,pc_susB,Int.reduceBEq,hw,hwt]at Rr36 Rr38 Rr39 Rr41 Rb1 Rb6 Rb7 Ro1152;(try clear hc);intro K hc;simp only[go_sem,pc_susB,Int.reduceBEq,hw,hwt,Rr36,Rr38,Rr39,Rr41,Rb1,Rb6,Rb7,Ro1152,hB,V8,q0K,V6,q0G]at hc ⊢;simp only[go_sem,pc_susB,Int.reduceBEq,hw,hwt,Rr36,Rr38,Rr39,Rr41,Rb1,Rb6,Rb7,Ro1152,hB,A7u,A7y,A6L,A6K,A7t,A6J,nf_put_sub,A7w,A7v,nf_put_susK,nf_put_dip,nf_put_put,A7x,A7s,A6M,j8,j6,j4,j5,j7,nf_sub_sub,o6,m7,o5,t7,m9,t6,m8]at hc ⊢;simp only[a0o]at hc ⊢;(first|(simp only[hc,q0R,q0I];done)|((repeat' first|exact hc|apply V1);done)))))
   ·repeat(first|refine cj' h2 ?_|refine cj' h4 ?_|refine cj' (hb (by omega)) ?_|refine cj' (by have:=hb (by omega);omega) ?_)
    repeat(refine aft_n (aw_seq (A3s ?_));simp only[go_sem,pc_susB,Int.reduceBEq,hw,hwt])
    refine aft_n (aw_ret ?_);simp only[go_sem,pc_susB,Int.reduceBEq,hw,hwt];rw[a8Q,if_neg (by decide),if_pos rfl,if_neg (by omega)]at ha;subst ha;exact⟨rfl,rfl⟩
  ·repeat(refine aft_n (aw_seq (A3s ?_));simp only[go_sem,pc_susB,Int.reduceBEq,hw,hwt])
   refine aft_n (aw_ret ?_);simp only[go_sem,pc_susB,Int.reduceBEq,hw,hwt];rw[a8Q,if_neg (by decide),if_pos rfl,if_pos (by omega)]at ha;subst ha;exact⟨rfl,rfl⟩
 ·repeat(refine aft_n (aw_seq (A3s ?_));simp only[go_sem,pc_susB,Int.reduceBEq,hw,hwt])
  refine cj' (fun hc=>?_) (fun hc=>?_)
  ·repeat(first|refine cj' (by omega) ?_)
   repeat(refine aft_n (aw_seq (A3s ?_));simp only[go_sem,pc_susB,Int.reduceBEq,hw,hwt])
   refine aft_n (aw_ret ?_);simp only[go_sem,pc_susB,Int.reduceBEq,hw,hwt];rw[a8Q,if_neg (by decide),if_neg (by decide),if_pos rfl,if_pos (by omega)]at ha;subst ha;exact⟨rfl,rfl⟩
  ·repeat(refine aft_n (aw_seq (A3s ?_));simp only[go_sem,pc_susB,Int.reduceBEq,hw,hwt])
   refine aft_n (aw_ret ?_);simp only[go_sem,pc_susB,Int.reduceBEq,hw,hwt];rw[a8Q,if_neg (by decide),if_neg (by decide),if_pos rfl,if_neg (by omega)]at ha;subst ha;exact⟨rfl,rfl⟩
 ·repeat(refine aft_n (aw_seq (A3s ?_));simp only[go_sem,pc_susB,Int.reduceBEq,hw,hwt])
  refine a1v 1152 ?_;rw[a8Q,if_neg (by decide),if_neg (by decide),if_neg (by decide),if_pos rfl]at ha;refine lq' false [0,2,3] [4] [] (fun i:{q:Nat×c7×List d8 // (k7 q.2.1/\q.1<=30)/\smallS q.2.2/\q.2.2.length<=q.1+10/\b9K (26-q.1+1) q.1 q.2.1 q.2.2=b9K (26-l.length+1) l.length f l}=>[(7,slV (.i .i64 i.1.1))]) (fun i=>[(6,[.c (v9 i.1.2.2)]),(1,[.c (.sl false [.i .u8 0] (i.1.2.1.b.map cU8)),.c (.i .i64 i.1.2.1.i),.c (.i .i64 i.1.2.1.h)])]) nl' (fun i=>31-i.1.1) (⟨(l.length,f,l),⟨h2,by show l.length<=30;omega⟩,hs,by show l.length<=l.length+10;omega,rfl⟩) ?_;intro S0 hS0 i;obtain⟨⟨j,d,t⟩,⟨hd,hj⟩,hts,htl,he⟩:=i;simp only at hd hj hts htl he;have hb2:=j9 d (n:=2) (by omega);have hd2:=i8 hd 2;have w1:IntKind.i64.wrap (24+i7 d 2)=24+i7 d 2:=IntWalk.i64_in _ ⟨by omega,by omega⟩;have w2:IntKind.i64.wrap (10+(j:Int))=10+(j:Int):=IntWalk.i64_in _ ⟨by omega,by omega⟩;have hp:=smallS.pre hts;have hnl:=c1D (10+(j:Int));have zs:∀(t:List d8) (n:List UInt8),a0w [(true,[v9 t]),(false,[.s n]),(true,zFRel)]=_:=fun t n=>a3t t n 0 []
  simp only[go_sem,pc_susB,Int.reduceBEq,hw,hwt,hS0,w1,w2,zs];(repeat' first|apply cj'|intro hc|apply z6);(all_goals(try((first|refine u1 3 rfl ?_);intro S hS B0 hB;simp only[go_sem,pc_susB,Int.reduceBEq,hw,hwt,hS0,w1,w2,zs,V7,q0O]at hS hB;(repeat(first|replace hS:=And.right hS|replace hS:=CJ.r hS));have Rr3:=congrArg (fun s:St=>s.sl 3) hS;have Rr83:=congrArg (fun s:St=>s.sl 83) hS;have Rr84:=congrArg (fun s:St=>s.sl 84) hS;have Rr87:=congrArg (fun s:St=>s.sl 87) hS;have Rb6:=congrArg (fun s:St=>s.bx 6) hS;clear hS;simp only[go_sem,pc_susB,Int.reduceBEq,hw,hwt,hS0,w1,w2,zs]at Rr3 Rr83 Rr84 Rr87 Rb6;(try clear hc);intro K hc;simp only[go_sem,pc_susB,Int.reduceBEq,hw,hwt,hS0,w1,w2,zs,Rr3,Rr83,Rr84,Rr87,Rb6,hB,V8,q0K,V6,q0G]at hc ⊢;simp only[go_sem,pc_susB,Int.reduceBEq,hw,hwt,hS0,w1,w2,zs,Rr3,Rr83,Rr84,Rr87,Rb6,hB,A7u,A7y,A6L,A6K,A7t,A6J,nf_put_sub,A7w,A7v,nf_put_susK,nf_put_dip,nf_put_put,A7x,A7s,A6M,j8,j6,j4,j5,j7,nf_sub_sub,o6,m7,o5,t7,m9,t6,m8]at hc ⊢;simp only[a0o]at hc ⊢;(first|(simp only[hc,q0R,q0I];done)|((repeat' first|exact hc|apply V1);done)))));all_goals try exact om'
  ·exact hd
  ·exact⟨by omega,hp⟩
  ·have w3:IntKind.i64.wrap ((j:Int)+1)=((j+1:Nat):Int):=by rw[IntWalk.i64_in _ ⟨by omega,by omega⟩];omega
   have h9:=a5c t (zT j) ⟨zT j,⟨0,[]⟩⟩;have h10:=hts.set (zT j) (r:=⟨0,[]⟩) ⟨q2G _,fun y hy=>by cases hy⟩
   (refine lpK_n2 (⟨(j+1,i6 d 2,a2X t (zT j) ⟨zT j,⟨0,[]⟩⟩),⟨hd2,by show j+1<=30;omega⟩,h10,by show(a2X t (zT j) ⟨zT j,⟨0,[]⟩⟩).length<=j+1+10;omega,(padZ_on hc).symm.trans he⟩) _ rfl ?_;simp only[go_sem,pc_susB,Int.reduceBEq,hw,hwt,hS0,w1,w2,zs]<;>repeat' first|apply V1|exact on'|fail)
  ·repeat(refine aft_n (aw_seq (A3s ?_));simp only[go_sem,pc_susB,Int.reduceBEq,hw,hwt,hS0,w1,w2,zs])
   refine aft_n (aw_ret ?_);simp only[go_sem,pc_susB,Int.reduceBEq,hw,hwt,hS0,w1,w2,zs];rw[d0q hc]at he;rw[<-he]at ha;subst ha;exact⟨rfl,rfl⟩
 ·obtain⟨e0,e1,e2,e3⟩:(k==0)=false/\(k==1)=false/\(k==2)=false/\(k==3)=false:=by simp only[beq_eq_false_iff_ne];omega
  repeat(refine aft_n (aw_seq (A3s ?_));simp only[go_sem,pc_susB,Int.reduceBEq,hw,hwt,e0,e1,e2,e3])
  refine aft_n (aw_ret ?_);simp only[go_sem,pc_susB,Int.reduceBEq,hw,hwt,e0,e1,e2,e3];rw[a8Q,if_neg (by omega),if_neg (by omega),if_neg (by omega),if_neg (by omega)]at ha;subst ha;exact⟨rfl,rfl⟩
noncomputable def a7T:CT:=p6 (fun(x:c7) h=>b7m x h)
@[go_sem] def c7e:=fun x0 x1 x2=>nm' (fP' a7T rfl ⟨x0,x1,x2⟩)
end Go.Aw
namespace Go.Aw
set_option linter.all false
set_option maxHeartbeats 4000000
def St.nilC(st:St)(x p:Nat):St:=match st.bx x with
 | some l=>match l[p]? with
   | some (.nl d)=>st.setBx x (l.set p (.c (.sl false d [])))
   | _=>st
 | none=>st
def Sim.nilC{γ:G}{st:St}{a:Act}{w:World}{B:Base}{N:Nat}(hS:Sim N B γ st a w)(x p:Nat):Sim N B γ (st.nilC x p) a w:=by
 unfold St.nilC;split
 ·rename_i l hl;split
  ·rename_i d hd;have how:∀k,(st.setBx x (l.set p (.c (.sl false d [])))).ow k=none\/(st.setBx x (l.set p (.c (.sl false d [])))).ow k=st.ow k:=fun k=>.inr rfl
   have T:Tr no no no no γ st w γ (st.setBx x (l.set p (.c (.sl false d [])))) w:=Tr.fewer how;refine hS.weak how (fun y cs' h=>?_) (fun j v h=>h.tr T AV.fr_no);simp only[St.setBx]at h;split at h
   ·rename_i e;subst e;simp only[W0]at h;subst h;refine⟨l,hl,fun vs hv=>ACsOk.set (hv.tr T (fun _ _=>AC.fr_no)) (fun z v hz hv=>?_)⟩;rw[hd]at hz;simp only[W0]at hz;subst hz;simp only[ACOk]at hv ⊢;subst hv;unfold C.Rd;exact⟨none,0,rfl,q0A _,q2G _,(fun r hr=>by cases hr),by simp⟩
   ·exact⟨cs',h,fun vs hv=>hv.tr T (fun _ _=>AC.fr_no)⟩
  ·exact hS
 ·exact hS
def aw_nilC{P:Program}{Γ:Ctx}{N:Nat}{e:E P Γ N}{Q:Exit->St->Prop}{st:St}{c:ACode}(x p:Nat)(h:AW e c Q (st.nilC x p)):AW e c Q st:=fun q hc γ a w hS=>h q hc γ a w (hS.nilC x p)
open Go.Proofs
attribute [local irreducible] aft blk lpK retK AW A0p
set_option maxRecDepth 100000
attribute [local irreducible] RM
def a9A(r:c6)(hpre:r.Body.length<=10000):spZ 189 [(true,[.i .i64 r.Kind,.s r.Head.Name,n9 r.Head.Args,a0r r.Body])] [] (.one (false,[kFAtom (a1D r)])):=by
 refine sx' false true none Tryz.func189 (q' 1 [aX 4 0,ao (.mov (.k (.v false [.nl c4i])))] (q' 5 [af 1 1,aE 2,ao (.bsl 2 1 [.s,.sl j3] [(0,.t 6)]),aV 3] (.seq (q' 8 [aG 3 1,aN,aK 0] (fO 0 12 [ar 11 10] 12 1 (q' 13 [am 11,aV 4] (q' 14 [aG 3 1,am 4,aI 10,aG 0 17,aC .neq 19 3] (ci 20 (g' 21 [am 3,aG 3 1,am 4,aI 10,aF 1,aE 2,ao (.bsl 2 1 [.s,.sl j3] [(0,.t 27)]),ao (.app 2 40 [.s,.sl j3] (.t 21) (.t 28)),aV 3])))) (g' 30 [aA 11]))) (q' 31 [am 3,aV 2] .ret)))) [.t 2] [] ?_;intro hb hE;simp only[go_sem];repeat' first|apply cj'|intro hc|exact om'|fail
 refine lk' false [(false,3,0,100006)] [1,10] [2] [] (fun i:{i:Nat // i<=r.Body.length}=>[(3,.v false [.ow 100006]),(11,slV (.i .i64 i.1))]) nl' (fun i=>[(100006,c4i,(r.Head::((r.Body.take i.1).filter atB).map d7.Atom).map (f7.cells false false))]) (fun i=>r.Body.length-i.1) (⟨0,by simp⟩) ?_;intro S0 hS0 i;obtain⟨i,hi⟩:=i;simp only[go_sem,hS0];repeat' first|apply cj'|intro hc|exact om'|fail
 ·have:=c9L atB d7.Atom (r.Body.take i);simp at this;omega
 ·have hp:atB (r.Body.getD i default)=true:=hc
  (refine lpK_n2 (⟨i+1,by omega⟩) _ (by simp only[go_sem];try rfl) ?_;simp only[go_sem,hS0]<;>repeat' first|apply V1|exact on'|fail)
  all_goals(rw[b4x d7.Atom default (by omega) hp]<;>rfl)
 ·have hp:atB (r.Body.getD i default)=false:=hc
  (refine lpK_n2 (⟨i+1,by omega⟩) _ (by simp only[go_sem];try rfl) ?_;simp only[go_sem,hS0]<;>repeat' first|apply V1|exact on'|fail)
  all_goals(rw[c1l d7.Atom default (by omega) hp]<;>rfl)
 ·rw[k6 (by omega),a8q];rfl
noncomputable def a3U:CT:=p6 (fun(x:c6) h=>a9A x h)
@[go_sem] def c0K:=fun x0 x1 x2 x3=>nm' (fP' a3U rfl ⟨x0,⟨x1,x2⟩,x3⟩)
def c1S(c:c7)(a:Int):List d3×c7:=b0Z a (1+i7 c 5).toNat (i6 c 5) []
def a2p(c:c7)(l:List d8)(a:f7):List d8×c7:=
 bif a0X a.Name&&decide ((a.Args.length:Int)<=6)then
  (bif decide (0<i7 c 6)then(a2X l a.Name ⟨a.Name,⟨a.Args.length,(c1S (i6 c 6) a.Args.length).1⟩⟩,(c1S (i6 c 6) a.Args.length).2)else(l,i6 c 6))
 else(l,c)
def a4A:List f7->c7->List d8->List d8×c7
 | [],c,l=>(l,c)
 | a::t,c,l=>a4A t (a2p c l a).2 (a2p c l a).1
def c7W{A:List f7}{i:Nat}(h:i<A.length)(c:c7)(l:List d8):a4A (A.drop i) c l=a4A (A.drop (i+1)) (a2p c l (A.getD i default)).2 (a2p c l (A.getD i default)).1:=by
 rw[q2R h,a4A,List.getD,V4 h];rfl
def a7l(c:c7)(r:c6):List d8×c7:=a4A (a1D r).tail c []
def b2T(c:c7)(r:c6)(hpre:k7 c/\r.Body.length<=10000):spZ 142 [(false,[.mp [.sl false [.i .u8 0] (c.b.map cU8),.i .i64 c.i,.i .i64 c.h]]),(true,[.i .i64 r.Kind,.s r.Head.Name,n9 r.Head.Args,a0r r.Body])] [(0,(false,[.mp [.sl false [.i .u8 0] ((((a7l c r).2).b).map cU8),.i .i64 (((a7l c r).2).i),.i .i64 (((a7l c r).2).h)]]))] (.one (true,[v9 ((⟨(a7l c r).1⟩:d6).Rels)])):=by
 refine sx' false true (some 0) Tryz.func142 (q' 3 [aX 4 1,aw [.sl a0t]] (q' 5 [ax (o' 10 (.bld [.sl a0t] [])),aw [.sl a0t],aS 1 5 10] (.seq (q' 11 [ae 4 3,ac 189 [11],ao (.slc 2 (.t 12) (some (k' 1)) none none),aN,aK 0] (fO 0 16 [ar 15 14] 16 1 (q' 17 [ai 2 13 15,aE 2,ax (w' 7 [.s,.sl j3]),aS 2 7 18] (q' 19 [aG 0 7,ac 160 [20],am 21,aH 22 true [bf 1 7,bL,bN,bC .leq 25 6],aP 22 26,am 27,aH 28 true [bm 0,bo (.call 33 [.t 29,.k (.v false [.c (.i .i64 6)])]),bC .gtr 30 0],aP 28 31] (ci 32 (q' 33 [aG 1 7,aN,ao (.bld [.i .i64,.sl o8] [(0,1,.t 35)]),ax (w' 8 [.i .i64,.sl o8]),aS 2 8 36] (.seq (q' 37 [am 0,ao (.call 33 [.t 37,.k (.v false [.c (.i .i64 5)])]),ao (.bin .add (k' 1) (.t 38)),aV 9] (fo 2 40 [am 9,aC .gtr 40 0] 41 3 (rm' [(true,2,m' 46 0),(true,3,f' 47 1 7),(true,4,l' 48 47),(true,5,n' 49 48),(false,0,f' 44 1 8),(false,1,l' 45 44),(false,6,c' 50 236 [46,49]),(false,7,c' 51 179 [45,50]),(false,8,f' 52 1 8),(false,9,s' 1 52 51)] [[0,1,2,3,4,6,5,7,8,9],[0,1,2, 3,6,4,5,7,8,9]] [14,15]) (g' 42 [am 9,aC .sub 42 1,aV 9]))) (g' 53 [ae 1 5,aG 0 7,ae 2 8,ac 105 [53,55,56],aS 1 5 57])))))) (g' 58 [aA 15]))) (q' 59 [ae 1 5,aS 1 4 59] .ret)))) [.c 4 true 1] [(189,[],a3U),(160,[],a0V),(33,[0],l5),(236,[0],a1w),(179,[0],a2S),(105,[],a0w)] ?_;intro hb hE;obtain⟨hp,hr⟩:=hpre;obtain⟨x0,A,hA⟩:∃x0 A,a1D r=x0::A:=by
  rw[a8q];exact⟨_,_,rfl⟩
 have hcut:cut (List.map (f7.cells false false) (a1D r)) 1 (a1D r).length=List.map (f7.cells false false) A:=by
  rw[hA,cut,V8,V6,q0G,V5,q5C,q1S (by rw[q0H];exact q0A _)]
 have hal:(a1D r).length=A.length+1:=by rw[hA];rfl
 have hAl:A.length<=10000:=by
  have h1:=congrArg List.length hA;rw[a8q,V5,V5,q0H]at h1;have h2:=q2P atB r.Body;omega
 have hst:a7l c r=a4A A c []:=by rw[a7l,hA];rfl
 rw[hst];simp only[go_sem,pc_susB,hcut];(repeat' first|apply cj'|intro hc|apply z6);(all_goals(try(refine(show A3U _ _ _ _ _ _ from ?_);simp only[go_sem,pc_susB,hcut]at hc ⊢;simp only[go_sem,pc_susB,hcut,A7u,A7y,A6L,A6K,A7t,A6J,nf_put_sub,A7w,A7v,nf_put_susK,nf_put_dip,nf_put_put,A7x,A7s,A6M,j8,j6,j4,j5,j7,nf_sub_sub]at hc ⊢;simp only[hc,q0R,q0I];done)));all_goals try exact om'
 refine aw_nilC 10 0 ?_;simp only[go_sem,pc_susB,hcut,St.nilC];have hal2:((a1D r).length:Int)-1=(A.length:Int):=by rw[hal];omega
 refine lq' false [0,4,5,13,14] [8,15] [] (fun i:{q:Nat×c7×List d8 // (q.1<=A.length/\k7 q.2.1)/\smallS q.2.2/\q.2.2.length<=q.1/\a4A (A.drop q.1) q.2.1 q.2.2=a4A A c []}=>[(15,slV (.i .i64 i.1.1))]) (fun i=>[(10,[.c (v9 i.1.2.2)]),(1,[.c (.sl false [.i .u8 0] (i.1.2.1.b.map cU8)),.c (.i .i64 i.1.2.1.i),.c (.i .i64 i.1.2.1.h)])]) nl' (fun i=>A.length-i.1.1) (⟨(0,c,[]),⟨q2G _,hp⟩,(fun x hx=>by cases hx),q0A _,rfl⟩) ?_;intro S0 hS0 i;obtain⟨⟨j,d,l⟩,⟨hj,hd⟩,hls,hll,he⟩:=i;simp only at hj hd hls hll he;have hat:=c7W (A:=A) (i:=j);cases hX:a0X (A.getD j default).Name with
 | false=>
   simp only[go_sem,pc_susB,hcut,hS0,hX];(repeat' first|apply cj'|intro hc|apply z6);(all_goals(try(refine(show A3U _ _ _ _ _ _ from ?_);simp only[go_sem,pc_susB,hcut,hS0,hX]at hc ⊢;simp only[go_sem,pc_susB,hcut,hS0,hX,A7u,A7y,A6L,A6K,A7t,A6J,nf_put_sub,A7w,A7v,nf_put_susK,nf_put_dip,nf_put_put,A7x,A7s,A6M,j8,j6,j4,j5,j7,nf_sub_sub]at hc ⊢;simp only[hc,q0R,q0I];done)));all_goals try exact om'
   ·have h5:a2p d l (A.getD j default)=(l,d):=by rw[a2p,hX];rfl
    have h6:=hat (by omega) d l;rw[h5]at h6;have w3:IntKind.i64.wrap ((j:Int)+1)=((j+1:Nat):Int):=by rw[IntWalk.i64_in _ ⟨by omega,by omega⟩];omega
    (refine lpK_n2 (⟨(j+1,d,l),⟨by show j+1<=A.length;omega,hd⟩,hls,by show l.length<=j+1;omega,h6.symm.trans he⟩) _ rfl ?_;simp only[go_sem,pc_susB,hcut,hS0,hX]<;>repeat' first|apply V1|exact on'|fail)
   ·rw[<-he,show j=A.length by omega,q5N];exact⟨rfl,rfl⟩
 | true=>
 cases hY:decide (((A.getD j default).Args.length:Int)<=6)with
 | false=>
   simp only[go_sem,pc_susB,hcut,hS0,hX,hY];(repeat' first|apply cj'|intro hc|apply z6);(all_goals(try(refine(show A3U _ _ _ _ _ _ from ?_);simp only[go_sem,pc_susB,hcut,hS0,hX,hY]at hc ⊢;simp only[go_sem,pc_susB,hcut,hS0,hX,hY,A7u,A7y,A6L,A6K,A7t,A6J,nf_put_sub,A7w,A7v,nf_put_susK,nf_put_dip,nf_put_put,A7x,A7s,A6M,j8,j6,j4,j5,j7,nf_sub_sub]at hc ⊢;simp only[hc,q0R,q0I];done)));all_goals try exact om'
   ·have h5:a2p d l (A.getD j default)=(l,d):=by rw[a2p,hX,hY];rfl
    have h6:=hat (by omega) d l;rw[h5]at h6;have w3:IntKind.i64.wrap ((j:Int)+1)=((j+1:Nat):Int):=by rw[IntWalk.i64_in _ ⟨by omega,by omega⟩];omega
    (refine lpK_n2 (⟨(j+1,d,l),⟨by show j+1<=A.length;omega,hd⟩,hls,by show l.length<=j+1;omega,h6.symm.trans he⟩) _ rfl ?_;simp only[go_sem,pc_susB,hcut,hS0,hX,hY]<;>repeat' first|apply V1|exact on'|fail)
   ·rw[<-he,show j=A.length by omega,q5N];exact⟨rfl,rfl⟩
 | true=>
   have hd6:=i8 hd 6;have hd5:=i8 hd6 5;have hb5:=j9 (i6 d 6) (n:=5) (by omega);have ha6:((A.getD j default).Args.length:Int)<=6:=of_decide_eq_true hY;have w1:IntKind.i64.wrap (1+i7 (i6 d 6) 5)=1+i7 (i6 d 6) 5:=IntWalk.i64_in _ ⟨by omega,by omega⟩;have w3:IntKind.i64.wrap ((j:Int)+1)=(j:Int)+1:=IntWalk.i64_in _ ⟨by omega,by omega⟩;have hpl:=smallS.pre hls;obtain⟨an,han⟩:∃an,(A.getD j default).Args.length=an:=⟨_,rfl⟩
   simp only[go_sem,pc_susB,hcut,hS0,hX,hY,w1];(repeat' first|apply cj'|intro hc|apply z6);(all_goals(try(refine(show A3U _ _ _ _ _ _ from ?_);simp only[go_sem,pc_susB,hcut,hS0,hX,hY,w1]at hc ⊢;simp only[go_sem,pc_susB,hcut,hS0,hX,hY,w1,A7u,A7y,A6L,A6K,A7t,A6J,nf_put_sub,A7w,A7v,nf_put_susK,nf_put_dip,nf_put_put,A7x,A7s,A6M,j8,j6,j4,j5,j7,nf_sub_sub]at hc ⊢;simp only[hc,q0R,q0I];done)));all_goals try exact om'
   ·exact hd
   ·exact hd6
   ·have hc6:=hc;refine lk' false [(true,16,1,200032)] [0,4,5,7,8,13,14,15] [8,10,14,15] [] (fun i:{q:Nat×c7×List d3 // (q.1<=5/\k7 q.2.1)/\q.2.2.length+q.1<=10/\(∀x∈q.2.2,okL x.V/\x.V.length<=100)/\b0Z (A.getD j default).Args.length q.1 q.2.1 q.2.2=c1S (i6 d 6) (A.getD j default).Args.length}=>[(9,slV (.i .i64 i.1.1))]) (fun i=>[(16,[.c (.i .i64 (A.getD j default).Args.length),.ow 200032]),(1,[.c (.sl false [.i .u8 0] (i.1.2.1.b.map cU8)),.c (.i .i64 i.1.2.1.i),.c (.i .i64 i.1.2.1.h)])]) (fun i=>[(200032,o8,i.1.2.2.map (d3.cells false false))]) (fun i=>i.1.1) (⟨((1+i7 (i6 d 6) 5).toNat,i6 (i6 d 6) 5,[]),⟨by show(1+i7 (i6 d 6) 5).toNat<=5;omega,hd5⟩,by show 0+(1+i7 (i6 d 6) 5).toNat<=10;omega,(fun x hx=>by cases hx),rfl⟩) ?_;intro S1 hS1 i;obtain⟨⟨k,g,t⟩,⟨hk,hg⟩,htl,htf,hte⟩:=i;simp only at hk hg htl htf hte;have h2:=a7t hg (A.getD j default).Args.length;have h3:=b5O g (A.getD j default).Args.length;have h4:=a3K g (A.getD j default).Args.length;simp only[go_sem,pc_susB,hcut,hS0,hX,hY,w1,hS1];(repeat' first|apply cj'|intro hc|apply z6);(all_goals(try((first|refine u1 4 rfl ?_);intro S hS B0 hB;simp only[go_sem,pc_susB,hcut,hS0,hX,hY,w1,hS1,V7,q0O]at hS hB;(repeat(first|replace hS:=And.right hS|replace hS:=CJ.r hS));have Rr8:=congrArg (fun s:St=>s.sl 8) hS;have Rr46:=congrArg (fun s:St=>s.sl 46) hS;have Rr47:=congrArg (fun s:St=>s.sl 47) hS;have Rr48:=congrArg (fun s:St=>s.sl 48) hS;have Rr49:=congrArg (fun s:St=>s.sl 49) hS;have Rb1:=congrArg (fun s:St=>s.bx 1) hS;have Rb14:=congrArg (fun s:St=>s.bx 14) hS;have Rb15:=congrArg (fun s:St=>s.bx 15) hS;have Rb16:=congrArg (fun s:St=>s.bx 16) hS;have Ro200032:=congrArg (fun s:St=>s.ow 200032) hS;clear hS;simp only[go_sem,pc_susB,hcut,hS0,hX,hY,w1,hS1]at Rr8 Rr46 Rr47 Rr48 Rr49 Rb1 Rb14 Rb15 Rb16 Ro200032;(try clear hc);intro K hc;simp only[go_sem,pc_susB,hcut,hS0,hX,hY,w1,hS1,Rr8,Rr46,Rr47,Rr48,Rr49,Rb1,Rb14,Rb15,Rb16,Ro200032,hB,V8,q0K,V6,q0G]at hc ⊢;simp only[go_sem,pc_susB,hcut,hS0,hX,hY,w1,hS1,Rr8,Rr46,Rr47,Rr48,Rr49,Rb1,Rb14,Rb15,Rb16,Ro200032,hB,A7u,A7y,A6L,A6K,A7t,A6J,nf_put_sub,A7w,A7v,nf_put_susK,nf_put_dip,nf_put_put,A7x,A7s,A6M,j8,j6,j4,j5,j7,nf_sub_sub,o6,m7,o5,t7,m9,t6,m8]at hc ⊢;simp only[a0o]at hc ⊢;(first|(simp only[hc,q0R,q0I];done)|((repeat' first|exact hc|apply V1);done)))));all_goals try exact om'
    ·exact⟨hg,by omega⟩
    ·exact⟨⟨⟨by omega,h3⟩,by omega⟩,fun x hx=>(htf x hx).1⟩
    ·have h5:∀x∈a0f q0 t ⟨(a0l g (A.getD j default).Args.length).1⟩,okL x.V/\x.V.length<=100:=fun x hx=>by
      rcases a2i.1 hx with hx|hx
      ·rw[hx];exact⟨h3,by show(a0l g (A.getD j default).Args.length).1.length<=100;omega⟩
      ·exact htf x hx
     have h6:=b3f q0 t ⟨(a0l g (A.getD j default).Args.length).1⟩;have hw:IntKind.i64.wrap ((k:Int)-1)=((k-1:Nat):Int):=by rw[IntWalk.i64_in _ ⟨by omega,by omega⟩];omega
     have he2:b0Z (A.getD j default).Args.length (k-1) (a0l g (A.getD j default).Args.length).2 (a0f q0 t ⟨(a0l g (A.getD j default).Args.length).1⟩)=c1S (i6 d 6) (A.getD j default).Args.length:=by rw[<-hte,show k=k-1+1 by omega];rfl
     (refine lpK_n2 (⟨(k-1,(a0l g (A.getD j default).Args.length).2,a0f q0 t ⟨(a0l g (A.getD j default).Args.length).1⟩),⟨by show k-1<=5;omega,h2⟩,by show(a0f q0 t ⟨(a0l g (A.getD j default).Args.length).1⟩).length+(k-1)<=10;omega,h5,he2⟩) _ (by simp only[go_sem,pc_susB,hcut,hS0,hX,hY,w1];try rfl) ?_;simp only[go_sem,pc_susB,hcut,hS0,hX,hY,w1,hS1]<;>repeat' first|apply V1|exact on'|fail)
    ·exact⟨⟨⟨by omega,hpl⟩,by omega⟩,fun y hy=>by have:=(htf y hy).2;omega⟩
    ·rw[show k=0 by omega]at hte;have hrx:c1S (i6 d 6) (A.getD j default).Args.length=(t,g):=hte.symm;have h5:a2p d l (A.getD j default)=(a2X l (A.getD j default).Name ⟨(A.getD j default).Name,⟨(A.getD j default).Args.length,t⟩⟩,g):=by
      rw[a2p,hX,hY,V0 hc6,hrx];rfl
     have h6:=hat (by omega) d l;rw[h5]at h6;have h9:=a5c l (A.getD j default).Name ⟨(A.getD j default).Name,⟨(A.getD j default).Args.length,t⟩⟩;have h10:=hls.set (A.getD j default).Name (r:=⟨(A.getD j default).Args.length,t⟩) ⟨by show t.length<=1000;omega,fun y hy=>(htf y hy).2⟩;have w4:IntKind.i64.wrap ((j:Int)+1)=((j+1:Nat):Int):=by rw[w3];omega
     (refine lpK_n2 (⟨(j+1,g,a2X l (A.getD j default).Name ⟨(A.getD j default).Name,⟨(A.getD j default).Args.length,t⟩⟩),⟨by show j+1<=A.length;omega,hg⟩,h10,by show(a2X l _ _).length<=j+1;omega,h6.symm.trans he⟩) _ (by simp only[go_sem,pc_susB,hcut,hS0,hX,hY,w1];try rfl) ?_;simp only[go_sem,pc_susB,hcut,hS0,hX,hY,w1,hS1]<;>repeat' first|apply V1|exact on'|fail)
   ·have h5:a2p d l (A.getD j default)=(l,i6 d 6):=by rw[a2p,hX,hY,V3 (by omega)];rfl
    have h6:=hat (by omega) d l;rw[h5]at h6;have w4:IntKind.i64.wrap ((j:Int)+1)=((j+1:Nat):Int):=by rw[w3];omega
    (refine lpK_n2 (⟨(j+1,i6 d 6,l),⟨by show j+1<=A.length;omega,hd6⟩,hls,by show l.length<=j+1;omega,h6.symm.trans he⟩) _ (by simp only[go_sem,pc_susB,hcut,hS0,hX,hY,w1];try rfl) ?_;simp only[go_sem,pc_susB,hcut,hS0,hX,hY,w1]<;>repeat' first|apply V1|exact on'|fail)
   ·rw[<-he,show j=A.length by omega,q5N];exact⟨rfl,rfl⟩
noncomputable def a1H:CT:=p6 (fun(x:c7×c6) h=>b2T x.1 x.2 h)
@[go_sem] def a3z:=fun x0 x1 x2 x3 x4 x5 x6=>nm' (fP' a1H rfl (⟨x0,x1,x2⟩,⟨x3,⟨x4,x5⟩,x6⟩))
end Go.Aw
namespace Go.Aw
set_option maxHeartbeats 4000000
open Go.Proofs
set_option linter.all false
set_option maxRecDepth 100000
def d0I{l:d7}{b c:List c4}(h:EqStep l b c):b.length<=c.length:=by
 rcases h.len with rfl|h<;>omega
def c9E(r:c6)(b:List c4):∀{n m:Nat},n<=m->(eqP r b n).length<=(eqP r b m).length
 | n,0,h=>by cases Nat.le_zero.1 h;exact q0A _
 | n,m+1,h=>by
   by_cases hn:n=m+1
   ·subst hn;exact q0A _
   ·have h1:=c9E r b (n:=n) (m:=m) (by omega);have h2:=d0I (a2L (r.Body.getD m default) (eqP r b m));rw[eqP];omega
def c1k{r:c6}{c:List c4}(h:a4x r c=c){n:Nat}(hn:n<=r.Body.length):eqP r c n=c:=by
 rcases b9b r c n with h1|h1
 ·exact h1
 ·have h2:=c9E r c hn;rw[show eqP r c r.Body.length=c from h]at h2;omega
def c7x{r:c6}{c:List c4}(h:a4x r c=c){l:d7}(hl:l∈r.Body):eqS l c=c:=by
 obtain⟨n,hn,rfl⟩:=q2Y hl;have h1:=c1k h (n:=n+1) (by omega);rw[eqP,c1k h (n:=n) (by omega),n8 default hn]at h1;exact h1
def eqR_clo(r:c6)(b:List c4):∀l∈r.Body,a0i ((eqR r b).map c4.Var) l:=by
 obtain⟨k,_,hp⟩:=b0v r b;intro l hl he hk x hx;have h1:=congrArg (List.map c4.Var) (c7x hp hl);rw[b9d,domE,he,W4]at h1;have key:∀v,a0f Op.bytesLess ((eqR r b).map c4.Var) v=(eqR r b).map c4.Var->v∈(eqR r b).map c4.Var:=fun v hv=>c1N (congrArg List.length hv)
 have both:u3 ((eqR r b).map c4.Var) l.A=true/\u3 ((eqR r b).map c4.Var) l.B=true:=by
  cases h2:u3 ((eqR r b).map c4.Var) l.A with
  | true=>
    cases h3:u3 ((eqR r b).map c4.Var) l.B with
    | true=>exact⟨rfl,rfl⟩
    | false=>
      rw[h2,h3]at h1;have h4:=key _ h1;rw[u3,q1A]at h3;rw[q1Q.2 h4]at h3;exact absurd h3.2 (by decide)
  | false=>
    rw[h2,q3E]at hk;rw[h2,hk]at h1;have h4:=key _ h1;rw[u3,q1A]at h2;rw[q1Q.2 h4]at h2;exact absurd h2.2 (by decide)
 obtain⟨t,ht,hv,rfl⟩:=y5.1 hx;have h5:u3 ((eqR r b).map c4.Var) t=true:=by
  simp only[q0C,q5K,or_false]at ht;rcases ht with rfl|rfl
  ·exact both.1
  ·exact both.2
 rw[u3,show(t.Var==[])=false by simpa[a0a]using hv,q3E]at h5;exact q1Q.1 h5
def c7O{r:c6}{s:d6}{c:List c4}(h:∀l∈r.Body,Rooted s ⟨c⟩ l):a2P r (c.map c4.Var):=by
 intro l hl hk x hx;obtain⟨t,ht,hv,rfl⟩:=y5.1 hx;obtain⟨row,_,_,hb⟩:=h l hl hk;obtain⟨i,hi,rfl⟩:=q2Y ht;have h1:=hb i hi;rw[n8 default hi]at h1;have h2:=a4d c (l.Atom.Args[i]);rw[show k8 ⟨c⟩ (l.Atom.Args[i])=_ from h1]at h2;rw[u3,show((l.Atom.Args[i]).Var==[])=false by simpa[a0a]using hv,q3E]at h2;exact q1Q.1 h2.symm
def lit6{l:d7}(h:a1U l=true):(n7 l.Atom.Args++n7 [l.A,l.B]).length<=6:=by
 have h1:=a1k l.Atom.Args;have h2:=a1k [l.A,l.B];rw[W5];simp only[V5,q0X]at h2;rw[a1U]at h;cases hk:(l.Kind==3)with
 | true=>
   rw[hk]at h;simp only[W4,W7,beq_iff_eq]at h;omega
 | false=>
   rw[hk]at h;simp only[W6,W7,b8r,beq_iff_eq,a2Y,q0B]at h;have h3:a0a l.A=false:=by simp[a0a,h.1.2.1]
   have h4:a0a l.B=false:=by simp[a0a,h.2.1]
   have h5:n7 [l.A,l.B]=[]:=by simp[n7,h3,h4]
   rw[h5,q0X];omega
def allV48{r:c6}(h:l4 r=true):(a2n r).length<=48:=by
 have h8:=(a6T h).2;have:=b7Q (fun l=>n7 l.Atom.Args++n7 [l.A,l.B]) 6 (b:=r.Body) fun l hl=>lit6 (a8w h l hl)
 show(r.Body.flatMap fun l=>n7 l.Atom.Args++n7 [l.A,l.B]).length<=48;omega
def c0Y{x:List UInt8}:∀{args:List d4} {vs:List (List UInt8)},x∈args.foldl c0X vs->x∈vs\/x∈n7 args
 | [],vs,h=>.inl h
 | t::args,vs,h=>by
   rw[q2S]at h;rcases c0Y h with h|h
   ·rw[c0X]at h;cases ht:t.Var==[]with
    | true=>rw[ht]at h;exact .inl h
    | false=>
      rw[ht,W6]at h;rcases a2i.1 h with rfl|h
      ·exact .inr (y5.2 ⟨t,q4O,by rw[a0a,ht];rfl,rfl⟩)
      ·exact .inl h
   ·obtain⟨u,hu,h1,h2⟩:=y5.1 h;exact .inr (y5.2 ⟨u,q2N _ hu,h1,h2⟩)
def c1p{r:c6}{s:d6}:∀{n:Nat} {l:List c9},n<=r.Body.length->a0z r s n=some l->∀e∈l,∀v∈e.Binds.map c4.Var,v∈a2n r
 | 0,l,_,h,e,he,v,hv=>by
   simp only[a0z,W0]at h;subst h;rw[q0D.1 he]at hv;cases hv
 | n+1,l,hn,h,e,he,v,hv=>by
   rw[a0z]at h;obtain⟨d,h1,h2⟩:=q1W.1 h;have ih:=c1p (by omega) h1;cases hk:(r.Body.getD n default).Kind==1 with
   | false=>
     rw[hk,W6,W0]at h2;subst h2;exact ih e he v hv
   | true=>
     rw[hk,W4]at h2;by_cases hl:(w5 (r.Body.getD n default).Atom.Args (a0u s (r.Body.getD n default).Atom.Name).1.Rows d).length<=2000
     ·rw[V0 hl,W4,W0]at h2;subst h2;obtain⟨e0,he0,hc⟩:=q2I.1 he;obtain⟨row,hrow,hf⟩:=q3V.1 hc;rw[(a2h hf).dom]at hv;rcases c0Y hv with h3|h3
      ·exact ih e0 he0 v h3
      ·exact q2I.2 ⟨_,y6 default (show n<r.Body.length by omega),W9.2 (.inl h3)⟩
     ·rw[V3 hl]at h2;cases h2
def eqS_all{r:c6}{l:d7}(hl:l∈r.Body){b c:List c4}(h:EqStep l b c)(hb:∀v∈b.map c4.Var,v∈a2n r):∀v∈c.map c4.Var,v∈a2n r:=by
 intro v hv;cases h with
 | same=>exact hb v hv
 | right _ _ h=>
   have h2:=a0n h;rw[a1S _ (a3Y h2.2)]at hv;rcases a2i.1 hv with rfl|hv
   ·exact b3d hl (.inr rfl) h2.1
   ·exact hb v hv
 | left _ _ h=>
   have h2:=a0n h;rw[a1S _ (a3Y h2.2)]at hv;rcases a2i.1 hv with rfl|hv
   ·exact b3d hl (.inl rfl) h2.1
   ·exact hb v hv
def c5n{r:c6}{b:List c4}(hb:∀v∈b.map c4.Var,v∈a2n r):∀{n:Nat},n<=r.Body.length->∀v∈(eqP r b n).map c4.Var,v∈a2n r
 | 0,_=>hb
 | n+1,hn=>eqS_all (y6 default (show n<r.Body.length by omega)) (a2L _ _) (c5n hb (by omega))
def c5k{r:c6}{b:List c4}(hb:∀v∈b.map c4.Var,v∈a2n r):∀k,∀v∈(eqI r b k).map c4.Var,v∈a2n r
 | 0=>hb
 | k+1=>c5n (c5k hb k) (q0A _)
structure BodyF(r:c6)(s:d6)(e:c9):Prop where
 ok:b1q e=true
 bd:∀v,Bd r v->v∈e.Binds.map c4.Var
 root:∀l∈r.Body,Rooted s e l
 holds:a3F r s e=true
def c9f{r:c6}{s:d6}(hr:l4 r=true)(hs:u7 s=true){e:c9}(he:e∈(l7 r s).1):BodyF r s e:=by
 obtain⟨_,hf,_⟩:=a3H hr hs;rw[l7]at he;cases hj:(a0H r s).2 with
 | false=>rw[hj]at he;cases he
 | true=>
   rw[hj,W4]at he;have h1:=(w9.1 he).resolve_left (by intro h;cases h);rw[a4w,q1M,q1E]at h1;obtain⟨⟨e',he',rfl⟩,hh⟩:=h1;have h2:=hf e' he';have hro:∀l∈r.Body,Rooted s (eqE r e') l:=fun l hl=>(h2.2.2 l hl).ext (c:=eqE r e') (b3b r e'.Binds)
   have ho:=c3K hr h2.2.1;have ha:∀v∈(eqR r e'.Binds).map c4.Var,v∈a2n r:=by
    obtain⟨k,hk,_⟩:=b0v r e'.Binds;rw[<-hk];refine c5k (fun v hv=>?_) k;rw[a0H]at he';cases hn:a0z r s r.Body.length with
    | none=>rw[hn]at he';cases he'
    | some l=>rw[hn]at he';exact c1p (q0A _) hn e' he' v hv
   have h48:=a7p ho.nodup ha;rw[q0H]at h48;have h49:=allV48 hr;exact⟨b0u.2 ⟨ho,by show(eqR r e'.Binds).length<=60;omega⟩,fun v hv=>hv.mem (c7O hro) (eqR_clo r e'.Binds),hro,hh⟩
def d0j{r:c6}(hr:l4 r=true)(hl:a0P r=[]){t:d4}(ht:t∈b1e r)(hv:(t.Var==[])=false):Bd r t.Var:=by
 have h1:t.Var∈a4f (b1e r):=by
  rw[a4f,w9];exact .inr (y5.2 ⟨t,ht,by rw[a0a,hv];rfl,rfl⟩)
 rw[c2i hr]at h1;rw[a0P,hr,W4,d0i,List.filter_eq_nil_iff]at hl;have h2:=hl _ h1;exact a3J.1 (q1Q.1 (by simpa using h2))
def c5q{r:c6}{s:d6}(hr:l4 r=true)(hl:a0P r=[]){e:c9}(h:BodyF r s e){args:List d4}(ha:∀t∈args,t∈b1e r):v8 e args=(⟨args.map fun t=>(k8 e t).1⟩,true):=by
 rw[v8,show args.all (fun t=>(k8 e t).2)=true from q0S.2 fun t ht=>?_]
 ·rfl
 ·rw[show(k8 e t).2=u3 (e.Binds.map c4.Var) t from a4d e.Binds t,u3];cases h0:t.Var==[]with
  | true=>rfl
  | false=>
    rw[q3E];exact q1Q.2 (h.bd _ (d0j hr hl (ha t ht) h0))
def c9I{e:c9}{args:List d4}(he:b1q e=true)(ha:args.all s6=true)(h6:args.length<=6):a3a e args=v8 e args:=by
 rw[a3a,he,ha,V0 (show(args.length:Int)<=6 by omega)];rfl
def c4n{r:c6}{s:d6}(h:(a0p r s).2=true):l4 r=true/\a0P r=[]/\u7 s=true/\a0p r s=l7 r s:=by
 have h0:=h;rw[a0p]at h;cases h1:l4 r&&(!decide (0<((a0P r).length:Int))&&u7 s)with
 | false=>rw[h1]at h;cases h
 | true=>
   have h2:=h1;simp only[W7,q0U,q2K]at h1;exact⟨h1.1,q2Z (by omega),h1.2.2,by rw[a0p,h2];rfl⟩
def c6A{r:c6}{s:d6}{e:c9}(h:(a0p r s).2=true)(he:e∈(a0p r s).1):(a3a e r.Head.Args).2=true/\a0M (a3a e r.Head.Args).1=true/\(a3a e r.Head.Args).1∈a1r r s:=by
 obtain⟨hr,hlo,hs,hbe⟩:=c4n h;rw[hbe]at he;have hf:=c9f hr hs he;obtain⟨h1,h6⟩:=a1I hr;have hfi:=c9I hf.ok h1 h6;have h2:=c5q hr hlo hf (args:=r.Head.Args) fun t ht=>W9.2 (.inl ht)
 rw[hfi];exact⟨by rw[h2],a9j (b0u.1 hf.ok).1 h1 h6,q1E.2 ⟨e,he,rfl⟩⟩
attribute [local irreducible] aft blk lpK retK AW A0p
attribute [local irreducible] RM
def b6O(r:f5)(t:d3):spZ 27 [(true,[.i .i64 r.Arity,a1f r.Rows]),(true,[t5 t.V])] [] (.one (false,[.b (a0v r&&a0M t&&a1x r.Rows t)])):=by
 refine sy' Tryz.func27 (q' 2 [aX 2 0,aX 1 1,aU false] (q' 5 [ae 2 2,ac 84 [5],am 6,aH 7 true [be 1 3,bc 85 [8]],aP 7 9,am 10,aH 11 true [be 2 2,be 1 3,bc 86 [12,13]],aP 11 14,aV 4] .ret)) [.t 4] [(84,[],a5h),(85,[],a5i),(86,[],a8r)] ?_;intro hb hE;simp only[go_sem];repeat' first|apply cj'|intro hc|exact om'|fail
noncomputable def a7G:CT:=o9 (fun(x:f5×d3)=>b6O x.1 x.2)
@[go_sem] def c6F:=fun x0 x1 x2=>nm' (fQ' a7G rfl (⟨x0,x1⟩,⟨x2⟩))
def b6N(e:c9)(args:List d4):spZ 25 [(true,[u9 e.Binds]),(false,[n9 args])] [] (.tup [(true,[t5 (((a3a e args).1).V)]),(false,[.b ((a3a e args).2)])]):=by
 exact a1T (b1u e args) (by simp only[go_sem,R.free,List.map])
noncomputable def a7F:CT:=o9 (fun(x:c9×(List d4))=>b6N x.1 x.2)
@[go_sem] def c6E:=fun x0 x1=>nm' (fQ' a7F rfl (⟨x0⟩,x1))
def b2s(r:c6)(s:d6):spZ 23 [(true,[.i .i64 r.Kind,.s r.Head.Name,n9 r.Head.Args,a0r r.Body]),(true,[v9 s.Rels])] [] (.tup [(false,[b7V ((a0p r s).1)]),(false,[.b ((a0p r s).2)])]):=by
 exact a1T (a8c r s) (by simp only[go_sem,R.free,List.map])
noncomputable def a5y:CT:=o9 (fun(x:c6×d6)=>b2s x.1 x.2)
@[go_sem] def c3e:=fun x0 x1 x2 x3 x4=>nm' (fQ' a5y rfl (⟨x0,⟨x1,x2⟩,x3⟩,⟨x4⟩))
def b4O(r:c6)(s:d6):spZ 29 [(true,[.i .i64 r.Kind,.s r.Head.Name,n9 r.Head.Args,a0r r.Body]),(true,[v9 s.Rels])] [] (.tup [(true,[.i .i64 (((a0k r s).1).Arity),a1f (((a0k r s).1).Rows)]),(false,[.b ((a0k r s).2)])]):=by
 exact a1T (a9s r s) (by simp only[go_sem,R.free,List.map])
noncomputable def a6q:CT:=o9 (fun(x:c6×d6)=>b4O x.1 x.2)
@[go_sem] def c4s:=fun x0 x1 x2 x3 x4=>nm' (fQ' a6q rfl (⟨x0,⟨x1,x2⟩,x3⟩,⟨x4⟩))
def bodS(l:List c6):Prop:=∀u∈l,u.Body.length<=6010
def bodS.set{l:List c6}(h:bodS l){i:Nat}{r:c6}(hr:r.Body.length<=6010):bodS (l.set i r):=fun u hu=>by
 rcases List.mem_or_eq_of_mem_set hu with hu|hu
 ·exact h u hu
 ·rw[hu];exact hr
def c1J:∀(n:Nat) (c:c7) {r:c6} {l:List c6},bodS l->r.Body.length<=6010->bodS (b2V n c r l).1
 | 0,c,r,l,h,_=>h
 | n+1,c,r,l,h,hr=>by
   rw[b2V];cases decide ((l.length:Int)<24+i7 c 2)with
   | true=>exact c1J n _ (fun u hu=>by
      rcases W9.1 hu with hu|hu
      ·exact h u hu
      ·rw[q0D.1 hu];exact hr) hr
   | false=>exact h
def c8Z{p:d9}{d:i3}{r:c6}{c:c7}{k:Int}{i:Nat}(h:bodS p.Rules)(hr:r.Body.length<=6010):bodS (b6D p d r c k i).1.Rules:=by
 have hite:∀(b:Prop) [Decidable b] (x y:d9×c7),bodS x.1.Rules->bodS y.1.Rules->bodS (if b then x else y).1.Rules:=fun b _ x y hx hy=>by split<;>assumption
 unfold b6D;repeat'(first|exact h|exact h.set hr|exact h.set (by rw[List.length_set];exact hr)|exact c1J _ _ h hr|apply hite)
def b4y{l:List c6}(h:bodS l)(i:Nat):(l.getD i default).Body.length<=6010:=by
 rw[List.getD];by_cases hi:i<l.length
 ·rw[V4 hi];exact h _ (q0T hi)
 ·rw[q3A (by omega)];exact q2G _
def c9a(c:c7):bodS (a4l c).1.Rules:=by
 have h:bodS (a8v c).Rules:=fun u hu=>((a7f _).2 u hu).2
 unfold a4l;split
 ·exact h
 ·exact c8Z h (b4y h _)
def r16_bod(c:c7):(r16 c).1.Body.length<=6010:=by
 unfold r16;split
 ·exact q2G _
 ·exact b4y (c9a c) _
def b7Z:∀(n:Nat) (c:c7) (l:List d7),(a5S n c l).1.length=l.length+n
 | 0,_,_=>rfl
 | n+1,c,l=>by rw[a5S,b7Z n,W5,q0P];omega
def r18_bod(c:c7):(r18 c).1.Body.length<=6020:=by
 have h:=r16_bod c;have hb:=j9 (i6 (r16 c).2 3) (n:=3) (by omega);unfold r18;split
 ·show(a5S _ _ _).1.length<=6020;rw[b7Z];omega
 ·show(r16 c).1.Body.length<=6020;omega
def b8q:∀(A:List f7) {c:c7} {l:List d8},k7 c->k7 (a4A A c l).2
 | [],c,l,h=>h
 | a::t,c,l,h=>by
   rw[a4A];refine b8q t ?_;unfold a2p;cases a0X a.Name&&decide ((a.Args.length:Int)<=6)with
   | false=>exact h
   | true=>
     rw[W4];cases decide (0<i7 c 6)with
     | false=>exact i8 h 6
     | true=>exact b9M _ _ _ (i8 (i8 h 6) 5)
def b5b(s:List UInt8):spZ 35 [(false,[.s s])] [] (.tup [(true,[c9T (((z8 s).1).Decls),c9U (((z8 s).1).Rules)]),(false,[.i .i64 ((z8 s).2.1)]),(false,[.i .i64 ((z8 s).2.2)])]):=by
 exact a1T (a9v s) (by simp only[go_sem,R.free,List.map])
noncomputable def a6y:CT:=o9 (fun(x:(List UInt8))=>b5b x)
@[go_sem] def c4H:=fun s=>nm' (fQ' a6y rfl s)
def xyT:List d4:=[⟨[88],default⟩,⟨[89],default⟩]
def isL(n:List UInt8)(t:List d4):d7:=⟨1,⟨n,t⟩,0,default,default⟩
def c1L(c:c7):d9:=(z8 (a2W c).1).1
def a7d(c:c7):c6×c7:=if(c1L c).Rules.length=0 then(default,(a2W c).2)else((c1L c).Rules.getD (i7 (a2W c).2 (c1L c).Rules.length).toNat default,i6 (a2W c).2 (c1L c).Rules.length)
def a9H(c:c7):c6×c7:=if i7 (a7d c).2 6=0 then r18 (i6 (a7d c).2 6)else((a7d c).1,i6 (a7d c).2 6)
def pairK(c:c7)(r:c6)(l:List d8)(k:Int):(c6×List d8)×c7:=
 if k=0 then((r,(b6F c).1),(b6F c).2)
 else if k=1 then((⟨1,⟨[99],xyT.drop (i7 c 2).toNat⟩,[isL [97] (xyT.take 1),isL [98] (xyT.drop 1)]⟩,a2X (a2X [] [97] ⟨[97],⟨1,a0L 1 40⟩⟩) [98] ⟨[98],⟨1,a0L 1 (50+i7 (i6 c 2) 2).toNat⟩⟩),i6 (i6 c 2) 2)
 else((r,l),c)
def a9I(c:c7):List d8×c7:=a7l (a9H c).2 (a9H c).1
def a1A(c:c7):(c6×List d8)×c7:=pairK (i6 (a9I c).2 30) (a9H c).1 (a9I c).1 (i7 (a9I c).2 30)
def b5H{c:c7}(h:k7 c):k7 (a7d c).2:=by
 unfold a7d;split
 ·exact b9I h
 ·exact i8 (b9I h) _
def c1K{c:c7}(h:k7 c):k7 (a9H c).2:=by
 unfold a9H;split
 ·exact r18_ok (i8 (b5H h) 6)
 ·exact i8 (b5H h) 6
def d0r{c:c7}(h:k7 c):k7 (a9I c).2:=b8q _ (c1K h)
def pairR_0{c:c7}{S:List d8×c7}{r:c6}(hS:a9I c=S)(hr:(a9H c).1=r)(h:(i7 S.2 30==0)=true):a1A c=((r,(b6F (i6 S.2 30)).1),(b6F (i6 S.2 30)).2):=by
 rw[a1A,hS,hr,eq_of_beq h];rfl
def pairR_1{c:c7}{S:List d8×c7}(hS:a9I c=S)(h:(i7 S.2 30==1)=true):a1A c=((⟨1,⟨[99],xyT.drop (i7 (i6 S.2 30) 2).toNat⟩,[isL [97] (xyT.take 1),isL [98] (xyT.drop 1)]⟩,a2X (a2X [] [97] ⟨[97],⟨1,a0L 1 40⟩⟩) [98] ⟨[98],⟨1,a0L 1 (50+i7 (i6 (i6 S.2 30) 2) 2).toNat⟩⟩),i6 (i6 (i6 S.2 30) 2) 2):=by
 rw[a1A,hS,eq_of_beq h];rfl
def pairR_2{c:c7}{S:List d8×c7}{r:c6}(hS:a9I c=S)(hr:(a9H c).1=r)(h0:(i7 S.2 30==0)=false)(h:(i7 S.2 30==1)=false):a1A c=((r,S.1),i6 S.2 30):=by
 rw[a1A,hS,hr,pairK,if_neg (by simpa using h0),if_neg (by simpa using h)]
def b7S(a n:Nat):(a0L a n).length=n:=by rw[a0L,q0H,q4C]
def b7T{n:Nat}{y:d3}(h:y∈a0L 1 n):y.V.length=1:=by
 obtain⟨i,_,rfl⟩:=q1E.1 h;rfl
def b0A{n:Nat}(h:n<=1000):(a0L 1 n).length<=100000/\∀y∈a0L 1 n,y.V.length<1000:=⟨by rw[b7S];omega,fun y hy=>by rw[b7T hy];omega⟩
@[go_sem] def a5w:ACode:=q' 2 [aw [.i .i64,.s,.sl j3,.sl a1u],aw [.sl a0t]] (q' 14 [am 0,ac 32 [14],ac 35 [15],aV 13,aZ 13 0,aZ 13 1,aZ 13
 2,ax (w' 4 [.sl a1y,.sl a1K]),aS 2 4 17,av 5 18,aV 6] (q' 7 [ax (o' 20 (.bld [.i .i64,.s,.sl j3,.sl a1u] [])),aw
 [.i .i64,.s,.sl j3,.sl a1u],aS 4 7 20] (.seq (q' 21 [aG 1 4,aN,aC .gtr 23 0] (ci 24 (.rego [(true,0,f' 25 1 4),(true,1,l' 26 25),(true,2,m' 27 0),(false,3,f' 28 1
 4),(false,4,l' 29 28),(false,5,n' 30 29),(false,6,c' 31 33 [27,30]),(false,7,i' 32 4 26 31),(false,8,e' 33 4 32),(false,9,s' 4 7 33)] [8,
 9]))) (.seq (q' 34 [am 0,ao (.call 33 [.t 34,.k (.v false [.c (.i .i64 6)])]),aC .eql 35 0] (ci 36 (g' 37 [am 0,ac 141 [37],aS 4 7 38]))) (q' 39 [am 0,ae 4
 7,ac 142 [39,40],ax (w' 8 [.sl a0t]),aS 1 8 41] (q' 42 [am 0,ao (.call 33 [.t 42,.k (.v false
 [.c (.i .i64 30)])]),aV 9] (.seq (q' 44 [am 9,aC .eql 44 0] (ci 45 (g' 46 [am 0,ac 143 [46],aS 1 8 47]))) (.seq (q' 48 [am 9,aC .eql 48 1] (ci 49 (q' 50 [ao
 (.bld [.s,.i .i64,.s] [(0,1,.k (.v false [.c (.s [88])]))]),ao (.bld [.s,.i .i64,.s] [(0,1,.k (.v false [.c (.s [89])]))]),ao (.bsl 3 2 [.s,.i .i64,
 .s] [(0,.t 50),(1,.t 51)]),aV 10] (q' 53 [am 10,ao (.slc 3 (.t 53) none (some (k' 1)) none),ao (.bld [.s,.sl j3] [(0,1,.k (.v
 false [.c (.s [97])])),(1,1,.t 54)]),ao (.bld [.i .i64,.s,.sl j3,.i .i64,.s,.i .i64,.s,.s,.i .i64,.s] [(0,1,.k (.v false
 [.c (.i .i64 1)])),(1,2,.t 55)]),ax (w' 11 [.i .i64,.s,.sl j3,.i .i64,.s,.i .i64,.s,.s,.i .i64,.s]),aS 10 11 56] (q' 57 [am
 10,ao (.slc 3 (.t 57) (some (k' 1)) none none),ao (.bld [.s,.sl j3] [(0,1,.k (.v false [.c (.s [98])])),(1,1,.t 58)]),ao (.bld
 [.i .i64,.s,.sl j3,.i .i64,.s,.i .i64,.s,.s,.i .i64,.s] [(0,1,.k (.v false [.c (.i .i64 1)])),(1,2,.t 59)]),ax (w' 12 [.i
 .i64,.s,.sl j3,.i .i64,.s,.i .i64,.s,.s,.i .i64,.s]),aS 10 12 60] (.seq (.regm [(true,0,m' 61 10),(true,1,m' 62 0),
 (true,5,e' 66 10 11),(true,6,e' 67 10 12),(false,2,o' 63 (.call 33 [.t 62,.k (.v false [.c (.i .i64 2)])])),(false,3,o' 64 (.slc 3 (.t 61) (some
 (.t 63)) none none)),(true,4,o' 65 (.bld [.s,.sl j3] [(0,1,.k (.v false [.c (.s [99])])),(1,1,.t 64)])),(false,7,o' 68
 (.bsl 10 2 [.i .i64,.s,.sl j3,.i .i64,.s,.i .i64,.s,.s,.i .i64,.s] [(0,.t 66),(1,.t 67)])),(false,8,o' 69 (.bld [.i
 .i64,.s,.sl j3,.sl a1u] [(0,1,.k (.v false [.c (.i .i64 1)])),(1,2,.t 65),(3,1,.t 68)])),(false,9,s' 4 7 69)] [[(true,0,m' 61 10),(true,1,m' 62 0),(true,5,
 e' 66 10 11),(true,6,e' 67 10 12),(false,2,o' 63 (.call 33 [.t 62,.k (.v false [.c (.i .i64 2)])])),(false,7,o' 68 (.bsl 10 2 [.i .i64,.s,.sl j3,.i .i64,.s,.i .i64,.s,.s,.i .i64,.s] [(0,.t 66),(1,.t 67)])),(false,3,o' 64 (.slc 3 (.t 61) (some (.t 63)) none none)),
 (false,4,o' 65 (.bld [.s,.sl j3] [(0,1,.k (.v false [.c (.s [99])])),(1,1,.t 64)])),(false,8,o' 69 (.bld [.i .i64,.s,.sl
 j3,.sl a1u] [(0,
 1,.k (.v false [.c (.i .i64 1)])),(1,2,.t 65),(3,1,.t 68)])),(false,9,s' 4 7 69)],[(true,0,m' 61 10),(true,1,m' 62 0),(true,5,e' 66 10 11),
 (true,6,e' 67 10 12),(false,7,o' 68 (.bsl 10 2 [.i .i64,.s,.sl j3,.i .i64,.s,.i .i64,.s,.s,.i .i64,.s] [(0,.t 66),(1,
 .t 67)])),(false,2,o' 63 (.call 33 [.t 62,.k (.v false [.c (.i .i64 2)])])),(false,3,o' 64 (.slc 3 (.t 61) (some (.t 63)) none none)),(false,4,o' 65
 (.bld [.s,.sl j3] [(0,1,.k (.v false [.c (.s [99])])),(1,1,.t 64)])),(false,8,o' 69 (.bld [.i .i64,.s,.sl j3,.sl a1u] [(0,1,.k (.v false [.c
 (.i .i64 1)])),(1,2,.t 65),(3,1,.t 68)])),(false,9,s' 4 7 69)]] [22,23,24,25]) (g' 70 [ao (.bld [.sl a0t] []),ao (.call 144 [.k (.v false [.c (.i .i64 1)]),.k (.v false [.c (.i .i64 40)])]),ao (.call 105 [.t 70,.k (.v false [.c (.s
 [97])]),.t 71]),am 0,ao (.call 33 [.t 73,.k (.v false [.c (.i .i64 2)])]),ao (.bin .add (k' 50) (.t 74)),ao (.call 144 [.k (.v false [.c (.i .i64 1)]),.t
 75]),ao (.call 105 [.t 72,.k (.v false [.c (.s [98])]),.t 76]),aS 1 8 77]))))))) (.seq (.rego [(true,0,e' 78 4 7),(true,1,e' 79 1 8),(false,2,s' 4 2
 78),(false,3,s' 1 3 79)] [14,15,16,17]) .ret)))))))))
def b2r:cmp Tryz.prog Tryz.f68=some a5w:=by kernel_rfl
def b5z(c:c7)(hpre:k7 c):spZ 68 [(false,[.mp [.sl false [.i .u8 0] (c.b.map cU8),.i .i64 c.i,.i .i64 c.h]])] [(0,(false,[.mp [.sl false [.i .u8 0] ((((a1A c).2).b).map cU8),.i .i64 (((a1A c).2).i),.i .i64 (((a1A c).2).h)]]))] (.tup [(true,[.i .i64 ((((a1A c).1.1,(⟨(a1A c).1.2⟩:d6)).1).Kind),.s (((((a1A c).1.1,(⟨(a1A c).1.2⟩:d6)).1).Head).Name),n9 (((((a1A c).1.1,(⟨(a1A c).1.2⟩:d6)).1).Head).Args),a0r ((((a1A c).1.1,(⟨(a1A c).1.2⟩:d6)).1).Body)]),(true,[v9 ((((a1A c).1.1,(⟨(a1A c).1.2⟩:d6)).2).Rels)])]):=by
 refine sq' false true (some 0) Tryz.func68 b2r [.c 2 true 4,.c 3 true 1] [(32,[0],a6M),(35,[],a6y),(33,[0],l5),(141,[0],a6L),(142,[0],a1H),(143,[0],a7T),(144,[],a2b),(105,[],a0w)] ?_;intro hb hE;simp only[go_sem]at hb;simp only[a5w,x'];have h1:=b9I hpre;have h2:=i8 h1 (z8 (a2W c).1).1.Rules.length;have hb:=fun h=>j9 (a2W c).2 (n:=(z8 (a2W c).1).1.Rules.length) h
 obtain⟨d0,hd0⟩:∃d,(a7d c).2=d:=⟨_,rfl⟩
 obtain⟨r0,hr0⟩:∃r,(a7d c).1=r:=⟨_,rfl⟩
 obtain⟨B,hB⟩:∃B,a9H c=B:=⟨_,rfl⟩
 obtain⟨S,hS⟩:∃S,a7l B.2 B.1=S:=⟨_,rfl⟩
 have hS':a9I c=S:=by rw[a9I,hB,hS]
 have hA:a7d c=(r0,d0):=by rw[<-hr0,<-hd0]
 have h3:=b5H hpre;have h5:=c1K hpre;have h6:=d0r hpre;rw[hB]at h5;rw[hS']at h6;rw[hd0]at h3;have h4:=i8 h3 6;have h7:=i8 h6 30;have h8:=i8 h7 2;have h9:=i8 h8 2;have hbo:r0.Body.length<=6010:=by
  rw[<-hr0,a7d];split
  ·exact q2G _
  ·exact b4y (fun u hu=>((a7f _).2 u hu).2) _
 have hAe:0<((z8 (a2W c).1).1.Rules.length:Int)/\r0=(z8 (a2W c).1).1.Rules.getD (i7 (a2W c).2 (z8 (a2W c).1).1.Rules.length).toNat default/\d0=i6 (a2W c).2 (z8 (a2W c).1).1.Rules.length\/¬0<((z8 (a2W c).1).1.Rules.length:Int)/\r0=⟨0,⟨[],[]⟩,[]⟩/\d0=(a2W c).2:=by
  rw[<-hr0,<-hd0,a7d,c1L];split
  ·exact .inr ⟨by omega,rfl,rfl⟩
  ·exact .inl ⟨by omega,rfl,rfl⟩
 have hBe:(i7 d0 6==0)=true/\B=r18 (i6 d0 6)\/(i7 d0 6==0)=false/\B=(r0,i6 d0 6):=by
  rw[<-hB,a9H,hA];split
  ·exact .inl ⟨by simpa,rfl⟩
  ·exact .inr ⟨by simpa,rfl⟩
 have hBb:B.1.Body.length<=10000:=by
  rcases hBe with⟨_,h⟩|⟨_,h⟩
  ·rw[h];have:=r18_bod (i6 d0 6);omega
  ·rw[h];show r0.Body.length<=10000;omega
 by_cases g1:(i7 S.2 30==1)=true
 ·have g2:(i7 S.2 30==0)=false:=by rw[eq_of_beq g1];rfl
  rw[pairR_1 hS' g1];clear hB hA hS' hd0 hr0;have zs:∀c:c7,a1H [(false,[.mp [.sl false [.i .u8 0] (c.b.map cU8),.i .i64 c.i,.i .i64 c.h]]),(true,a1K)]=_:=fun c=>a3z c.b c.i c.h 0 [] [] []
  simp only[b3i]at zs;have hsm:smallS (a2X [] [97] ⟨[97],⟨1,a0L 1 40⟩⟩):=smallS.set (fun x hx=>by cases hx) _ ⟨by rw[b7S];omega,fun y hy=>by rw[b7T hy];omega⟩;have hsl:=a5c [] [97] ⟨[97],⟨1,a0L 1 40⟩⟩;rw[q0X]at hsl;have hb2:=j9 (i6 S.2 30) (n:=2) (by omega);have hb3:=j9 (i6 (i6 S.2 30) 2) (n:=2) (by omega);have hz:i7 (i6 S.2 30) 2=0\/i7 (i6 S.2 30) 2=1:=by omega
  have w1:IntKind.i64.wrap (50+i7 (i6 (i6 S.2 30) 2) 2)=50+i7 (i6 (i6 S.2 30) 2) 2:=IntWalk.i64_in _ ⟨by omega,by omega⟩;have zt:∀n a (rows:List d3),a0w [(true,zFStore),(false,[.s n]),(true,[.i .i64 a,a1f rows])]=_:=fun n a rows=>a3t [] n a rows
  rcases hBe with⟨g6,rfl⟩|⟨g6,rfl⟩<;>rcases hAe with⟨g0,rfl,rfl⟩|⟨g0,rfl,rfl⟩<;>subst S
  all_goals
   ·try dsimp only at h5 h6 h7 h8 h9 hb2 hb3 w1 g1 g2 hBb hz
    refine aw_seq (A3s ?_);simp only[go_sem,pc_susB,Int.reduceBEq,g0,g6,g1,g2,zs,zt,w1];refine aft_n (aw_seq (A3s ?_));simp only[go_sem,pc_susB,Int.reduceBEq,g0,g6,g1,g2,zs,zt,w1];refine cj' hpre (aft_n (aw_seq (A3s ?_)));simp only[go_sem,pc_susB,Int.reduceBEq,g0,g6,g1,g2,zs,zt,w1];refine aft_n (aw_seq (A3s ?_));simp only[go_sem,pc_susB,Int.reduceBEq,g0,g6,g1,g2,zs,zt,w1];first|refine cj' (cj' h1 (cj' (hb g0) ?_)) (fun h=>absurd trivial h)|skip
    refine aft_n (aw_seq (A3s ?_));simp only[go_sem,pc_susB,Int.reduceBEq,g0,g6,g1,g2,zs,zt,w1];first|refine cj' h3 (cj' h4 ?_)|refine cj' h3 ?_
    refine aft_n (aw_seq (A3s ?_));simp only[go_sem,pc_susB,Int.reduceBEq,g0,g6,g1,g2,zs,zt,w1];first|refine cj' ⟨h5,hBb⟩ ?_|refine cj' h5 ?_
    refine aft_n (aw_seq (A3s ?_));simp only[go_sem,pc_susB,Int.reduceBEq,g0,g6,g1,g2,zs,zt,w1];refine cj' h6 (aft_n (aw_seq (A3s ?_)));simp only[go_sem,pc_susB,Int.reduceBEq,g0,g6,g1,g2,zs,zt,w1];refine aft_n (aw_seq (aw_seq (A3s ?_)));simp only[go_sem,pc_susB,Int.reduceBEq,g0,g6,g1,g2,zs,zt,w1];refine aft_n (aw_cond (b:=true) rfl trivial (fun _=>?_) (fun h=>by cases h));refine aw_seq (A3s ?_);simp only[go_sem,pc_susB,Int.reduceBEq,g0,g6,g1,g2,zs,zt,w1];refine aft_n (a1v 6656 (aw_seq (A3s ?_)));simp only[go_sem,pc_susB,Int.reduceBEq,g0,g6,g1,g2,zs,zt,w1];refine cj' (by decide) (aft_n (aw_seq (A3s ?_)));simp only[go_sem,pc_susB,Int.reduceBEq,g0,g6,g1,g2,zs,zt,w1];refine cj' (by decide) (aft_n (aw_seq (A3s ?_)));simp only[go_sem,pc_susB,Int.reduceBEq,g0,g6,g1,g2,zs,zt,w1];refine⟨?_, ?_⟩
    ·(all_goals(try((first|refine u1 4 rfl ?_);intro S hS B0 hB;simp only[go_sem,pc_susB,Int.reduceBEq,g0,g6,g1,g2,zs,zt,w1,V7,q0O]at hS hB;(repeat(first|replace hS:=And.right hS|replace hS:=CJ.r hS));have Rr7:=congrArg (fun s:St=>s.sl 7) hS;have Rr61:=congrArg (fun s:St=>s.sl 61) hS;have Rr62:=congrArg (fun s:St=>s.sl 62) hS;have Rr66:=congrArg (fun s:St=>s.sl 66) hS;have Rr67:=congrArg (fun s:St=>s.sl 67) hS;have Rb1:=congrArg (fun s:St=>s.bx 1) hS;have Rb14:=congrArg (fun s:St=>s.bx 14) hS;have Rb22:=congrArg (fun s:St=>s.bx 22) hS;have Rb23:=congrArg (fun s:St=>s.bx 23) hS;have Rb24:=congrArg (fun s:St=>s.bx 24) hS;have Rb25:=congrArg (fun s:St=>s.bx 25) hS;clear hS;simp only[go_sem,pc_susB,Int.reduceBEq,g0,g6,g1,g2,zs,zt,w1]at Rr7 Rr61 Rr62 Rr66 Rr67 Rb1 Rb14 Rb22 Rb23 Rb24 Rb25;(try clear hc);intro K hc;simp only[go_sem,pc_susB,Int.reduceBEq,g0,g6,g1,g2,zs,zt,w1,Rr7,Rr61,Rr62,Rr66,Rr67,Rb1,Rb14,Rb22,Rb23,Rb24,Rb25,hB,V8,q0K,V6,q0G]at hc ⊢;simp only[go_sem,pc_susB,Int.reduceBEq,g0,g6,g1,g2,zs,zt,w1,Rr7,Rr61,Rr62,Rr66,Rr67,Rb1,Rb14,Rb22,Rb23,Rb24,Rb25,hB,A7u,A7y,A6L,A6K,A7t,A6J,nf_put_sub,A7w,A7v,nf_put_susK,nf_put_dip,nf_put_put,A7x,A7s,A6M,j8,j6,j4,j5,j7,nf_sub_sub,o6,m7,o5,t7,m9,t6,m8]at hc ⊢;simp only[a0o]at hc ⊢;(first|(simp only[hc,q0R,q0I];done)|((repeat' first|exact hc|apply V1);done)))))
    ·refine cj' h7 (cj' (by omega) (aft_n (A3s ?_)));simp only[go_sem,pc_susB,Int.reduceBEq,g0,g6,g1,g2,zs,zt,w1];refine cj' (by omega) (cj' (b0A (by omega)) (cj' h8 (cj' (by omega) (cj' ⟨⟨⟨by omega,smallS.pre hsm⟩,(b0A (by omega)).1⟩,(b0A (by omega)).2⟩ (aft_n (a1v 8704 (aw_seq (A3s ?_))))))));simp only[go_sem,pc_susB,Int.reduceBEq,g0,g6,g1,g2,zs,zt,w1];refine aft_n (aw_ret ?_);simp only[go_sem,pc_susB,Int.reduceBEq,g0,g6,g1,g2,zs,zt,w1];rcases hz with hz|hz<;>simp only[hz]
     all_goals
      repeat' apply V1
      all_goals rfl
 ·have g1:(i7 S.2 30==1)=false:=by simpa using g1
  have hQ:=fun h=>pairR_0 hS' (congrArg Prod.fst hB) h
  have hR:=fun h=>pairR_2 hS' (congrArg Prod.fst hB) h g1
  clear hB hA hS' hd0 hr0;have zs:∀c:c7,a1H [(false,[.mp [.sl false [.i .u8 0] (c.b.map cU8),.i .i64 c.i,.i .i64 c.h]]),(true,a1K)]=_:=fun c=>a3z c.b c.i c.h 0 [] [] []
  simp only[b3i]at zs;rcases hBe with⟨g6,rfl⟩|⟨g6,rfl⟩<;>rcases hAe with⟨g0,rfl,rfl⟩|⟨g0,rfl,rfl⟩<;>subst S
  all_goals
   ·try dsimp only at h5 h6 h7 h8 h9 g1 hBb hQ hR
    (try refine A3s ?_);simp only[go_sem,pc_susB,Int.reduceBEq,pc_susB,Int.reduceBEq,g0,g6,g1,zs,not_true_eq_false,false_imp_iff];(repeat' first|apply cj'|intro hc|apply z6);(all_goals(try((first|refine u1 4 rfl ?_);intro S hS B0 hB;simp only[go_sem,pc_susB,Int.reduceBEq,pc_susB,Int.reduceBEq,g0,g6,g1,zs,not_true_eq_false,false_imp_iff,V7,q0O]at hS hB;(repeat(first|replace hS:=And.right hS|replace hS:=CJ.r hS));have Rr7:=congrArg (fun s:St=>s.sl 7) hS;have Rr61:=congrArg (fun s:St=>s.sl 61) hS;have Rr62:=congrArg (fun s:St=>s.sl 62) hS;have Rr66:=congrArg (fun s:St=>s.sl 66) hS;have Rr67:=congrArg (fun s:St=>s.sl 67) hS;have Rb1:=congrArg (fun s:St=>s.bx 1) hS;have Rb14:=congrArg (fun s:St=>s.bx 14) hS;have Rb22:=congrArg (fun s:St=>s.bx 22) hS;have Rb23:=congrArg (fun s:St=>s.bx 23) hS;have Rb24:=congrArg (fun s:St=>s.bx 24) hS;have Rb25:=congrArg (fun s:St=>s.bx 25) hS;clear hS;simp only[go_sem,pc_susB,Int.reduceBEq,pc_susB,Int.reduceBEq,g0,g6,g1,zs,not_true_eq_false,false_imp_iff]at Rr7 Rr61 Rr62 Rr66 Rr67 Rb1 Rb14 Rb22 Rb23 Rb24 Rb25;(try clear hc);intro K hc;simp only[go_sem,pc_susB,Int.reduceBEq,pc_susB,Int.reduceBEq,g0,g6,g1,zs,not_true_eq_false,false_imp_iff,Rr7,Rr61,Rr62,Rr66,Rr67,Rb1,Rb14,Rb22,Rb23,Rb24,Rb25,hB,V8,q0K,V6,q0G]at hc ⊢;simp only[go_sem,pc_susB,Int.reduceBEq,pc_susB,Int.reduceBEq,g0,g6,g1,zs,not_true_eq_false,false_imp_iff,Rr7,Rr61,Rr62,Rr66,Rr67,Rb1,Rb14,Rb22,Rb23,Rb24,Rb25,hB,A7u,A7y,A6L,A6K,A7t,A6J,nf_put_sub,A7w,A7v,nf_put_susK,nf_put_dip,nf_put_put,A7x,A7s,A6M,j8,j6,j4,j5,j7,nf_sub_sub,o6,m7,o5,t7,m9,t6,m8]at hc ⊢;simp only[a0o]at hc ⊢;(first|(simp only[hc,q0R,q0I];done)|((repeat' first|exact hc|apply V1);done)))));all_goals try exact om'
    all_goals first
     | (with_reducible exact True.intro)
     | (with_reducible assumption)
     | (with_reducible exact hb g0)
     | (with_reducible exact⟨h5,hBb⟩)
     | (rw[hQ (by with_reducible assumption)];dsimp only;simp only[q0K,q0R])
     | (rw[hR (by with_reducible assumption)];dsimp only;simp only[q0K,q0R])
     | trace_state
noncomputable def a6O:CT:=p6 (fun(x:c7) h=>b5z x h)
@[go_sem] def c5g:=fun x0 x1 x2=>nm' (fP' a6O rfl ⟨x0,x1,x2⟩)
end Go.Aw
namespace Go.Aw
open Go.Proofs
attribute [local irreducible] aft blk lpK retK retE AW A0p
set_option linter.all false
set_option maxRecDepth 100000
attribute [local irreducible] RM
set_option maxHeartbeats 4000000
def a6P(code:List Int):c6:=(a1A (newC code)).1.1
def a6Q(code:List Int):d6:=⟨(a1A (newC code)).1.2⟩
def b0E(code:List Int)(hpre:code.length<=1048576):spZ 28 [(false,[.sl false [.i .u8 0] (code.map cU8)])] [] (.tup [(true,[.i .i64 (((a6P code,a6Q code).1).Kind),.s ((((a6P code,a6Q code).1).Head).Name),n9 ((((a6P code,a6Q code).1).Head).Args),a0r (((a6P code,a6Q code).1).Body)]),(true,[v9 (((a6P code,a6Q code).2).Rels)])]):=by
 refine sx' false true none Tryz.func28 (q' 2 [aw [.i .i64,.s,.sl j3,.sl a1u],aw [.sl a0t]] (q' 7 [am 0,ac 31 [7],aV 4] (q' 10 [am 4,ac 68 [10],aV 9,aZ 9 0,aZ 9 1,ax (w' 5 [.i .i64,.s,.sl j3,.sl a1u]),ax (w' 6 [.sl a0t]),aS 4 5 12,aS 1 6 13] (.seq (.rego [(true,0, e' 14 4 5),(true,1,e' 15 1 6),(false,2,s' 4 2 14),(false,3,s' 1 3 15)] [10,11,12,13]) .ret)))) [.c 2 true 4,.c 3 true 1] [(31,[],a7N),(68,[0],a6O)] ?_;intro hb hE;have h0:=newC_ok hpre;simp only[go_sem];repeat' first|apply cj'|intro hc|exact om'|fail
 ·exact h0
 ·simp only[a6P,a6Q,q0R]
noncomputable def a4I:CT:=p6 (fun(x:(List Int)) h=>b0E x h)
@[go_sem] def c2l:=fun x0=>nm' (fP' a4I rfl x0)
end Go.Aw
namespace Go.Aw
open Go.Proofs
attribute [local irreducible] aft blk lpK retK AW A0p
attribute [local irreducible] RM
set_option linter.all false
set_option maxRecDepth 100000
set_option maxHeartbeats 4000000
def d0y{a:Int}{l:List d3}(h0:0<=a)(h6:a<=6)(hl:l.length<=300)(hr:∀x∈l,a0M x=true/\(x.V.length:Int)=a)(hs:SS q0 l):a0v ⟨a,l⟩=true:=by
 simp only[a0v,W7,q0U,q0B];refine⟨⟨⟨h0,h6⟩,by omega⟩,c0v.2 fun i hi=>?_⟩;have h1:=hr _ (y6 (l:=l) default hi);simp only[a0I,q1A,q1K];refine⟨⟨by simpa using h1.2,h1.1⟩, ?_⟩;cases hd:decide (0<i)with
 | false=>rfl
 | true=>
   have hp:0<i:=of_decide_eq_true hd;have h2:=hr _ (y6 (l:=l) default (show i-1<l.length by omega));have h3:=q3I.1 hs (i-1) i (by omega) hi (by omega);rw[q0N,q1K,a9J (y9 h2.1) (y9 h1.1),n8 default hi,n8 default (show i-1<l.length by omega)];exact h3
noncomputable def a9n(r:c6)(s:d6):List d3:=Lib.compact (a1s q0 (a1r r s))
def b0S{r:c6}{s:d6}{x:d3}:x∈a9n r s↔x∈a1r r s:=by rw[a9n,b1v,b0T]
structure HeadF(r:c6)(s:d6):Prop where
 body:(a0p r s).2=true
 is:(a0k r s).1=⟨r.Head.Args.length,a9n r s⟩
 ok:a0v ⟨r.Head.Args.length,a9n r s⟩=true
 le:(a9n r s).length<=(a0p r s).1.length
def heads_f{r:c6}{s:d6}(h:(a0k r s).2=true):HeadF r s:=by
 rw[a0k]at h;cases hb:(a0p r s).2 with
 | false=>rw[hb]at h;cases h
 | true=>
   rw[hb,W4,b1b]at h;cases hd:decide (300<((Lib.compact (a1s q0 (a1r r s))).length:Int))with
   | true=>rw[hd]at h;cases h
   | false=>
     obtain⟨hr,hlo,hs,hbe⟩:=c4n hb;have h6:=(a1I hr).2;have h3:(a9n r s).length<=300:=by
      have:=of_decide_eq_false hd;show(Lib.compact _).length<=300;omega
     have hrow:∀x∈a9n r s,a0M x=true/\(x.V.length:Int)=r.Head.Args.length:=fun x hx=>by
      have h1:=b0S.1 hx;rw[a1r]at h1;obtain⟨e,he,rfl⟩:=q1E.1 h1;have hf:=c9f hr hs he;have h2:=c5q hr hlo hf (args:=r.Head.Args) fun t ht=>W9.2 (.inl ht)
      refine⟨a9j (b0u.1 hf.ok).1 (a1I hr).1 h6, ?_⟩;rw[h2];simp
     have hok:a0v ⟨r.Head.Args.length,a9n r s⟩=true:=d0y (by omega) (by omega) h3 hrow (b4m a4W (a3i a4W _));refine⟨hb, ?_,hok, ?_⟩
     ·rw[a0k,hb,W4,b1b,hd];rfl
     ·have h1:=a7p (b8k hok) (fun x hx=>b0S.1 hx);rw[a1r,q0H]at h1;rw[hbe];exact h1
def c9N{r:c6}{s:d6}(h:(a0k r s).2=false):(a0k r s).1=default:=by
 rw[a0k]at h ⊢;cases hb:(a0p r s).2 with
 | false=>rfl
 | true=>
   rw[hb,W4,b1b]at h;rw[W4,b1b];cases hd:decide (300<((Lib.compact (a1s q0 (a1r r s))).length:Int))with
   | true=>rfl
   | false=>rw[hd]at h;cases h
def c9M{r:c6}{s:d6}(h:HeadF r s){e:c9}(he:e∈(a0p r s).1):(a3a e r.Head.Args).2=true/\(a0v (a0k r s).1&&a0M (a3a e r.Head.Args).1&&a1x (a0k r s).1.Rows (a3a e r.Head.Args).1)=true:=by
 obtain⟨h1,h2,h3⟩:=c6A h.body he;refine⟨h1, ?_⟩;rw[h.is,h.ok,h2,a3E.2 (b0S.2 h3)];rfl
def a6Z(code:List Int):spZ 8 [(false,[.sl false [.i .u8 0] (code.map cU8)])] [] (.one (false,[.b true])):=by
 refine sy' Tryz.func8 (q' 2 [aU false] (.seq (q' 15 [am 0,aN,aC .gtr 16 1048576] (ci 17 (q' 2 [aU true] .ret))) (q' 19 [am 0,ac 28 [19],aV 18,aZ 18 0,aZ 18 1,ax (w' 3 [.i .i64,.s, .sl j3,.sl a1u]),ax (w' 4 [.sl a0t]),aS 4 3 21,aS 1 4 22] (q' 24 [ae 4 3,ae 1 4,ac 29 [24,25],aV 23,aZ 23 0,aZ 23 1,ax (w' 5 [.i .i64,.sl o8]),aS 2 5 27,aV 6] (q' 30 [ae 4 3,ae 1 4,ac 23 [30,31],aV 29,aZ 29 0,aZ 29 1,av 7 33,aV 8] (q' 36 [ae 4 3,ae 1 4,ac 30 [36,37],aV 35,aZ 35 0,aZ 35 1,ax (w' 9 [.i .i64,.sl o8]),aS 2 9 39,aV 10] (.seq (q' 41 [aM [6,10],ao (.binb .neq (.t 41) (.t 42))] (ci 43 (q' 2 [aU false] .ret))) (.seq (q' 44 [am 6,aO 44] (ci 45 (q' 46 [aG 1 5,aN,aC .eql 48 0,aV 2] .ret))) (.seq (q' 50 [am 7,aN,aK 0] (fO 0 53 [ar 52 51] 53 1 (q' 54 [ai 1 50 52,aE 1,ax (w' 12 [.sl j3]),aS 1 12 55] (q' 57 [ae 1 12,af 1 3,aG 1 58,ac 25 [57,60],aV 56,aZ 56 0,aZ 56 1,ax (w' 13 [.sl l3]),aS 1 13 62,aV 14] (q' 64 [am 14,aO 64,am 65,aH 66 false [be 2 5,be 1 13,bc 27 [67,68],bO 69],aQ 66 70] (ci 71 (q' 2 [aU false] .ret))))) (g' 72 [aA 52]))) (q' 73 [aM [8,73],aH 74 true [bf 1 5,bL,bN,bm 7,bN,bD .leq 77 79],aP 74 80,am 81,aH 82 true [bf 0 5,bL,bf 1 3,bF 1,bL,bN,bD .eql 84 88],aP 82 89,aV 2] .ret)))))))))) [.t 2] [(28,[],a4I),(29,[],a6q),(23,[],a5y),(30,[],a9b),(25,[],a7F),(27,[],a7G)] ?_;intro hb hE;have hbl:=(c6z (a6P code) (a6Q code)).1;simp only[go_sem];repeat' first|apply cj'|intro hc|exact om'|fail
 ·rw[c9N hc];rfl
 ·have hF:=heads_f hc;have hhas:=fun{e}=>c9M hF (e:=e)
  have hle:=hF.le;have hb2:=hF.body;refine lq' false [3,5,7,8,50,51] [6,10] [] (fun i:{i:Nat // i<=(a0p (a6P code) (a6Q code)).1.length}=>[(52,slV (.i .i64 i.1))]) nl' nl' (fun i=>(a0p (a6P code) (a6Q code)).1.length-i.1) (⟨0,by omega⟩) ?_;intro S0 hS0 i;obtain⟨n,hn⟩:=i;simp only[go_sem,hS0];repeat' first|apply cj'|intro hc|exact om'|fail
  ·have h:=hhas (y6 (l:=(a0p (a6P code) (a6Q code)).1) default (i:=n) (by omega));rcases hc with hc|hc
   ·rw[h.1]at hc;cases hc
   ·rw[h.2]at hc;cases hc
  ·exact nx0 ⟨n+1,by omega⟩
  ·refine⟨⟨hb2, ?_⟩, ?_⟩
   ·rw[hF.is];show((a9n (a6P code) (a6Q code)).length:Int)<=_;omega
   ·rw[hF.is];simp
noncomputable def b4k:CT:=o9 (fun(x:(List Int))=>a6Z x)
@[go_sem] def c4F:=fun x0=>nm' (fQ' b4k rfl x0)
end Go.Aw
