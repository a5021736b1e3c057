/- Draws: stores. No condition. -/
import Derived.Test.YtokefohpgeajaaaGreatweU6
namespace Go.Aw
open Go.Proofs
attribute [local irreducible] aft blk lpK retK AW A0p
set_option linter.all false
set_option maxRecDepth 100000
attribute [local irreducible] RM
set_option maxHeartbeats 4000000
def c9g{a:Int}(ha:a<=100):∀(n:Nat) (c:c6) (l:List d5),(∀x∈l,x.V.length<=100)->∀x∈(b0w a n c l).1,x.V.length<=100
 | 0,_,_,h=>h
 | n+1,c,l,h=>c9g ha n _ _ (fun x hx=>by
   rcases a1W.1 hx with hx|hx
   ·rw[hx];show(a0g c a.toNat).1.length<=100;rw[a3v];omega
   ·exact h x hx)
def smallR(r:f5):Prop:=r.Rows.length<=1000/\∀y∈r.Rows,y.V.length<=100
def smallS(l:List d8):Prop:=∀x∈l,smallR x.Rel
def b5c{a:Int}(ha:a<=100)(c:c6):smallR ⟨a,(a3y c a).1⟩:=
 ⟨by have:=(b7u ha c).1;show(a3y c a).1.length<=1000;omega,c9g ha _ _ _ (fun x hx=>by cases hx)⟩
def a4T(l:List d8)(n:List UInt8)(v:d8):(a2K l n v).length<=l.length+1:=by
 rw[c4M,W4,V3];have h1:=q2M (fun x:d8=>!(x.Name==n)) (l.dropWhile fun x=>sLt x.Name n);have h2:=congrArg List.length (q1Q (p:=fun x:d8=>sLt x.Name n) (l:=l));rw[W4]at h2;omega
def smallS.set{l:List d8}(h:smallS l)(n:List UInt8){r:f5}(hr:smallR r):smallS (a2K l n ⟨n,r⟩):=fun x hx=>by
 rcases c8U hx with hx|hx
 ·rw[hx];exact hr
 ·exact h x hx
def smallS.pre{l:List d8}(h:smallS l):∀x∈l,x.Rel.Rows.length<=100000/\∀y∈x.Rel.Rows,y.V.length<1000:=fun x hx=>⟨by have:=(h x hx).1;omega,fun y hy=>by have:=(h x hx).2 y hy;omega⟩
def smallR.pre{r:f5}(h:smallR r):r.Rows.length<=100000/\∀y∈r.Rows,y.V.length<1000:=⟨by have:=h.1;omega,fun y hy=>by have:=h.2 y hy;omega⟩
def b0O(a n:Nat)(b:Int)(ha:a<=100)(hn:n<=1000):smallR ⟨b,a0G a n⟩:=by
 refine⟨by show(a0G a n).length<=1000;rw[a0G,q0O,q3V];exact hn,fun y hy=>?_⟩;obtain⟨i,_,rfl⟩:=q1E.1 hy;show(List.replicate a _).length<=100;rw[List.length_replicate];exact ha
def bigT:List UInt8:=[98,105,103]
def c0e(c:c6):c6:=(a3y (i6 (i6 c 10) 3) (i7 (i6 c 10) 3)).2
def b3H(c:c6)(l:List d8):List d8:=a2K l (b5U.getD (i7 c 10).toNat []) ⟨b5U.getD (i7 c 10).toNat [],⟨i7 (i6 c 10) 3,(a3y (i6 (i6 c 10) 3) (i7 (i6 c 10) 3)).1⟩⟩
def a4F:Nat->c6->List d8->List d8×c6
 | 0,c,l=>(l,c)
 | n+1,c,l=>a4F n (c0e c) (b3H c l)
def c0f{c:c6}(h:k6 c):k6 (c0e c):=c4K (i8 (i8 h 10) 3) _
def c0g{c:c6}{l:List d8}(h:smallS l):smallS (b3H c l)/\(b3H c l).length<=l.length+1:=by
 have hb:=j9 (i6 c 10) (n:=3) (by omega);exact⟨h.set _ (b5c (by omega) _),a4T _ _ _⟩
def a1f(c:c6):List d8×c6:=
 let q:=a4F (i7 c 4).toNat (i6 c 4) []
 bif i7 q.2 25==0 then(a2K q.1 bigT ⟨bigT,⟨2,a0G 2 300⟩⟩,i6 q.2 25)else(q.1,i6 q.2 25)
def b4D(c:c6)(hpre:k6 c):spZ 237 [(false,[.mp [.sl false [.i .u8 0] (c.b.map cU8),.i .i64 c.i,.i .i64 c.h]])] [(0,(false,[.mp [.sl false [.i .u8 0] ((((a1f c).2).b).map cU8),.i .i64 (((a1f c).2).i),.i .i64 (((a1f c).2).h)]]))] (.one (true,[c4y ((⟨(a1f c).1⟩:d7).Rels)])):=by
 refine sx' true false (some 0) Tryz.func237 (q' 2 [aw [.sl a0o]] (q' 3 [ax (o' 5 (.bld [.sl a0o] [])),aw [.sl a0o],aS 1 3 5] (.seq (q' 6 [am 0,ao (.call 33 [.t 6,.k (.v false [.c (.i .i64 4)])]),aV 4] (fo 0 8 [am 4,aC .gtr 8 0] 9 1 (rm' [(true,1,m' 13 0),(true,3,m' 15 0),(true,4,m' 16 0),(false,0,e' 12 1 3), (false,2,c' 14 297 [13]),(false,5,o' 17 (.call 33 [.t 16,.k (.v false [.c (.i .i64 3)])])),(false,6,c' 18 298 [15,17]),(false,7,c' 19 105 [12, 14,18]),(false,8,s' 1 3 19)] [[0,1,2,4,3,5,6,7,8],[0,1,2,4,5,3,6,7,8],[0,1,2,4,5,6,3,7,8]] []) (g' 10 [am 4,aC .sub 10 1,aV 4]))) (.seq (q' 20 [am 0,ao (.call 33 [.t 20,.k (.v false [.c (.i .i64 25)])]),aC .eql 21 0] (ci 22 (rm' [(false,0,e' 23 1 3),(false,1,o' 24 (.call 144 [.k (.v false [.c (.i .i64 2)]),.k (.v false [.c (.i .i64 300)])])),(false,2,o' 25 (.call 105 [.t 23,.k (.v false [.c (.s [98,105,103])]),.t 24])), (false,3,s' 1 3 25)] [[1,0,2,3]] []))) (q' 26 [ae 1 3,aS 1 2 26] .ret))))) [.c 2 true 1] [(33,[0],l3),(297,[0],a3d),(298,[0],a4e),(144,[],a1P),(105,[],a5w)] ?_;intro hb hE;have h1:=i8 hpre 4;have hb:=j9 c (n:=4) (by omega);simp only[go_sem];(repeat' first|apply cj'|intro hc|apply y9);(all_goals(try(refine(show A3U _ _ _ _ _ _ from ?_);simp only[go_sem]at hc ⊢;simp only[go_sem,A7u,A7y,A6L,A6K,A7t,A6J,nf_put_sub,A7w,A7v,nf_put_susK,nf_put_dip,nf_put_put,A7x,A7s,A6M,j8,j6,j4,j5,j7,nf_sub_sub]at hc ⊢;simp only[hc,q0Q,q0G];done)));all_goals try exact om'
 ·exact hpre
 refine lk' true [(true,6,0,200012)] [0,2,3] [4] [] (fun i:{q:Nat×c6×List d8 // (q.1<=3/\k6 q.2.1)/\q.2.2.length+q.1<=10/\smallS q.2.2/\a4F q.1 q.2.1 q.2.2=a4F (i7 c 4).toNat (i6 c 4) []}=>[(4,slV (.i .i64 i.1.1))]) (fun i=>[(6,[.ow 200012]),(1,[.c (.sl false [.i .u8 0] (i.1.2.1.b.map cU8)),.c (.i .i64 i.1.2.1.i),.c (.i .i64 i.1.2.1.h)])]) (fun i=>[(200012,b9d,i.1.2.2.map (d8.cells true true))]) (fun i=>i.1.1) (⟨((i7 c 4).toNat,i6 c 4,[]),⟨by show(i7 c 4).toNat<=3;omega,h1⟩,by show 0+(i7 c 4).toNat<=10;omega,(fun x hx=>by cases hx),rfl⟩) ?_;intro S0 hS0 i;obtain⟨⟨k,d,l⟩,⟨hk,hd⟩,hl,hf,he⟩:=i;simp only at hk hd hl hf he;have h2:=i8 hd 10;have h3:=i8 h2 3;have hb3:=j9 (i6 d 10) (n:=3) (by omega);have h4:=b5c (a:=i7 (i6 d 10) 3) (by omega) (i6 (i6 d 10) 3);have h5:=c0f hd;have h6:=c0g (c:=d) hf;have h7:=smallS.pre hf;have h8:=smallR.pre h4;have hsd:k=0->a1f c=bif i7 d 25==0 then(a2K l bigT ⟨bigT,⟨2,a0G 2 300⟩⟩,i6 d 25)else(l,i6 d 25):=fun hk0=>by rw[a1f,<-he,hk0];rfl
 simp only[go_sem,hS0];(repeat' first|apply cj'|intro hc|apply y9);(all_goals(try((first|refine s9 3 rfl ?_|refine s9 0 rfl ?_);intro S hS B0 hB;simp only[go_sem,hS0,V6,q0M]at hS hB;(repeat(first|replace hS:=And.right hS|replace hS:=CJ.r hS));have Rr3:=congrArg (fun s:St=>s.sl 3) hS;have Rr13:=congrArg (fun s:St=>s.sl 13) hS;have Rr15:=congrArg (fun s:St=>s.sl 15) hS;have Rr16:=congrArg (fun s:St=>s.sl 16) hS;have Rb1:=congrArg (fun s:St=>s.bx 1) hS;have Rb6:=congrArg (fun s:St=>s.bx 6) hS;have Ro200012:=congrArg (fun s:St=>s.ow 200012) hS;clear hS;simp only[go_sem,hS0]at Rr3 Rr13 Rr15 Rr16 Rb1 Rb6 Ro200012;(try clear hc);intro K hc;simp only[go_sem,hS0,Rr3,Rr13,Rr15,Rr16,Rb1,Rb6,Ro200012,hB,V7,q0H,V4,q0E]at hc ⊢;simp only[go_sem,hS0,Rr3,Rr13,Rr15,Rr16,Rb1,Rb6,Ro200012,hB,A7u,A7y,A6L,A6K,A7t,A6J,nf_put_sub,A7w,A7v,nf_put_susK,nf_put_dip,nf_put_put,A7x,A7s,A6M,j8,j6,j4,j5,j7,nf_sub_sub,n9,l8,n8,q0,m7,p9,m0]at hc ⊢;simp only[a0k]at hc ⊢;(first|(simp only[hc,q0Q,q0G];done)|((repeat' first|exact hc|apply V0);done)))));all_goals try exact om'
 ·exact hd
 ·exact h2
 ·exact⟨⟨h3,hb3.1⟩,by omega⟩
 ·exact⟨⟨⟨by omega,h7⟩,h8.1⟩,h8.2⟩
 ·have hw:IntKind.i64.wrap ((k:Int)-1)=((k-1:Nat):Int):=by rw[IntWalk.i64_in _ ⟨by omega,by omega⟩];omega
  have he2:a4F (k-1) (c0e d) (b3H d l)=a4F (i7 c 4).toNat (i6 c 4) []:=by rw[<-he,show k=k-1+1 by omega];rfl
  have h9:=h6.2
  (refine lpK_n2 (⟨(k-1,c0e d,b3H d l),⟨by show k-1<=3;omega,h5⟩,by show(b3H d l).length+(k-1)<=10;omega,h6.1,he2⟩) _ (by simp only[go_sem];try rfl) ?_;simp only[go_sem,hS0]<;>repeat' first|apply V0|exact on'|fail)
 ·exact hd
 ·have h9:=smallR.pre (b0O 2 300 2 (by omega) (by omega));exact⟨⟨⟨by omega,h7⟩,h9.1⟩,h9.2⟩
 ·rw[hsd (by omega),hc];exact⟨rfl,rfl⟩
 ·rw[hsd (by omega),hc];exact⟨rfl,rfl⟩
noncomputable def a6u:CT:=s6 (fun(x:c6) h=>b4D x h)
@[go_sem] def c3T:=fun x0 x1 x2=>nm' (fP' a6u rfl ⟨x0,x1,x2⟩)
def c0h:∀(n:Nat) {c:c6} {l:List d8},k6 c->smallS l->k6 (a4F n c l).2/\smallS (a4F n c l).1/\(a4F n c l).1.length<=l.length+n
 | 0,_,_,h,g=>⟨h,g,by simp[a4F]⟩
 | n+1,c,l,h,g=>by
   have h1:=c0g (c:=c) g;have h2:=c0h n (c0f h) h1.1;exact⟨h2.1,h2.2.1,by have:=h2.2.2;have:=h1.2;show(a4F n (c0e c) (b3H c l)).1.length<=_;omega⟩
def c6U{c:c6}(h:k6 c):k6 (a1f c).2/\smallS (a1f c).1/\(a1f c).1.length<=4:=by
 have hb:=j9 c (n:=4) (by omega);obtain⟨h1,h2,h3⟩:=c0h (i7 c 4).toNat (l:=[]) (i8 h 4) (fun x hx=>by cases hx)
 simp only[q0V]at h3;rw[a1f];cases i7 (a4F (i7 c 4).toNat (i6 c 4) []).2 25==0 with
 | true=>exact⟨i8 h1 25,h2.set _ (b0O 2 300 2 (by omega) (by omega)),by have:=a4T (a4F (i7 c 4).toNat (i6 c 4) []).1 bigT ⟨bigT,⟨2,a0G 2 300⟩⟩;simp only[W5];omega⟩
 | false=>exact⟨i8 h1 25,h2,by simp only[W3];omega⟩
end Go.Aw
namespace Go.Aw
set_option linter.all false
set_option maxHeartbeats 4000000
def St.frZ(st:St)(k:Nat):St:=match st.ow k with|some (d,l)=>((st.frN k).dip k).setOw k (C.freeL d) (C.freeRs l)|none=>st
def Sim.frZ{P:Program}{Γ:Ctx}{γ:G}{st:St}{a:Act}{w:World}{B:Base}{N:Nat}(hS:Sim N B γ st a w)(k:Nat):∃γ',Sim N B γ' (st.frZ k) a w:=by
 cases hk:st.ow k with
 | none=>exact⟨γ,by simp only[St.frZ,hk];exact hS⟩
 | some q=>
   obtain⟨d,l⟩:=q;obtain⟨γ1,h1⟩:=hS.frN (P:=P) (Γ:=Γ) k;have hk1:(st.frN k).ow k=some (d,C.freeRs l):=by simp[St.frN,hk,St.setOw]
   obtain⟨hrd,hnd⟩:=h1.ow k _ _ hk1;simp only[St.frZ,hk];refine⟨_,h1.turnKey (w':=w) hk1 ⟨fun _ _ _=>rfl,q0C _,rfl,Tp.of rfl rfl,rfl⟩ (C.freeL_length d) (fp:=γ1.f k) ?_ hnd (fun b hb=>.inl hb)⟩;unfold C.Rd at hrd ⊢;rw[C.freeL_length];exact hrd
def aw_frZ{P:Program}{Γ:Ctx}{N:Nat}{e:E P Γ N}{Q:Exit->St->Prop}{st:St}{x:ACode}(k:Nat)(h:AW e x Q (st.frZ k)):AW e x Q st:=by
 intro c hc γ a w hS;obtain⟨γ',hS'⟩:=hS.frZ (P:=P) (Γ:=Γ) k;exact h c hc γ' a w hS'
open Go.Proofs
attribute [local irreducible] aft blk lpK retK AW A0p
set_option maxRecDepth 100000
attribute [local irreducible] RM
def b2b(s:d7)(n:List UInt8)(r:f5)(hpre:(s.Rels.length<=20000/\∀x∈s.Rels,x.Rel.Rows.length<=100000/\∀y∈x.Rel.Rows,y.V.length<1000)/\r.Rows.length<=100000/\∀y∈r.Rows,y.V.length<1000):spZ 105 [(true,[v9 s.Rels]),(false,[.s n]),(true,[.i .i64 r.Arity,a2x r.Rows])] [] (.one (true,[v9 ((⟨a2K s.Rels n ⟨n,r⟩⟩:d7).Rels)])):=by
 exact a2l (a5J s n r hpre) (by simp only[go_sem,R.free,List.map])
noncomputable def a0p:CT:=s6 (fun(x:d7×(List UInt8)×f5) h=>b2b x.1 x.2.1 x.2.2 h)
@[go_sem] def a3f:=fun x0 n x1 x2=>nm' (fP' a0p rfl (⟨x0⟩,n,⟨x1,x2⟩))
def zT(i:Nat):List UInt8:=[122]++a9f (10+i)
def b8Q:Nat->Nat->c6->List d8->List d8×c6
 | 0,i,c,l=>(l,c)
 | n+1,i,c,l=>bif decide ((i:Int)<24+i7 c 2)then b8Q n (i+1) (i6 c 2) (a2K l (zT i) ⟨zT i,⟨0,[]⟩⟩)else(l,i6 c 2)
def padZ_on{i:Nat}{c:c6}{l:List d8}(h:(i:Int)<24+i7 c 2):b8Q (26-i+1) i c l=b8Q (26-(i+1)+1) (i+1) (i6 c 2) (a2K l (zT i) ⟨zT i,⟨0,[]⟩⟩):=by
 have hb:=j9 c (n:=2) (by omega);rw[show 26-i+1=(26-(i+1)+1)+1 by omega,b8Q,W9 h,W5]
def c8Z{i:Nat}{c:c6}{l:List d8}(h:¬(i:Int)<24+i7 c 2):b8Q (26-i+1) i c l=(l,i6 c 2):=by
 rw[b8Q,V2 h];rfl
def a8v(l:List d8)(c:c6)(k:Int):List d8×c6:=
 if k=0 then(if l.length=0 then(l,c)else(l.set (i7 c l.length).toNat ⟨fewT.getD (i7 (i6 c l.length) 18).toNat [],(l.getD (i7 c l.length).toNat default).Rel⟩,i6 (i6 c l.length) 18))
 else if k=1 then(if l.length=0 then(l,c)else(l.set (i7 c l.length).toNat ⟨(l.getD (i7 c l.length).toNat default).Name,(a4X (i6 c l.length)).1⟩,(a4X (i6 c l.length)).2))
 else if k=2 then(if 1<l.length then((l.set 0 (l.getD (l.length-1) default)).set (l.length-1) (l.getD 0 default),c)else(l,c))
 else if k=3 then b8Q (26-l.length+1) l.length c l
 else(l,c)
def b5R(c:c6):List d8×c6:=a8v (a1f c).1 (i6 (a1f c).2 16) (i7 (a1f c).2 16)
@[go_sem] def a5U:ACode:=q' 2 [aw [.sl a0o]] (q' 8 [am 0,ac 237 [8],ax (w' 3 [.sl a0o]),aS 1 3 9] (q' 10 [aG 0 3,aN,aV 4] (q' 13 [am 0,ao (.call 33 [.t 13,.k (.v false [.c (.i .i64 16)])]),aV 5] (.seq (q' 15 [am 5,aC
 .eql 15 0,am 16,aH 17 true [bm 4,bC .gtr 18 0],aP 17 19] (ci 20 (rm' [(true,0,f' 21 0 3),(true,2,m' 23 0),(true,3,m' 24 4),(true,5,m' 26 0),
 (false,1,l' 22 21),(false,4,c' 25 33 [23,24]),(false,6,c' 27 238 [26]),(false,7,i' 28 3 22 25),(false,8,f' 29 0 28),(false,9,s' 1 29 27)]
 [[0,1,2,3,5,4,6,7,8,9],[0,1,2,3,5,6,4,7,8,9]] [6,7]))) (.seq (q' 30 [am 5,aC .eql 30 1,am 31,aH 32 true [bm 4,bC .gtr 33 0],aP 32 34] (ci
 35 (rm' [(true,0,f' 36 0 3),(true,2,m' 38 0),(true,3,m' 39 4),(true,5,m' 41 0),(false,1,l' 37 36),(false,4,c' 40 33 [38,39]),(false,6,c'
 42 239 [41]),(false,7,i' 43 3 37 40),(false,8,f' 44 1 43),(false,9,s' 2 44 42)] [[0,1,2,3,5,4,6,7,8,9],[0,1,2,3,5,6,4,7,8,9]] [6,
 7]))) (.seq (q' 45 [am 5,aC .eql 45 2,am 46,aH 47 true [bm 4,bC .gtr 48 1],aP 47 49] (ci 50 (q' 51 [aG 0 3,ao (.ia 3 (.t 52) (k' 0)),aE 3,ax (w' 6 [.s,.i
 .i64,.sl u2]),aS 3 6 54] (.seq (.rego [(true,0,f' 55 0 3),(true,2,f' 57 0 3),(true,4,m' 59 4),(true,5,o' 60 (.bin
 .sub (.t 59) (k' 1))),(false,1,l' 56 55),(false,3,l' 58 57),(false,6,i' 61 3 58 60),(false,7,e' 62 3 61),(false,8,o' 63 (.ia 3 (.t 56) (k'
 0))),(false,9,s' 3 63 62)] [6,7]) (g' 64 [aG 0 3,am 4,aC .sub 66 1,ae 3 6,ai 3 65 67,aS 3 69 68]))))) (.seq (q' 70 [am 5,aC .eql 70 3] (ci 71 (q' 72 [aG 0
 3,aN,aV 7] (fo 0 75 [aM [7,0],ao (.call 33 [.t 76,.k (.v false [.c (.i .i64 2)])]),ao (.bin .add (k' 24) (.t 77)),ar 75 78] 79 1 (.regm [(true,1,m' 83 7),
 (true,2,o' 84 (.bin .add (k' 10) (.t 83))),(true,5,o' 87 (.bld [.i .i64,.sl u2] [])),(false,0,e' 82 1 3),(false,3,
 c' 85 60 [84]),(false,4,o' 86 (.bin .add (.k (.v false [.c (.s [122])])) (.t 85))),(false,6,c' 88 105 [82,86,87]),(false,7,s' 1 3 88)] [[(true,1,
 m' 83 7),(true,2,o' 84 (.bin .add (k' 10) (.t 83))),(true,5,o' 87 (.bld [.i .i64,.sl u2] [])),(false,3,c' 85 60
 [84]),(true,4,o' 86 (.bin .add (.k (.v false [.c (.s [122])])) (.t 85))),(false,0,e' 82 1 3),(false,6,c' 88 105 [82,86,87]),(false,7,s' 1 3
 88)]] []) (g' 80 [aB 7]))))) (q' 89 [ae 1 3,aS 1 2 89] .ret))))))))
def b3W:cmp Tryz.prog Tryz.f143=some a5U:=by kernel_rfl
def b6w(c:c6)(hpre:k6 c):spZ 143 [(false,[.mp [.sl false [.i .u8 0] (c.b.map cU8),.i .i64 c.i,.i .i64 c.h]])] [(0,(false,[.mp [.sl false [.i .u8 0] ((((b5R c).2).b).map cU8),.i .i64 (((b5R c).2).i),.i .i64 (((b5R c).2).h)]]))] (.one (true,[v9 ((⟨(b5R c).1⟩:d7).Rels)])):=by
 refine sq' false true (some 0) Tryz.func143 b3W [.c 2 true 1] [(237,[0],a6u),(33,[0],l3),(238,[0],a1O),(239,[0],a7w),(60,[],a3c),(105,[],a0p)] ?_;intro hb hE;simp only[go_sem]at hb;simp only[a5U,x'];obtain⟨h1,hs,hl⟩:=c6U hpre;have h2:=i8 h1 16;have hk:=j9 (a1f c).2 (n:=16) (by omega);obtain⟨a,ha⟩:∃a,b5R c=a:=⟨_,rfl⟩
 rw[ha];rw[b5R]at ha;refine aw_seq (A3s ?_);simp only[go_sem,pc_susB,Int.reduceBEq];refine aft_n (aw_seq (A3s ?_));simp only[go_sem,pc_susB,Int.reduceBEq];refine cj' hpre (aft_n (aw_frZ 1152 (aw_seq (A3s ?_))));simp only[go_sem,pc_susB,Int.reduceBEq,St.frZ,St.frN];refine aft_n (aw_seq (A3s ?_));simp only[go_sem,pc_susB,Int.reduceBEq];refine cj' h1 ?_;generalize(a1f c).1=l at*;generalize i6 (a1f c).2 16=f at*;generalize i7 (a1f c).2 16=k at*;have hb:=fun h:l.length≠0=>j9 f (n:=l.length) (by omega)
 have h4:=i8 h2 l.length;have hw:IntKind.i64.wrap ((l.length:Int)-1)=(l.length:Int)-1:=IntWalk.i64_in _ ⟨by omega,by omega⟩;have hwt:((l.length:Int)-1).toNat=l.length-1:=by omega
 have hk4:k=0\/k=1\/k=2\/k=3\/4<=k:=by omega
 rcases hk4 with rfl|rfl|rfl|rfl|hk4
 ·repeat(refine aft_n (aw_seq (A3s ?_));simp only[go_sem,pc_susB,Int.reduceBEq,hw,hwt])
  refine cj' (fun hc=>?_) (fun hc=>?_)
  ·refine⟨?_, ?_⟩
   ·(all_goals(try((first|refine s9 4 rfl ?_);intro S hS B0 hB;simp only[go_sem,pc_susB,Int.reduceBEq,hw,hwt,V6,q0M]at hS hB;(repeat(first|replace hS:=And.right hS|replace hS:=CJ.r hS));have Rr21:=congrArg (fun s:St=>s.sl 21) hS;have Rr23:=congrArg (fun s:St=>s.sl 23) hS;have Rr24:=congrArg (fun s:St=>s.sl 24) hS;have Rr26:=congrArg (fun s:St=>s.sl 26) hS;have Rb1:=congrArg (fun s:St=>s.bx 1) hS;have Rb6:=congrArg (fun s:St=>s.bx 6) hS;have Rb7:=congrArg (fun s:St=>s.bx 7) hS;have Ro1152:=congrArg (fun s:St=>s.ow 1152) hS;clear hS;simp only[go_sem,pc_susB,Int.reduceBEq,hw,hwt]at Rr21 Rr23 Rr24 Rr26 Rb1 Rb6 Rb7 Ro1152;(try clear hc);intro K hc;simp only[go_sem,pc_susB,Int.reduceBEq,hw,hwt,Rr21,Rr23,Rr24,Rr26,Rb1,Rb6,Rb7,Ro1152,hB,V7,q0H,V4,q0E]at hc ⊢;simp only[go_sem,pc_susB,Int.reduceBEq,hw,hwt,Rr21,Rr23,Rr24,Rr26,Rb1,Rb6,Rb7,Ro1152,hB,A7u,A7y,A6L,A6K,A7t,A6J,nf_put_sub,A7w,A7v,nf_put_susK,nf_put_dip,nf_put_put,A7x,A7s,A6M,j8,j6,j4,j5,j7,nf_sub_sub,n9,l8,n8,q0,m7,p9,m0]at hc ⊢;simp only[a0k]at hc ⊢;(first|(simp only[hc,q0Q,q0G];done)|((repeat' first|exact hc|apply V0);done)))))
   ·repeat(first|refine cj' h2 ?_|refine cj' h4 ?_|refine cj' (hb (by omega)) ?_|refine cj' (by have:=hb (by omega);omega) ?_)
    repeat(refine aft_n (aw_seq (A3s ?_));simp only[go_sem,pc_susB,Int.reduceBEq,hw,hwt])
    refine aft_n (aw_ret ?_);simp only[go_sem,pc_susB,Int.reduceBEq,hw,hwt];rw[a8v,if_pos rfl,if_neg (by omega)]at ha;subst ha;exact⟨rfl,rfl⟩
  ·repeat(refine aft_n (aw_seq (A3s ?_));simp only[go_sem,pc_susB,Int.reduceBEq,hw,hwt])
   refine aft_n (aw_ret ?_);simp only[go_sem,pc_susB,Int.reduceBEq,hw,hwt];rw[a8v,if_pos rfl,if_pos (by omega)]at ha;subst ha;exact⟨rfl,rfl⟩
 ·repeat(refine aft_n (aw_seq (A3s ?_));simp only[go_sem,pc_susB,Int.reduceBEq,hw,hwt])
  refine cj' (fun hc=>?_) (fun hc=>?_)
  ·refine⟨?_, ?_⟩
   ·(all_goals(try((first|refine s9 4 rfl ?_);intro S hS B0 hB;simp only[go_sem,pc_susB,Int.reduceBEq,hw,hwt,V6,q0M]at hS hB;(repeat(first|replace hS:=And.right hS|replace hS:=CJ.r hS));have Rr36:=congrArg (fun s:St=>s.sl 36) hS;have Rr38:=congrArg (fun s:St=>s.sl 38) hS;have Rr39:=congrArg (fun s:St=>s.sl 39) hS;have Rr41:=congrArg (fun s:St=>s.sl 41) hS;have Rb1:=congrArg (fun s:St=>s.bx 1) hS;have Rb6:=congrArg (fun s:St=>s.bx 6) hS;have Rb7:=congrArg (fun s:St=>s.bx 7) hS;have Ro1152:=congrArg (fun s:St=>s.ow 1152) hS;clear hS;simp only[go_sem,pc_susB,Int.reduceBEq,hw,hwt]at Rr36 Rr38 Rr39 Rr41 Rb1 Rb6 Rb7 Ro1152;(try clear hc);intro K hc;simp only[go_sem,pc_susB,Int.reduceBEq,hw,hwt,Rr36,Rr38,Rr39,Rr41,Rb1,Rb6,Rb7,Ro1152,hB,V7,q0H,V4,q0E]at hc ⊢;simp only[go_sem,pc_susB,Int.reduceBEq,hw,hwt,Rr36,Rr38,Rr39,Rr41,Rb1,Rb6,Rb7,Ro1152,hB,A7u,A7y,A6L,A6K,A7t,A6J,nf_put_sub,A7w,A7v,nf_put_susK,nf_put_dip,nf_put_put,A7x,A7s,A6M,j8,j6,j4,j5,j7,nf_sub_sub,n9,l8,n8,q0,m7,p9,m0]at hc ⊢;simp only[a0k]at hc ⊢;(first|(simp only[hc,q0Q,q0G];done)|((repeat' first|exact hc|apply V0);done)))))
   ·repeat(first|refine cj' h2 ?_|refine cj' h4 ?_|refine cj' (hb (by omega)) ?_|refine cj' (by have:=hb (by omega);omega) ?_)
    repeat(refine aft_n (aw_seq (A3s ?_));simp only[go_sem,pc_susB,Int.reduceBEq,hw,hwt])
    refine aft_n (aw_ret ?_);simp only[go_sem,pc_susB,Int.reduceBEq,hw,hwt];rw[a8v,if_neg (by decide),if_pos rfl,if_neg (by omega)]at ha;subst ha;exact⟨rfl,rfl⟩
  ·repeat(refine aft_n (aw_seq (A3s ?_));simp only[go_sem,pc_susB,Int.reduceBEq,hw,hwt])
   refine aft_n (aw_ret ?_);simp only[go_sem,pc_susB,Int.reduceBEq,hw,hwt];rw[a8v,if_neg (by decide),if_pos rfl,if_pos (by omega)]at ha;subst ha;exact⟨rfl,rfl⟩
 ·repeat(refine aft_n (aw_seq (A3s ?_));simp only[go_sem,pc_susB,Int.reduceBEq,hw,hwt])
  refine cj' (fun hc=>?_) (fun hc=>?_)
  ·repeat(first|refine cj' (by omega) ?_)
   repeat(refine aft_n (aw_seq (A3s ?_));simp only[go_sem,pc_susB,Int.reduceBEq,hw,hwt])
   refine aft_n (aw_ret ?_);simp only[go_sem,pc_susB,Int.reduceBEq,hw,hwt];rw[a8v,if_neg (by decide),if_neg (by decide),if_pos rfl,if_pos (by omega)]at ha;subst ha;exact⟨rfl,rfl⟩
  ·repeat(refine aft_n (aw_seq (A3s ?_));simp only[go_sem,pc_susB,Int.reduceBEq,hw,hwt])
   refine aft_n (aw_ret ?_);simp only[go_sem,pc_susB,Int.reduceBEq,hw,hwt];rw[a8v,if_neg (by decide),if_neg (by decide),if_pos rfl,if_neg (by omega)]at ha;subst ha;exact⟨rfl,rfl⟩
 ·repeat(refine aft_n (aw_seq (A3s ?_));simp only[go_sem,pc_susB,Int.reduceBEq,hw,hwt])
  refine a1K 1152 ?_;rw[a8v,if_neg (by decide),if_neg (by decide),if_neg (by decide),if_pos rfl]at ha;refine lq' false [0,2,3] [4] [] (fun i:{q:Nat×c6×List d8 // (k6 q.2.1/\q.1<=30)/\smallS q.2.2/\q.2.2.length<=q.1+10/\b8Q (26-q.1+1) q.1 q.2.1 q.2.2=b8Q (26-l.length+1) l.length f l}=>[(7,slV (.i .i64 i.1.1))]) (fun i=>[(6,[.c (v9 i.1.2.2)]),(1,[.c (.sl false [.i .u8 0] (i.1.2.1.b.map cU8)),.c (.i .i64 i.1.2.1.i),.c (.i .i64 i.1.2.1.h)])]) nl' (fun i=>31-i.1.1) (⟨(l.length,f,l),⟨h2,by show l.length<=30;omega⟩,hs,by show l.length<=l.length+10;omega,rfl⟩) ?_;intro S0 hS0 i;obtain⟨⟨j,d,t⟩,⟨hd,hj⟩,hts,htl,he⟩:=i;simp only at hd hj hts htl he;have hb2:=j9 d (n:=2) (by omega);have hd2:=i8 hd 2;have w1:IntKind.i64.wrap (24+i7 d 2)=24+i7 d 2:=IntWalk.i64_in _ ⟨by omega,by omega⟩;have w2:IntKind.i64.wrap (10+(j:Int))=10+(j:Int):=IntWalk.i64_in _ ⟨by omega,by omega⟩;have hp:=smallS.pre hts;have hnl:=c0K (10+(j:Int));have zs:∀(t:List d8) (n:List UInt8),a0p [(true,[v9 t]),(false,[.s n]),(true,zFRel)]=_:=fun t n=>a3f t n 0 []
  simp only[go_sem,pc_susB,Int.reduceBEq,hw,hwt,hS0,w1,w2,zs];(repeat' first|apply cj'|intro hc|apply y9);(all_goals(try((first|refine s9 3 rfl ?_);intro S hS B0 hB;simp only[go_sem,pc_susB,Int.reduceBEq,hw,hwt,hS0,w1,w2,zs,V6,q0M]at hS hB;(repeat(first|replace hS:=And.right hS|replace hS:=CJ.r hS));have Rr3:=congrArg (fun s:St=>s.sl 3) hS;have Rr83:=congrArg (fun s:St=>s.sl 83) hS;have Rr84:=congrArg (fun s:St=>s.sl 84) hS;have Rr87:=congrArg (fun s:St=>s.sl 87) hS;have Rb6:=congrArg (fun s:St=>s.bx 6) hS;clear hS;simp only[go_sem,pc_susB,Int.reduceBEq,hw,hwt,hS0,w1,w2,zs]at Rr3 Rr83 Rr84 Rr87 Rb6;(try clear hc);intro K hc;simp only[go_sem,pc_susB,Int.reduceBEq,hw,hwt,hS0,w1,w2,zs,Rr3,Rr83,Rr84,Rr87,Rb6,hB,V7,q0H,V4,q0E]at hc ⊢;simp only[go_sem,pc_susB,Int.reduceBEq,hw,hwt,hS0,w1,w2,zs,Rr3,Rr83,Rr84,Rr87,Rb6,hB,A7u,A7y,A6L,A6K,A7t,A6J,nf_put_sub,A7w,A7v,nf_put_susK,nf_put_dip,nf_put_put,A7x,A7s,A6M,j8,j6,j4,j5,j7,nf_sub_sub,n9,l8,n8,q0,m7,p9,m0]at hc ⊢;simp only[a0k]at hc ⊢;(first|(simp only[hc,q0Q,q0G];done)|((repeat' first|exact hc|apply V0);done)))));all_goals try exact om'
  ·exact hd
  ·exact⟨by omega,hp⟩
  ·have w3:IntKind.i64.wrap ((j:Int)+1)=((j+1:Nat):Int):=by rw[IntWalk.i64_in _ ⟨by omega,by omega⟩];omega
   have h9:=a4T t (zT j) ⟨zT j,⟨0,[]⟩⟩;have h10:=hts.set (zT j) (r:=⟨0,[]⟩) ⟨q2I _,fun y hy=>by cases hy⟩
   (refine lpK_n2 (⟨(j+1,i6 d 2,a2K t (zT j) ⟨zT j,⟨0,[]⟩⟩),⟨hd2,by show j+1<=30;omega⟩,h10,by show(a2K t (zT j) ⟨zT j,⟨0,[]⟩⟩).length<=j+1+10;omega,(padZ_on hc).symm.trans he⟩) _ rfl ?_;simp only[go_sem,pc_susB,Int.reduceBEq,hw,hwt,hS0,w1,w2,zs]<;>repeat' first|apply V0|exact on'|fail)
  ·repeat(refine aft_n (aw_seq (A3s ?_));simp only[go_sem,pc_susB,Int.reduceBEq,hw,hwt,hS0,w1,w2,zs])
   refine aft_n (aw_ret ?_);simp only[go_sem,pc_susB,Int.reduceBEq,hw,hwt,hS0,w1,w2,zs];rw[c8Z hc]at he;rw[<-he]at ha;subst ha;exact⟨rfl,rfl⟩
 ·obtain⟨e0,e1,e2,e3⟩:(k==0)=false/\(k==1)=false/\(k==2)=false/\(k==3)=false:=by simp only[beq_eq_false_iff_ne];omega
  repeat(refine aft_n (aw_seq (A3s ?_));simp only[go_sem,pc_susB,Int.reduceBEq,hw,hwt,e0,e1,e2,e3])
  refine aft_n (aw_ret ?_);simp only[go_sem,pc_susB,Int.reduceBEq,hw,hwt,e0,e1,e2,e3];rw[a8v,if_neg (by omega),if_neg (by omega),if_neg (by omega),if_neg (by omega)]at ha;subst ha;exact⟨rfl,rfl⟩
noncomputable def a7x:CT:=s6 (fun(x:c6) h=>b6w x h)
@[go_sem] def c6b:=fun x0 x1 x2=>nm' (fP' a7x rfl ⟨x0,x1,x2⟩)
end Go.Aw
namespace Go.Aw
set_option linter.all false
set_option maxHeartbeats 4000000
def St.nilC(st:St)(x p:Nat):St:=match st.bx x with
 | some l=>match l[p]? with
   | some (.nl d)=>st.setBx x (l.set p (.c (.sl false d [])))
   | _=>st
 | none=>st
def Sim.nilC{γ:G}{st:St}{a:Act}{w:World}{B:Base}{N:Nat}(hS:Sim N B γ st a w)(x p:Nat):Sim N B γ (st.nilC x p) a w:=by
 unfold St.nilC;split
 ·rename_i l hl;split
  ·rename_i d hd;have how:∀k,(st.setBx x (l.set p (.c (.sl false d [])))).ow k=none\/(st.setBx x (l.set p (.c (.sl false d [])))).ow k=st.ow k:=fun k=>.inr rfl
   have T:Tr no no no no γ st w γ (st.setBx x (l.set p (.c (.sl false d [])))) w:=Tr.fewer how;refine hS.weak how (fun y cs' h=>?_) (fun j v h=>h.tr T AV.fr_no);simp only[St.setBx]at h;split at h
   ·rename_i e;subst e;simp only[W0]at h;subst h;refine⟨l,hl,fun vs hv=>ACsOk.set (hv.tr T (fun _ _=>AC.fr_no)) (fun z v hz hv=>?_)⟩;rw[hd]at hz;simp only[W0]at hz;subst hz;simp only[ACOk]at hv ⊢;subst hv;unfold C.Rd;exact⟨none,0,rfl,q0C _,q2I _,(fun r hr=>by cases hr),by simp⟩
   ·exact⟨cs',h,fun vs hv=>hv.tr T (fun _ _=>AC.fr_no)⟩
  ·exact hS
 ·exact hS
def aw_nilC{P:Program}{Γ:Ctx}{N:Nat}{e:E P Γ N}{Q:Exit->St->Prop}{st:St}{c:ACode}(x p:Nat)(h:AW e c Q (st.nilC x p)):AW e c Q st:=fun q hc γ a w hS=>h q hc γ a w (hS.nilC x p)
open Go.Proofs
attribute [local irreducible] aft blk lpK retK AW A0p
set_option maxRecDepth 100000
attribute [local irreducible] RM
def a9a(r:c7)(hpre:r.Body.length<=10000):spZ 189 [(true,[.i .i64 r.Kind,.s r.Head.Name,o9 r.Head.Args,a0I r.Body])] [] (.one (false,[kFAtom (a1t r)])):=by
 refine sx' false true none Tryz.func189 (q' 1 [aX 4 0,ao (.mov (.k (.v false [.nl c3o])))] (q' 5 [af 1 1,aE 2,ao (.bsl 2 1 [.s,.sl j3] [(0,.t 6)]),aV 3] (.seq (q' 8 [aG 3 1,aN,aK 0] (fO 0 12 [ar 11 10] 12 1 (q' 13 [am 11,aV 4] (q' 14 [aG 3 1,am 4,aI 10,aG 0 17,aC .neq 19 3] (ci 20 (g' 21 [am 3,aG 3 1,am 4,aI 10,aF 1,aE 2,ao (.bsl 2 1 [.s,.sl j3] [(0,.t 27)]),ao (.app 2 40 [.s,.sl j3] (.t 21) (.t 28)),aV 3])))) (g' 30 [aA 11]))) (q' 31 [am 3,aV 2] .ret)))) [.t 2] [] ?_;intro hb hE;simp only[go_sem];repeat' first|apply cj'|intro hc|exact om'|fail
 refine lk' false [(false,3,0,100006)] [1,10] [2] [] (fun i:{i:Nat // i<=r.Body.length}=>[(3,.v false [.ow 100006]),(11,slV (.i .i64 i.1))]) nl' (fun i=>[(100006,c3o,(r.Head::((r.Body.take i.1).filter atB).map d6.Atom).map (f8.cells false false))]) (fun i=>r.Body.length-i.1) (⟨0,by simp⟩) ?_;intro S0 hS0 i;obtain⟨i,hi⟩:=i;simp only[go_sem,hS0];repeat' first|apply cj'|intro hc|exact om'|fail
 ·have:=c8A atB d6.Atom (r.Body.take i);simp at this;omega
 ·have hp:atB (r.Body.getD i default)=true:=hc
  (refine lpK_n2 (⟨i+1,by omega⟩) _ (by simp only[go_sem];try rfl) ?_;simp only[go_sem,hS0]<;>repeat' first|apply V0|exact on'|fail)
  all_goals(rw[b3R d6.Atom default (by omega) hp]<;>rfl)
 ·have hp:atB (r.Body.getD i default)=false:=hc
  (refine lpK_n2 (⟨i+1,by omega⟩) _ (by simp only[go_sem];try rfl) ?_;simp only[go_sem,hS0]<;>repeat' first|apply V0|exact on'|fail)
  all_goals(rw[c0r d6.Atom default (by omega) hp]<;>rfl)
 ·rw[k7 (by omega),a7V];rfl
noncomputable def a3H:CT:=s6 (fun(x:c7) h=>a9a x h)
@[go_sem] def b9R:=fun x0 x1 x2 x3=>nm' (fP' a3H rfl ⟨x0,⟨x1,x2⟩,x3⟩)
def c1a(c:c6)(a:Int):List d5×c6:=b0w a (1+i7 c 5).toNat (i6 c 5) []
def a2d(c:c6)(l:List d8)(a:f8):List d8×c6:=
 bif a0S a.Name&&decide ((a.Args.length:Int)<=6)then
  (bif decide (0<i7 c 6)then(a2K l a.Name ⟨a.Name,⟨a.Args.length,(c1a (i6 c 6) a.Args.length).1⟩⟩,(c1a (i6 c 6) a.Args.length).2)else(l,i6 c 6))
 else(l,c)
def a4p:List f8->c6->List d8->List d8×c6
 | [],c,l=>(l,c)
 | a::t,c,l=>a4p t (a2d c l a).2 (a2d c l a).1
def c6T{A:List f8}{i:Nat}(h:i<A.length)(c:c6)(l:List d8):a4p (A.drop i) c l=a4p (A.drop (i+1)) (a2d c l (A.getD i default)).2 (a2d c l (A.getD i default)).1:=by
 rw[q2Q h,a4p,List.getD,V5 h];rfl
def a6R(c:c6)(r:c7):List d8×c6:=a4p (a1t r).tail c []
def b2n(c:c6)(r:c7)(hpre:k6 c/\r.Body.length<=10000):spZ 142 [(false,[.mp [.sl false [.i .u8 0] (c.b.map cU8),.i .i64 c.i,.i .i64 c.h]]),(true,[.i .i64 r.Kind,.s r.Head.Name,o9 r.Head.Args,a0I r.Body])] [(0,(false,[.mp [.sl false [.i .u8 0] ((((a6R c r).2).b).map cU8),.i .i64 (((a6R c r).2).i),.i .i64 (((a6R c r).2).h)]]))] (.one (true,[v9 ((⟨(a6R c r).1⟩:d7).Rels)])):=by
 refine sx' false true (some 0) Tryz.func142 (q' 3 [aX 4 1,aw [.sl a0o]] (q' 5 [ax (o' 10 (.bld [.sl a0o] [])),aw [.sl a0o],aS 1 5 10] (.seq (q' 11 [ae 4 3,ac 189 [11],ao (.slc 2 (.t 12) (some (k' 1)) none none),aN,aK 0] (fO 0 16 [ar 15 14] 16 1 (q' 17 [ai 2 13 15,aE 2,ax (w' 7 [.s,.sl j3]),aS 2 7 18] (q' 19 [aG 0 7,ac 160 [20],am 21,aH 22 true [bf 1 7,bL,bN,bC .leq 25 6],aP 22 26,am 27,aH 28 true [bm 0,bo (.call 33 [.t 29,.k (.v false [.c (.i .i64 6)])]),bC .gtr 30 0],aP 28 31] (ci 32 (q' 33 [aG 1 7,aN,ao (.bld [.i .i64,.sl u2] [(0,1,.t 35)]),ax (w' 8 [.i .i64,.sl u2]),aS 2 8 36] (.seq (q' 37 [am 0,ao (.call 33 [.t 37,.k (.v false [.c (.i .i64 5)])]),ao (.bin .add (k' 1) (.t 38)),aV 9] (fo 2 40 [am 9,aC .gtr 40 0] 41 3 (rm' [(true,2,m' 46 0),(true,3,f' 47 1 7),(true,4,l' 48 47),(true,5,n' 49 48),(false,0,f' 44 1 8),(false,1,l' 45 44),(false,6,c' 50 236 [46,49]),(false,7,c' 51 179 [45,50]),(false,8,f' 52 1 8),(false,9,s' 1 52 51)] [[0,1,2,3,4,6,5,7,8,9],[0,1,2, 3,6,4,5,7,8,9]] [14,15]) (g' 42 [am 9,aC .sub 42 1,aV 9]))) (g' 53 [ae 1 5,aG 0 7,ae 2 8,ac 105 [53,55,56],aS 1 5 57])))))) (g' 58 [aA 15]))) (q' 59 [ae 1 5,aS 1 4 59] .ret)))) [.c 4 true 1] [(189,[],a3H),(160,[],a0Q),(33,[0],l3),(236,[0],a1p),(179,[0],a2F),(105,[],a0p)] ?_;intro hb hE;obtain⟨hp,hr⟩:=hpre;obtain⟨x0,A,hA⟩:∃x0 A,a1t r=x0::A:=by
  rw[a7V];exact⟨_,_,rfl⟩
 have hcut:cut (List.map (f8.cells false false) (a1t r)) 1 (a1t r).length=List.map (f8.cells false false) A:=by
  rw[hA,cut,V7,V4,q0E,V3,Nat.add_sub_cancel,q1N (by rw[q0O];exact q0C _)]
 have hal:(a1t r).length=A.length+1:=by rw[hA];rfl
 have hAl:A.length<=10000:=by
  have h1:=congrArg List.length hA;rw[a7V,V3,V3,q0O]at h1;have h2:=q2M atB r.Body;omega
 have hst:a6R c r=a4p A c []:=by rw[a6R,hA];rfl
 rw[hst];simp only[go_sem,pc_susB,hcut];(repeat' first|apply cj'|intro hc|apply y9);(all_goals(try(refine(show A3U _ _ _ _ _ _ from ?_);simp only[go_sem,pc_susB,hcut]at hc ⊢;simp only[go_sem,pc_susB,hcut,A7u,A7y,A6L,A6K,A7t,A6J,nf_put_sub,A7w,A7v,nf_put_susK,nf_put_dip,nf_put_put,A7x,A7s,A6M,j8,j6,j4,j5,j7,nf_sub_sub]at hc ⊢;simp only[hc,q0Q,q0G];done)));all_goals try exact om'
 refine aw_nilC 10 0 ?_;simp only[go_sem,pc_susB,hcut,St.nilC];have hal2:((a1t r).length:Int)-1=(A.length:Int):=by rw[hal];omega
 refine lq' false [0,4,5,13,14] [8,15] [] (fun i:{q:Nat×c6×List d8 // (q.1<=A.length/\k6 q.2.1)/\smallS q.2.2/\q.2.2.length<=q.1/\a4p (A.drop q.1) q.2.1 q.2.2=a4p A c []}=>[(15,slV (.i .i64 i.1.1))]) (fun i=>[(10,[.c (v9 i.1.2.2)]),(1,[.c (.sl false [.i .u8 0] (i.1.2.1.b.map cU8)),.c (.i .i64 i.1.2.1.i),.c (.i .i64 i.1.2.1.h)])]) nl' (fun i=>A.length-i.1.1) (⟨(0,c,[]),⟨q2I _,hp⟩,(fun x hx=>by cases hx),q0C _,rfl⟩) ?_;intro S0 hS0 i;obtain⟨⟨j,d,l⟩,⟨hj,hd⟩,hls,hll,he⟩:=i;simp only at hj hd hls hll he;have hat:=c6T (A:=A) (i:=j);cases hX:a0S (A.getD j default).Name with
 | false=>
   simp only[go_sem,pc_susB,hcut,hS0,hX];(repeat' first|apply cj'|intro hc|apply y9);(all_goals(try(refine(show A3U _ _ _ _ _ _ from ?_);simp only[go_sem,pc_susB,hcut,hS0,hX]at hc ⊢;simp only[go_sem,pc_susB,hcut,hS0,hX,A7u,A7y,A6L,A6K,A7t,A6J,nf_put_sub,A7w,A7v,nf_put_susK,nf_put_dip,nf_put_put,A7x,A7s,A6M,j8,j6,j4,j5,j7,nf_sub_sub]at hc ⊢;simp only[hc,q0Q,q0G];done)));all_goals try exact om'
   ·have h5:a2d d l (A.getD j default)=(l,d):=by rw[a2d,hX];rfl
    have h6:=hat (by omega) d l;rw[h5]at h6;have w3:IntKind.i64.wrap ((j:Int)+1)=((j+1:Nat):Int):=by rw[IntWalk.i64_in _ ⟨by omega,by omega⟩];omega
    (refine lpK_n2 (⟨(j+1,d,l),⟨by show j+1<=A.length;omega,hd⟩,hls,by show l.length<=j+1;omega,h6.symm.trans he⟩) _ rfl ?_;simp only[go_sem,pc_susB,hcut,hS0,hX]<;>repeat' first|apply V0|exact on'|fail)
   ·rw[<-he,show j=A.length by omega,q5I];exact⟨rfl,rfl⟩
 | true=>
 cases hY:decide (((A.getD j default).Args.length:Int)<=6)with
 | false=>
   simp only[go_sem,pc_susB,hcut,hS0,hX,hY];(repeat' first|apply cj'|intro hc|apply y9);(all_goals(try(refine(show A3U _ _ _ _ _ _ from ?_);simp only[go_sem,pc_susB,hcut,hS0,hX,hY]at hc ⊢;simp only[go_sem,pc_susB,hcut,hS0,hX,hY,A7u,A7y,A6L,A6K,A7t,A6J,nf_put_sub,A7w,A7v,nf_put_susK,nf_put_dip,nf_put_put,A7x,A7s,A6M,j8,j6,j4,j5,j7,nf_sub_sub]at hc ⊢;simp only[hc,q0Q,q0G];done)));all_goals try exact om'
   ·have h5:a2d d l (A.getD j default)=(l,d):=by rw[a2d,hX,hY];rfl
    have h6:=hat (by omega) d l;rw[h5]at h6;have w3:IntKind.i64.wrap ((j:Int)+1)=((j+1:Nat):Int):=by rw[IntWalk.i64_in _ ⟨by omega,by omega⟩];omega
    (refine lpK_n2 (⟨(j+1,d,l),⟨by show j+1<=A.length;omega,hd⟩,hls,by show l.length<=j+1;omega,h6.symm.trans he⟩) _ rfl ?_;simp only[go_sem,pc_susB,hcut,hS0,hX,hY]<;>repeat' first|apply V0|exact on'|fail)
   ·rw[<-he,show j=A.length by omega,q5I];exact⟨rfl,rfl⟩
 | true=>
   have hd6:=i8 hd 6;have hd5:=i8 hd6 5;have hb5:=j9 (i6 d 6) (n:=5) (by omega);have ha6:((A.getD j default).Args.length:Int)<=6:=of_decide_eq_true hY;have w1:IntKind.i64.wrap (1+i7 (i6 d 6) 5)=1+i7 (i6 d 6) 5:=IntWalk.i64_in _ ⟨by omega,by omega⟩;have w3:IntKind.i64.wrap ((j:Int)+1)=(j:Int)+1:=IntWalk.i64_in _ ⟨by omega,by omega⟩;have hpl:=smallS.pre hls;obtain⟨an,han⟩:∃an,(A.getD j default).Args.length=an:=⟨_,rfl⟩
   simp only[go_sem,pc_susB,hcut,hS0,hX,hY,w1];(repeat' first|apply cj'|intro hc|apply y9);(all_goals(try(refine(show A3U _ _ _ _ _ _ from ?_);simp only[go_sem,pc_susB,hcut,hS0,hX,hY,w1]at hc ⊢;simp only[go_sem,pc_susB,hcut,hS0,hX,hY,w1,A7u,A7y,A6L,A6K,A7t,A6J,nf_put_sub,A7w,A7v,nf_put_susK,nf_put_dip,nf_put_put,A7x,A7s,A6M,j8,j6,j4,j5,j7,nf_sub_sub]at hc ⊢;simp only[hc,q0Q,q0G];done)));all_goals try exact om'
   ·exact hd
   ·exact hd6
   ·have hc6:=hc;refine lk' false [(true,16,1,200032)] [0,4,5,7,8,13,14,15] [8,10,14,15] [] (fun i:{q:Nat×c6×List d5 // (q.1<=5/\k6 q.2.1)/\q.2.2.length+q.1<=10/\(∀x∈q.2.2,okL x.V/\x.V.length<=100)/\b0w (A.getD j default).Args.length q.1 q.2.1 q.2.2=c1a (i6 d 6) (A.getD j default).Args.length}=>[(9,slV (.i .i64 i.1.1))]) (fun i=>[(16,[.c (.i .i64 (A.getD j default).Args.length),.ow 200032]),(1,[.c (.sl false [.i .u8 0] (i.1.2.1.b.map cU8)),.c (.i .i64 i.1.2.1.i),.c (.i .i64 i.1.2.1.h)])]) (fun i=>[(200032,u2,i.1.2.2.map (d5.cells false false))]) (fun i=>i.1.1) (⟨((1+i7 (i6 d 6) 5).toNat,i6 (i6 d 6) 5,[]),⟨by show(1+i7 (i6 d 6) 5).toNat<=5;omega,hd5⟩,by show 0+(1+i7 (i6 d 6) 5).toNat<=10;omega,(fun x hx=>by cases hx),rfl⟩) ?_;intro S1 hS1 i;obtain⟨⟨k,g,t⟩,⟨hk,hg⟩,htl,htf,hte⟩:=i;simp only at hk hg htl htf hte;have h2:=a6X hg (A.getD j default).Args.length;have h3:=b5g g (A.getD j default).Args.length;have h4:=a3v g (A.getD j default).Args.length;simp only[go_sem,pc_susB,hcut,hS0,hX,hY,w1,hS1];(repeat' first|apply cj'|intro hc|apply y9);(all_goals(try((first|refine s9 4 rfl ?_);intro S hS B0 hB;simp only[go_sem,pc_susB,hcut,hS0,hX,hY,w1,hS1,V6,q0M]at hS hB;(repeat(first|replace hS:=And.right hS|replace hS:=CJ.r hS));have Rr8:=congrArg (fun s:St=>s.sl 8) hS;have Rr46:=congrArg (fun s:St=>s.sl 46) hS;have Rr47:=congrArg (fun s:St=>s.sl 47) hS;have Rr48:=congrArg (fun s:St=>s.sl 48) hS;have Rr49:=congrArg (fun s:St=>s.sl 49) hS;have Rb1:=congrArg (fun s:St=>s.bx 1) hS;have Rb14:=congrArg (fun s:St=>s.bx 14) hS;have Rb15:=congrArg (fun s:St=>s.bx 15) hS;have Rb16:=congrArg (fun s:St=>s.bx 16) hS;have Ro200032:=congrArg (fun s:St=>s.ow 200032) hS;clear hS;simp only[go_sem,pc_susB,hcut,hS0,hX,hY,w1,hS1]at Rr8 Rr46 Rr47 Rr48 Rr49 Rb1 Rb14 Rb15 Rb16 Ro200032;(try clear hc);intro K hc;simp only[go_sem,pc_susB,hcut,hS0,hX,hY,w1,hS1,Rr8,Rr46,Rr47,Rr48,Rr49,Rb1,Rb14,Rb15,Rb16,Ro200032,hB,V7,q0H,V4,q0E]at hc ⊢;simp only[go_sem,pc_susB,hcut,hS0,hX,hY,w1,hS1,Rr8,Rr46,Rr47,Rr48,Rr49,Rb1,Rb14,Rb15,Rb16,Ro200032,hB,A7u,A7y,A6L,A6K,A7t,A6J,nf_put_sub,A7w,A7v,nf_put_susK,nf_put_dip,nf_put_put,A7x,A7s,A6M,j8,j6,j4,j5,j7,nf_sub_sub,n9,l8,n8,q0,m7,p9,m0]at hc ⊢;simp only[a0k]at hc ⊢;(first|(simp only[hc,q0Q,q0G];done)|((repeat' first|exact hc|apply V0);done)))));all_goals try exact om'
    ·exact⟨hg,by omega⟩
    ·exact⟨⟨⟨by omega,h3⟩,by omega⟩,fun x hx=>(htf x hx).1⟩
    ·have h5:∀x∈a0i a0t t ⟨(a0g g (A.getD j default).Args.length).1⟩,okL x.V/\x.V.length<=100:=fun x hx=>by
      rcases a1W.1 hx with hx|hx
      ·rw[hx];exact⟨h3,by show(a0g g (A.getD j default).Args.length).1.length<=100;omega⟩
      ·exact htf x hx
     have h6:=b2B a0t t ⟨(a0g g (A.getD j default).Args.length).1⟩;have hw:IntKind.i64.wrap ((k:Int)-1)=((k-1:Nat):Int):=by rw[IntWalk.i64_in _ ⟨by omega,by omega⟩];omega
     have he2:b0w (A.getD j default).Args.length (k-1) (a0g g (A.getD j default).Args.length).2 (a0i a0t t ⟨(a0g g (A.getD j default).Args.length).1⟩)=c1a (i6 d 6) (A.getD j default).Args.length:=by rw[<-hte,show k=k-1+1 by omega];rfl
     (refine lpK_n2 (⟨(k-1,(a0g g (A.getD j default).Args.length).2,a0i a0t t ⟨(a0g g (A.getD j default).Args.length).1⟩),⟨by show k-1<=5;omega,h2⟩,by show(a0i a0t t ⟨(a0g g (A.getD j default).Args.length).1⟩).length+(k-1)<=10;omega,h5,he2⟩) _ (by simp only[go_sem,pc_susB,hcut,hS0,hX,hY,w1];try rfl) ?_;simp only[go_sem,pc_susB,hcut,hS0,hX,hY,w1,hS1]<;>repeat' first|apply V0|exact on'|fail)
    ·exact⟨⟨⟨by omega,hpl⟩,by omega⟩,fun y hy=>by have:=(htf y hy).2;omega⟩
    ·rw[show k=0 by omega]at hte;have hrx:c1a (i6 d 6) (A.getD j default).Args.length=(t,g):=hte.symm;have h5:a2d d l (A.getD j default)=(a2K l (A.getD j default).Name ⟨(A.getD j default).Name,⟨(A.getD j default).Args.length,t⟩⟩,g):=by
      rw[a2d,hX,hY,W9 hc6,hrx];rfl
     have h6:=hat (by omega) d l;rw[h5]at h6;have h9:=a4T l (A.getD j default).Name ⟨(A.getD j default).Name,⟨(A.getD j default).Args.length,t⟩⟩;have h10:=hls.set (A.getD j default).Name (r:=⟨(A.getD j default).Args.length,t⟩) ⟨by show t.length<=1000;omega,fun y hy=>(htf y hy).2⟩;have w4:IntKind.i64.wrap ((j:Int)+1)=((j+1:Nat):Int):=by rw[w3];omega
     (refine lpK_n2 (⟨(j+1,g,a2K l (A.getD j default).Name ⟨(A.getD j default).Name,⟨(A.getD j default).Args.length,t⟩⟩),⟨by show j+1<=A.length;omega,hg⟩,h10,by show(a2K l _ _).length<=j+1;omega,h6.symm.trans he⟩) _ (by simp only[go_sem,pc_susB,hcut,hS0,hX,hY,w1];try rfl) ?_;simp only[go_sem,pc_susB,hcut,hS0,hX,hY,w1,hS1]<;>repeat' first|apply V0|exact on'|fail)
   ·have h5:a2d d l (A.getD j default)=(l,i6 d 6):=by rw[a2d,hX,hY,V2 (by omega)];rfl
    have h6:=hat (by omega) d l;rw[h5]at h6;have w4:IntKind.i64.wrap ((j:Int)+1)=((j+1:Nat):Int):=by rw[w3];omega
    (refine lpK_n2 (⟨(j+1,i6 d 6,l),⟨by show j+1<=A.length;omega,hd6⟩,hls,by show l.length<=j+1;omega,h6.symm.trans he⟩) _ (by simp only[go_sem,pc_susB,hcut,hS0,hX,hY,w1];try rfl) ?_;simp only[go_sem,pc_susB,hcut,hS0,hX,hY,w1]<;>repeat' first|apply V0|exact on'|fail)
   ·rw[<-he,show j=A.length by omega,q5I];exact⟨rfl,rfl⟩
noncomputable def a1v:CT:=s6 (fun(x:c6×c7) h=>b2n x.1 x.2 h)
@[go_sem] def a3l:=fun x0 x1 x2 x3 x4 x5 x6=>nm' (fP' a1v rfl (⟨x0,x1,x2⟩,⟨x3,⟨x4,x5⟩,x6⟩))
end Go.Aw
namespace Go.Aw
set_option maxHeartbeats 4000000
open Go.Proofs
set_option linter.all false
set_option maxRecDepth 100000
def c9q{l:d6}{b c:List c4}(h:EqStep l b c):b.length<=c.length:=by
 rcases h.len with rfl|h<;>omega
def c8u(r:c7)(b:List c4):∀{n m:Nat},n<=m->(eqP r b n).length<=(eqP r b m).length
 | n,0,h=>by cases Nat.le_zero.1 h;exact q0C _
 | n,m+1,h=>by
   by_cases hn:n=m+1
   ·subst hn;exact q0C _
   ·have h1:=c8u r b (n:=n) (m:=m) (by omega);have h2:=c9q (a2v (r.Body.getD m default) (eqP r b m));rw[eqP];omega
def c0q{r:c7}{c:List c4}(h:a4m r c=c){n:Nat}(hn:n<=r.Body.length):eqP r c n=c:=by
 rcases b8j r c n with h1|h1
 ·exact h1
 ·have h2:=c8u r c hn;rw[show eqP r c r.Body.length=c from h]at h2;omega
def c6u{r:c7}{c:List c4}(h:a4m r c=c){l:d6}(hl:l∈r.Body):eqS l c=c:=by
 obtain⟨n,hn,rfl⟩:=q2V hl;have h1:=c0q h (n:=n+1) (by omega);rw[eqP,c0q h (n:=n) (by omega),m9 default hn]at h1;exact h1
def eqR_clo(r:c7)(b:List c4):∀l∈r.Body,a0e ((eqR r b).map c4.Var) l:=by
 obtain⟨k,_,hp⟩:=a9W r b;intro l hl he hk x hx;have h1:=congrArg (List.map c4.Var) (c6u hp hl);rw[b8l,domE,he,W5]at h1;have key:∀v,a0i Op.bytesLess ((eqR r b).map c4.Var) v=(eqR r b).map c4.Var->v∈(eqR r b).map c4.Var:=fun v hv=>c0U (congrArg List.length hv)
 have both:t5 ((eqR r b).map c4.Var) l.A=true/\t5 ((eqR r b).map c4.Var) l.B=true:=by
  cases h2:t5 ((eqR r b).map c4.Var) l.A with
  | true=>
    cases h3:t5 ((eqR r b).map c4.Var) l.B with
    | true=>exact⟨rfl,rfl⟩
    | false=>
      rw[h2,h3]at h1;have h4:=key _ h1;rw[t5,q0Y]at h3;rw[q1J.2 h4]at h3;exact absurd h3.2 (by decide)
  | false=>
    rw[h2,q3C]at hk;rw[h2,hk]at h1;have h4:=key _ h1;rw[t5,q0Y]at h2;rw[q1J.2 h4]at h2;exact absurd h2.2 (by decide)
 obtain⟨t,ht,hv,rfl⟩:=w7.1 hx;have h5:t5 ((eqR r b).map c4.Var) t=true:=by
  simp only[q0A,q5F,or_false]at ht;rcases ht with rfl|rfl
  ·exact both.1
  ·exact both.2
 rw[t5,show(t.Var==[])=false by simpa[y7]using hv,q3C]at h5;exact q1J.1 h5
def c6K{r:c7}{s:d7}{c:List c4}(h:∀l∈r.Body,Rooted s ⟨c⟩ l):a2A r (c.map c4.Var):=by
 intro l hl hk x hx;obtain⟨t,ht,hv,rfl⟩:=w7.1 hx;obtain⟨row,_,_,hb⟩:=h l hl hk;obtain⟨i,hi,rfl⟩:=q2V ht;have h1:=hb i hi;rw[m9 default hi]at h1;have h2:=a3Q c (l.Atom.Args[i]);rw[show k8 ⟨c⟩ (l.Atom.Args[i])=_ from h1]at h2;rw[t5,show((l.Atom.Args[i]).Var==[])=false by simpa[y7]using hv,q3C]at h2;exact q1J.1 h2.symm
def lit6{l:d6}(h:a1H l=true):(m8 l.Atom.Args++m8 [l.A,l.B]).length<=6:=by
 have h1:=a1g l.Atom.Args;have h2:=a1g [l.A,l.B];rw[W4];simp only[V3,q0V]at h2;rw[a1H]at h;cases hk:(l.Kind==3)with
 | true=>
   rw[hk]at h;simp only[W5,W6,beq_iff_eq]at h;omega
 | false=>
   rw[hk]at h;simp only[W3,W6,b7B,beq_iff_eq,a2Z,V9]at h;have h3:y7 l.A=false:=by simp[y7,h.1.2.1]
   have h4:y7 l.B=false:=by simp[y7,h.2.1]
   have h5:m8 [l.A,l.B]=[]:=by simp[m8,h3,h4]
   rw[h5,q0V];omega
def allV48{r:c7}(h:l4 r=true):(a2b r).length<=48:=by
 have h8:=(a4H h).2;have:=b6Z (fun l=>m8 l.Atom.Args++m8 [l.A,l.B]) 6 (b:=r.Body) fun l hl=>lit6 (a8b h l hl)
 show(r.Body.flatMap fun l=>m8 l.Atom.Args++m8 [l.A,l.B]).length<=48;omega
def c0d{x:List UInt8}:∀{args:List d3} {vs:List (List UInt8)},x∈args.foldl c0c vs->x∈vs\/x∈m8 args
 | [],vs,h=>.inl h
 | t::args,vs,h=>by
   rw[q2R]at h;rcases c0d h with h|h
   ·rw[c0c]at h;cases ht:t.Var==[]with
    | true=>rw[ht]at h;exact .inl h
    | false=>
      rw[ht,W3]at h;rcases a1W.1 h with rfl|h
      ·exact .inr (w7.2 ⟨t,q4F,by rw[y7,ht];rfl,rfl⟩)
      ·exact .inl h
   ·obtain⟨u,hu,h1,h2⟩:=w7.1 h;exact .inr (w7.2 ⟨u,q2J _ hu,h1,h2⟩)
def c0v{r:c7}{s:d7}:∀{n:Nat} {l:List c9},n<=r.Body.length->a0s r s n=some l->∀e∈l,∀v∈e.Binds.map c4.Var,v∈a2b r
 | 0,l,_,h,e,he,v,hv=>by
   simp only[a0s,W0]at h;subst h;rw[q0B.1 he]at hv;cases hv
 | n+1,l,hn,h,e,he,v,hv=>by
   rw[a0s]at h;obtain⟨d,h1,h2⟩:=q1R.1 h;have ih:=c0v (by omega) h1;cases hk:(r.Body.getD n default).Kind==1 with
   | false=>
     rw[hk,W3,W0]at h2;subst h2;exact ih e he v hv
   | true=>
     rw[hk,W5]at h2;by_cases hl:(v5 (r.Body.getD n default).Atom.Args (z5 s (r.Body.getD n default).Atom.Name).1.Rows d).length<=2000
     ·rw[W9 hl,W5,W0]at h2;subst h2;obtain⟨e0,he0,hc⟩:=q1W.1 he;obtain⟨row,hrow,hf⟩:=q3O.1 hc;rw[(a1V hf).dom]at hv;rcases c0d hv with h3|h3
      ·exact ih e0 he0 v h3
      ·exact q1W.2 ⟨_,a0a default (show n<r.Body.length by omega),W8.2 (.inl h3)⟩
     ·rw[V2 hl]at h2;cases h2
def eqS_all{r:c7}{l:d6}(hl:l∈r.Body){b c:List c4}(h:EqStep l b c)(hb:∀v∈b.map c4.Var,v∈a2b r):∀v∈c.map c4.Var,v∈a2b r:=by
 intro v hv;cases h with
 | same=>exact hb v hv
 | right _ _ h=>
   have h2:=a0j h;rw[a1F _ (a3L h2.2)]at hv;rcases a1W.1 hv with rfl|hv
   ·exact b2z hl (.inr rfl) h2.1
   ·exact hb v hv
 | left _ _ h=>
   have h2:=a0j h;rw[a1F _ (a3L h2.2)]at hv;rcases a1W.1 hv with rfl|hv
   ·exact b2z hl (.inl rfl) h2.1
   ·exact hb v hv
def c4p{r:c7}{b:List c4}(hb:∀v∈b.map c4.Var,v∈a2b r):∀{n:Nat},n<=r.Body.length->∀v∈(eqP r b n).map c4.Var,v∈a2b r
 | 0,_=>hb
 | n+1,hn=>eqS_all (a0a default (show n<r.Body.length by omega)) (a2v _ _) (c4p hb (by omega))
def c4m{r:c7}{b:List c4}(hb:∀v∈b.map c4.Var,v∈a2b r):∀k,∀v∈(eqI r b k).map c4.Var,v∈a2b r
 | 0=>hb
 | k+1=>c4p (c4m hb k) (q0C _)
structure BodyF(r:c7)(s:d7)(e:c9):Prop where
 ok:b0N e=true
 bd:∀v,Bd r v->v∈e.Binds.map c4.Var
 root:∀l∈r.Body,Rooted s e l
 holds:a3s r s e=true
def body_f{r:c7}{s:d7}(hr:l4 r=true)(hs:u3 s=true){e:c9}(he:e∈(u9 r s).1):BodyF r s e:=by
 obtain⟨_,hf,_⟩:=a5g hr hs;rw[u9]at he;cases hj:(a0H r s).2 with
 | false=>rw[hj]at he;cases he
 | true=>
   rw[hj,W5]at he;have h1:=(y8.1 he).resolve_left (by intro h;cases h);rw[a4l,q1H,q1E]at h1;obtain⟨⟨e',he',rfl⟩,hh⟩:=h1;have h2:=hf e' he';have hro:∀l∈r.Body,Rooted s (eqE r e') l:=fun l hl=>(h2.2.2 l hl).ext (c:=eqE r e') (b2v r e'.Binds)
   have ho:=c2Q hr h2.2.1;have ha:∀v∈(eqR r e'.Binds).map c4.Var,v∈a2b r:=by
    obtain⟨k,hk,_⟩:=a9W r e'.Binds;rw[<-hk];refine c4m (fun v hv=>?_) k;rw[a0H]at he';cases hn:a0s r s r.Body.length with
    | none=>rw[hn]at he';cases he'
    | some l=>rw[hn]at he';exact c0v (q0C _) hn e' he' v hv
   have h48:=b0t ho.nodup ha;rw[q0O]at h48;have h49:=allV48 hr;exact⟨b6W.2 ⟨ho,by show(eqR r e'.Binds).length<=60;omega⟩,fun v hv=>hv.mem (c6K hro) (eqR_clo r e'.Binds),hro,hh⟩
def c8S{r:c7}(hr:l4 r=true)(hl:a0z r=[]){t:d3}(ht:t∈b0A r)(hv:(t.Var==[])=false):Bd r t.Var:=by
 have h1:t.Var∈a3S (b0A r):=by
  rw[a3S,y8];exact .inr (w7.2 ⟨t,ht,by rw[y7,hv];rfl,rfl⟩)
 rw[c1p hr]at h1;rw[a0z,hr,W5,c8R,List.filter_eq_nil_iff]at hl;have h2:=hl _ h1;exact a3u.1 (q1J.1 (by simpa using h2))
def fill_on{r:c7}{s:d7}(hr:l4 r=true)(hl:a0z r=[]){e:c9}(h:BodyF r s e){args:List d3}(ha:∀t∈args,t∈b0A r):z7 e args=(⟨args.map fun t=>(k8 e t).1⟩,true):=by
 rw[z7,show args.all (fun t=>(k8 e t).2)=true from q0R.2 fun t ht=>?_]
 ·rfl
 ·rw[show(k8 e t).2=t5 (e.Binds.map c4.Var) t from a3Q e.Binds t,t5];cases h0:t.Var==[]with
  | true=>rfl
  | false=>
    rw[q3C];exact q1J.2 (h.bd _ (c8S hr hl (ha t ht) h0))
def c8y{e:c9}{args:List d3}(he:b0N e=true)(ha:args.all p6=true)(h6:args.length<=6):a3r e args=z7 e args:=by
 rw[a3r,he,ha,W9 (show(args.length:Int)<=6 by omega)];rfl
def body_on{r:c7}{s:d7}(h:(a0x r s).2=true):l4 r=true/\a0z r=[]/\u3 s=true/\a0x r s=u9 r s:=by
 have h0:=h;rw[a0x]at h;cases h1:l4 r&&(!decide (0<((a0z r).length:Int))&&u3 s)with
 | false=>rw[h1]at h;cases h
 | true=>
   have h2:=h1;simp only[W6,q0T,q2E]at h1;exact⟨h1.1,q2Y (by omega),h1.2.2,by rw[a0x,h2];rfl⟩
def b9H{r:c7}{s:d7}{e:c9}(he:e∈(a0x r s).1){l:d6}(hl:l∈r.Body)(hk:(l.Kind==3)=false):u3 s=true/\(a3r e l.Atom.Args).2=true/\a0V (a3r e l.Atom.Args).1=true/\a1b (z5 s l.Atom.Name).1.Rows (a3r e l.Atom.Args).1=(l.Kind==1):=by
 have hb:(a0x r s).2=true:=by
  cases hb:(a0x r s).2 with
  | true=>rfl
  | false=>
    have:(a0x r s).1=[]:=by
     unfold a0x at*;cases h:l4 r&&(!decide (0<((a0z r).length:Int))&&u3 s)with
     | false=>rfl
     | true=>rw[h]at hb;exact b0H hb
    rw[this]at he;cases he
 obtain⟨hr,hlo,hs,hbe⟩:=body_on hb;rw[hbe]at he;have hf:=body_f hr hs he;obtain⟨h1,h6⟩:=a8c hr hl hk;have hfi:=c8y hf.ok h1 h6;have h2:=fill_on hr hlo hf (args:=l.Atom.Args) fun t ht=>W8.2 (.inr (q1W.2 ⟨l,hl,by rw[a2L,hk];exact ht⟩))
 have h3:=c0o (b6W.1 hf.ok).1 h1 h6;rw[hfi];refine⟨hs,by rw[h2],h3, ?_⟩;rcases c0E hr hl with h|h|h
 ·rw[(hf.root l hl).has (by rw[h];rfl),h];rfl
 ·have h4:=q0R.1 hf.holds l hl;rw[a9d,h]at h4;rw[h];simpa using h4
 ·rw[h]at hk;cases hk
attribute [local irreducible] aft blk lpK retK AW A0p
attribute [local irreducible] RM
def c4L{r:f5}(h:a0y r=true):r.Rows.length<=300/\∀x∈r.Rows,x.V.length<1000:=by
 refine⟨a6W h,fun x hx=>?_⟩;obtain⟨i,hi,rfl⟩:=q2V hx;simp only[a0y,W6,q0T]at h;have h1:=b9B.1 h.2 i hi;rw[a0E,m9 default hi]at h1;simp only[q0Y,q1G]at h1;have h3:=(b7y h1.1.2).1;omega
def b0x(s:d7)(n:List UInt8):f5×Bool:=bif u3 s&&(z5 s n).2 then((z5 s n).1,true)else(default,false)
def a5H(s:d7)(n:List UInt8):spZ 26 [(true,[v9 s.Rels]),(false,[.s n])] [] (.tup [(true,[.i .i64 (((b0x s n).1).Arity),kDRow (((b0x s n).1).Rows)]),(false,[.b ((b0x s n).2)])]):=by
 refine sx' true false none Tryz.func26 (q' 2 [aX 1 0,ax (w' 4 [.i .i64,.sl u2]),ab 5 false] (q' 9 [ae 1 2,am 1,ac 82 [9,10],aV 8,aZ 8 0,aZ 8 1,ax (w' 6 [.i .i64,.sl u2]),aS 2 6 12,aV 7] (.seq (q' 14 [ae 1 2,ac 70 [14],aO 15,am 16,aH 17 false [bm 7,bO 18],aQ 17 19] (ci 20 (q' 21 [ao (.bld [.i .i64,.sl u2] []),aS 2 4 21,ab 5 false] .ret))) (q' 22 [ae 2 6,ac 83 [22],aS 2 4 23,ab 5 true] .ret)))) [.c 4 true 2,.t 5] [(82,[],a2R),(70,[],a3a),(83,[],a6k)] ?_;intro hb hE;simp only[go_sem];repeat' first|apply cj'|intro hc|exact om'|fail
 ·rcases hc with h|h
  ·rw[b0x,h];exact⟨⟨rfl,rfl⟩,rfl⟩
  ·rw[b0x,h,q2N];exact⟨⟨rfl,rfl⟩,rfl⟩
 ·have h1:=a2W hc.1 n;exact⟨by have:=(c4L h1).1;omega,fun x hx=>(c4L h1).2 x hx⟩
 ·rw[b0x,hc.1,hc.2];exact⟨⟨rfl,rfl⟩,rfl⟩
noncomputable def b1I:CT:=o8 (fun(x:d7×(List UInt8))=>a5H x.1 x.2)
@[go_sem] def c2l:=fun x0 n=>nm' (fQ' b1I rfl (⟨x0⟩,n))
def b5Z(r:f5)(t:d5):spZ 27 [(true,[.i .i64 r.Arity,a2x r.Rows]),(true,[u6 t.V])] [] (.one (false,[.b (a0y r&&a0V t&&a1b r.Rows t)])):=by
 refine sy' Tryz.func27 (q' 2 [aX 2 0,aX 1 1,aU false] (q' 5 [ae 2 2,ac 84 [5],am 6,aH 7 true [be 1 3,bc 85 [8]],aP 7 9,am 10,aH 11 true [be 2 2,be 1 3,bc 86 [12,13]],aP 11 14,aV 4] .ret)) [.t 4] [(84,[],a4Y),(85,[],a4Z),(86,[],a7W)] ?_;intro hb hE;simp only[go_sem];repeat' first|apply cj'|intro hc|exact om'|fail
noncomputable def a7k:CT:=o8 (fun(x:f5×d5)=>b5Z x.1 x.2)
@[go_sem] def c5D:=fun x0 x1 x2=>nm' (fQ' a7k rfl (⟨x0,x1⟩,⟨x2⟩))
def a8S(s:d7)(n:List UInt8):spZ 26 [(true,[v9 s.Rels]),(false,[.s n])] [] (.tup [(true,[.i .i64 (((b0x s n).1).Arity),a2x (((b0x s n).1).Rows)]),(false,[.b ((b0x s n).2)])]):=by
 exact a2l (a5H s n) (by simp only[go_sem,R.free,List.map])
noncomputable def a3C:CT:=o8 (fun(x:d7×(List UInt8))=>a8S x.1 x.2)
@[go_sem] def b9L:=fun x0 n=>nm' (fQ' a3C rfl (⟨x0⟩,n))
def b5Y(e:c9)(args:List d3):spZ 25 [(true,[u5 e.Binds]),(false,[o9 args])] [] (.tup [(true,[u6 (((a3r e args).1).V)]),(false,[.b ((a3r e args).2)])]):=by
 exact a2l (b0R e args) (by simp only[go_sem,R.free,List.map])
noncomputable def a7j:CT:=o8 (fun(x:c9×(List d3))=>b5Y x.1 x.2)
@[go_sem] def c5C:=fun x0 x1=>nm' (fQ' a7j rfl (⟨x0⟩,x1))
def b1N(r:c7)(s:d7):spZ 23 [(true,[.i .i64 r.Kind,.s r.Head.Name,o9 r.Head.Args,a0I r.Body]),(true,[v9 s.Rels])] [] (.tup [(false,[b7e ((a0x r s).1)]),(false,[.b ((a0x r s).2)])]):=by
 exact a2l (a7G r s) (by simp only[go_sem,R.free,List.map])
noncomputable def a5o:CT:=o8 (fun(x:c7×d7)=>b1N x.1 x.2)
@[go_sem] def c2j:=fun x0 x1 x2 x3 x4=>nm' (fQ' a5o rfl (⟨x0,⟨x1,x2⟩,x3⟩,⟨x4⟩))
def c0X{r:c7}{s:d7}{e:c9}(he:e∈(a0x r s).1){l:d6}(hl:l∈r.Body)(hk:(l.Kind==3)=false):(a0y (b0x s l.Atom.Name).1&&a0V (a3r e l.Atom.Args).1&&a1b (b0x s l.Atom.Name).1.Rows (a3r e l.Atom.Args).1)=(l.Kind==1):=by
 obtain⟨hs,h1,h2,h3⟩:=b9H he hl hk;have h4:(b0x s l.Atom.Name).1=(z5 s l.Atom.Name).1:=by
  rw[b0x,hs,q0K];cases h:(z5 s l.Atom.Name).2 with
  | true=>rfl
  | false=>
    unfold z5 at h ⊢;split at h
    ·cases h
    ·rename_i h5;rw[if_neg h5];rfl
 rw[h4,a2W hs,h2,h3];rfl
def bodS(l:List c7):Prop:=∀u∈l,u.Body.length<=6010
def bodS.set{l:List c7}(h:bodS l){i:Nat}{r:c7}(hr:r.Body.length<=6010):bodS (l.set i r):=fun u hu=>by
 rcases List.mem_or_eq_of_mem_set hu with hu|hu
 ·exact h u hu
 ·rw[hu];exact hr
def c0Q:∀(n:Nat) (c:c6) {r:c7} {l:List c7},bodS l->r.Body.length<=6010->bodS (b2p n c r l).1
 | 0,c,r,l,h,_=>h
 | n+1,c,r,l,h,hr=>by
   rw[b2p];cases decide ((l.length:Int)<24+i7 c 2)with
   | true=>exact c0Q n _ (fun u hu=>by
      rcases W8.1 hu with hu|hu
      ·exact h u hu
      ·rw[q0B.1 hu];exact hr) hr
   | false=>exact h
def c7R{p:d9}{d:i3}{r:c7}{c:c6}{k:Int}{i:Nat}(h:bodS p.Rules)(hr:r.Body.length<=6010):bodS (b5P p d r c k i).1.Rules:=by
 have hite:∀(b:Prop) [Decidable b] (x y:d9×c6),bodS x.1.Rules->bodS y.1.Rules->bodS (if b then x else y).1.Rules:=fun b _ x y hx hy=>by split<;>assumption
 unfold b5P;repeat'(first|exact h|exact h.set hr|exact h.set (by rw[List.length_set];exact hr)|exact c0Q _ _ h hr|apply hite)
def b3S{l:List c7}(h:bodS l)(i:Nat):(l.getD i default).Body.length<=6010:=by
 rw[List.getD];by_cases hi:i<l.length
 ·rw[V5 hi];exact h _ (q0S hi)
 ·rw[q3Q (by omega)];exact q2I _
def c7S(c:c6):bodS (a3Y c).1.Rules:=by
 have h:bodS (a8a c).Rules:=fun u hu=>((a6N _).2 u hu).2
 unfold a3Y;split
 ·exact h
 ·exact c7R h (b3S h _)
def r16_bod(c:c6):(r16 c).1.Body.length<=6010:=by
 unfold r16;split
 ·exact q2I _
 ·exact b3S (c7S c) _
def b7l:∀(n:Nat) (c:c6) (l:List d6),(a5K n c l).1.length=l.length+n
 | 0,_,_=>rfl
 | n+1,c,l=>by rw[a5K,b7l n,W4,q0N];omega
def r18_bod(c:c6):(r18 c).1.Body.length<=6020:=by
 have h:=r16_bod c;have hb:=j9 (i6 (r16 c).2 3) (n:=3) (by omega);unfold r18;split
 ·show(a5K _ _ _).1.length<=6020;rw[b7l];omega
 ·show(r16 c).1.Body.length<=6020;omega
def b7A:∀(A:List f8) {c:c6} {l:List d8},k6 c->k6 (a4p A c l).2
 | [],c,l,h=>h
 | a::t,c,l,h=>by
   rw[a4p];refine b7A t ?_;unfold a2d;cases a0S a.Name&&decide ((a.Args.length:Int)<=6)with
   | false=>exact h
   | true=>
     rw[W5];cases decide (0<i7 c 6)with
     | false=>exact i8 h 6
     | true=>exact b8S _ _ _ (i8 (i8 h 6) 5)
def b4t(s:List UInt8):spZ 35 [(false,[.s s])] [] (.tup [(true,[c8G (((y5 s).1).Decls),c8H (((y5 s).1).Rules)]),(false,[.i .i64 ((y5 s).2.1)]),(false,[.i .i64 ((y5 s).2.2)])]):=by
 exact a2l (a8V s) (by simp only[go_sem,R.free,List.map])
noncomputable def a6p:CT:=o8 (fun(x:(List UInt8))=>b4t x)
@[go_sem] def c3J:=fun s=>nm' (fQ' a6p rfl s)
def xyT:List d3:=[⟨[88],default⟩,⟨[89],default⟩]
def isL(n:List UInt8)(t:List d3):d6:=⟨1,⟨n,t⟩,0,default,default⟩
def c0S(c:c6):d9:=(y5 (a2J c).1).1
def a6L(c:c6):c7×c6:=if(c0S c).Rules.length=0 then(default,(a2J c).2)else((c0S c).Rules.getD (i7 (a2J c).2 (c0S c).Rules.length).toNat default,i6 (a2J c).2 (c0S c).Rules.length)
def a9i(c:c6):c7×c6:=if i7 (a6L c).2 6=0 then r18 (i6 (a6L c).2 6)else((a6L c).1,i6 (a6L c).2 6)
def pairK(c:c6)(r:c7)(l:List d8)(k:Int):(c7×List d8)×c6:=
 if k=0 then((r,(b5R c).1),(b5R c).2)
 else if k=1 then((⟨1,⟨[99],xyT.drop (i7 c 2).toNat⟩,[isL [97] (xyT.take 1),isL [98] (xyT.drop 1)]⟩,a2K (a2K [] [97] ⟨[97],⟨1,a0G 1 40⟩⟩) [98] ⟨[98],⟨1,a0G 1 (50+i7 (i6 c 2) 2).toNat⟩⟩),i6 (i6 c 2) 2)
 else((r,l),c)
def a9j(c:c6):List d8×c6:=a6R (a9i c).2 (a9i c).1
def a1r(c:c6):(c7×List d8)×c6:=pairK (i6 (a9j c).2 30) (a9i c).1 (a9j c).1 (i7 (a9j c).2 30)
def b5a{c:c6}(h:k6 c):k6 (a6L c).2:=by
 unfold a6L;split
 ·exact b8P h
 ·exact i8 (b8P h) _
def c0R{c:c6}(h:k6 c):k6 (a9i c).2:=by
 unfold a9i;split
 ·exact r18_ok (i8 (b5a h) 6)
 ·exact i8 (b5a h) 6
def c9a{c:c6}(h:k6 c):k6 (a9j c).2:=b7A _ (c0R h)
def pairR_0{c:c6}{S:List d8×c6}{r:c7}(hS:a9j c=S)(hr:(a9i c).1=r)(h:(i7 S.2 30==0)=true):a1r c=((r,(b5R (i6 S.2 30)).1),(b5R (i6 S.2 30)).2):=by
 rw[a1r,hS,hr,eq_of_beq h];rfl
def pairR_1{c:c6}{S:List d8×c6}(hS:a9j c=S)(h:(i7 S.2 30==1)=true):a1r c=((⟨1,⟨[99],xyT.drop (i7 (i6 S.2 30) 2).toNat⟩,[isL [97] (xyT.take 1),isL [98] (xyT.drop 1)]⟩,a2K (a2K [] [97] ⟨[97],⟨1,a0G 1 40⟩⟩) [98] ⟨[98],⟨1,a0G 1 (50+i7 (i6 (i6 S.2 30) 2) 2).toNat⟩⟩),i6 (i6 (i6 S.2 30) 2) 2):=by
 rw[a1r,hS,eq_of_beq h];rfl
def pairR_2{c:c6}{S:List d8×c6}{r:c7}(hS:a9j c=S)(hr:(a9i c).1=r)(h0:(i7 S.2 30==0)=false)(h:(i7 S.2 30==1)=false):a1r c=((r,S.1),i6 S.2 30):=by
 rw[a1r,hS,hr,pairK,if_neg (by simpa using h0),if_neg (by simpa using h)]
def b7b(a n:Nat):(a0G a n).length=n:=by rw[a0G,q0O,q3V]
def b7c{n:Nat}{y:d5}(h:y∈a0G 1 n):y.V.length=1:=by
 obtain⟨i,_,rfl⟩:=q1E.1 h;rfl
def b0b{n:Nat}(h:n<=1000):(a0G 1 n).length<=100000/\∀y∈a0G 1 n,y.V.length<1000:=⟨by rw[b7b];omega,fun y hy=>by rw[b7c hy];omega⟩
@[go_sem] def a5m:ACode:=q' 2 [aw [.i .i64,.s,.sl j3,.sl a1o],aw [.sl a0o]] (q' 14 [am 0,ac 32 [14],ac 35 [15],aV 13,aZ 13 0,aZ 13 1,aZ 13
 2,ax (w' 4 [.sl a1q,.sl a1y]),aS 2 4 17,av 5 18,aV 6] (q' 7 [ax (o' 20 (.bld [.i .i64,.s,.sl j3,.sl a1o] [])),aw
 [.i .i64,.s,.sl j3,.sl a1o],aS 4 7 20] (.seq (q' 21 [aG 1 4,aN,aC .gtr 23 0] (ci 24 (.rego [(true,0,f' 25 1 4),(true,1,l' 26 25),(true,2,m' 27 0),(false,3,f' 28 1
 4),(false,4,l' 29 28),(false,5,n' 30 29),(false,6,c' 31 33 [27,30]),(false,7,i' 32 4 26 31),(false,8,e' 33 4 32),(false,9,s' 4 7 33)] [8,
 9]))) (.seq (q' 34 [am 0,ao (.call 33 [.t 34,.k (.v false [.c (.i .i64 6)])]),aC .eql 35 0] (ci 36 (g' 37 [am 0,ac 141 [37],aS 4 7 38]))) (q' 39 [am 0,ae 4
 7,ac 142 [39,40],ax (w' 8 [.sl a0o]),aS 1 8 41] (q' 42 [am 0,ao (.call 33 [.t 42,.k (.v false
 [.c (.i .i64 30)])]),aV 9] (.seq (q' 44 [am 9,aC .eql 44 0] (ci 45 (g' 46 [am 0,ac 143 [46],aS 1 8 47]))) (.seq (q' 48 [am 9,aC .eql 48 1] (ci 49 (q' 50 [ao
 (.bld [.s,.i .i64,.s] [(0,1,.k (.v false [.c (.s [88])]))]),ao (.bld [.s,.i .i64,.s] [(0,1,.k (.v false [.c (.s [89])]))]),ao (.bsl 3 2 [.s,.i .i64,
 .s] [(0,.t 50),(1,.t 51)]),aV 10] (q' 53 [am 10,ao (.slc 3 (.t 53) none (some (k' 1)) none),ao (.bld [.s,.sl j3] [(0,1,.k (.v
 false [.c (.s [97])])),(1,1,.t 54)]),ao (.bld [.i .i64,.s,.sl j3,.i .i64,.s,.i .i64,.s,.s,.i .i64,.s] [(0,1,.k (.v false
 [.c (.i .i64 1)])),(1,2,.t 55)]),ax (w' 11 [.i .i64,.s,.sl j3,.i .i64,.s,.i .i64,.s,.s,.i .i64,.s]),aS 10 11 56] (q' 57 [am
 10,ao (.slc 3 (.t 57) (some (k' 1)) none none),ao (.bld [.s,.sl j3] [(0,1,.k (.v false [.c (.s [98])])),(1,1,.t 58)]),ao (.bld
 [.i .i64,.s,.sl j3,.i .i64,.s,.i .i64,.s,.s,.i .i64,.s] [(0,1,.k (.v false [.c (.i .i64 1)])),(1,2,.t 59)]),ax (w' 12 [.i
 .i64,.s,.sl j3,.i .i64,.s,.i .i64,.s,.s,.i .i64,.s]),aS 10 12 60] (.seq (.regm [(true,0,m' 61 10),(true,1,m' 62 0),
 (true,5,e' 66 10 11),(true,6,e' 67 10 12),(false,2,o' 63 (.call 33 [.t 62,.k (.v false [.c (.i .i64 2)])])),(false,3,o' 64 (.slc 3 (.t 61) (some
 (.t 63)) none none)),(true,4,o' 65 (.bld [.s,.sl j3] [(0,1,.k (.v false [.c (.s [99])])),(1,1,.t 64)])),(false,7,o' 68
 (.bsl 10 2 [.i .i64,.s,.sl j3,.i .i64,.s,.i .i64,.s,.s,.i .i64,.s] [(0,.t 66),(1,.t 67)])),(false,8,o' 69 (.bld [.i
 .i64,.s,.sl j3,.sl a1o] [(0,1,.k (.v false [.c (.i .i64 1)])),(1,2,.t 65),(3,1,.t 68)])),(false,9,s' 4 7 69)] [[(true,0,m' 61 10),(true,1,m' 62 0),(true,5,
 e' 66 10 11),(true,6,e' 67 10 12),(false,2,o' 63 (.call 33 [.t 62,.k (.v false [.c (.i .i64 2)])])),(false,7,o' 68 (.bsl 10 2 [.i .i64,.s,.sl j3,.i .i64,.s,.i .i64,.s,.s,.i .i64,.s] [(0,.t 66),(1,.t 67)])),(false,3,o' 64 (.slc 3 (.t 61) (some (.t 63)) none none)),
 (false,4,o' 65 (.bld [.s,.sl j3] [(0,1,.k (.v false [.c (.s [99])])),(1,1,.t 64)])),(false,8,o' 69 (.bld [.i .i64,.s,.sl
 j3,.sl a1o] [(0,
 1,.k (.v false [.c (.i .i64 1)])),(1,2,.t 65),(3,1,.t 68)])),(false,9,s' 4 7 69)],[(true,0,m' 61 10),(true,1,m' 62 0),(true,5,e' 66 10 11),
 (true,6,e' 67 10 12),(false,7,o' 68 (.bsl 10 2 [.i .i64,.s,.sl j3,.i .i64,.s,.i .i64,.s,.s,.i .i64,.s] [(0,.t 66),(1,
 .t 67)])),(false,2,o' 63 (.call 33 [.t 62,.k (.v false [.c (.i .i64 2)])])),(false,3,o' 64 (.slc 3 (.t 61) (some (.t 63)) none none)),(false,4,o' 65
 (.bld [.s,.sl j3] [(0,1,.k (.v false [.c (.s [99])])),(1,1,.t 64)])),(false,8,o' 69 (.bld [.i .i64,.s,.sl j3,.sl a1o] [(0,1,.k (.v false [.c
 (.i .i64 1)])),(1,2,.t 65),(3,1,.t 68)])),(false,9,s' 4 7 69)]] [22,23,24,25]) (g' 70 [ao (.bld [.sl a0o] []),ao (.call 144 [.k (.v false [.c (.i .i64 1)]),.k (.v false [.c (.i .i64 40)])]),ao (.call 105 [.t 70,.k (.v false [.c (.s
 [97])]),.t 71]),am 0,ao (.call 33 [.t 73,.k (.v false [.c (.i .i64 2)])]),ao (.bin .add (k' 50) (.t 74)),ao (.call 144 [.k (.v false [.c (.i .i64 1)]),.t
 75]),ao (.call 105 [.t 72,.k (.v false [.c (.s [98])]),.t 76]),aS 1 8 77]))))))) (.seq (.rego [(true,0,e' 78 4 7),(true,1,e' 79 1 8),(false,2,s' 4 2
 78),(false,3,s' 1 3 79)] [14,15,16,17]) .ret)))))))))
def b1M:cmp Tryz.prog Tryz.f68=some a5m:=by kernel_rfl
def b4S(c:c6)(hpre:k6 c):spZ 68 [(false,[.mp [.sl false [.i .u8 0] (c.b.map cU8),.i .i64 c.i,.i .i64 c.h]])] [(0,(false,[.mp [.sl false [.i .u8 0] ((((a1r c).2).b).map cU8),.i .i64 (((a1r c).2).i),.i .i64 (((a1r c).2).h)]]))] (.tup [(true,[.i .i64 ((((a1r c).1.1,(⟨(a1r c).1.2⟩:d7)).1).Kind),.s (((((a1r c).1.1,(⟨(a1r c).1.2⟩:d7)).1).Head).Name),o9 (((((a1r c).1.1,(⟨(a1r c).1.2⟩:d7)).1).Head).Args),a0I ((((a1r c).1.1,(⟨(a1r c).1.2⟩:d7)).1).Body)]),(true,[v9 ((((a1r c).1.1,(⟨(a1r c).1.2⟩:d7)).2).Rels)])]):=by
 refine sq' false true (some 0) Tryz.func68 b1M [.c 2 true 4,.c 3 true 1] [(32,[0],a6D),(35,[],a6p),(33,[0],l3),(141,[0],a6C),(142,[0],a1v),(143,[0],a7x),(144,[],a1P),(105,[],a0p)] ?_;intro hb hE;simp only[go_sem]at hb;simp only[a5m,x'];have h1:=b8P hpre;have h2:=i8 h1 (y5 (a2J c).1).1.Rules.length;have hb:=fun h=>j9 (a2J c).2 (n:=(y5 (a2J c).1).1.Rules.length) h
 obtain⟨d0,hd0⟩:∃d,(a6L c).2=d:=⟨_,rfl⟩
 obtain⟨r0,hr0⟩:∃r,(a6L c).1=r:=⟨_,rfl⟩
 obtain⟨B,hB⟩:∃B,a9i c=B:=⟨_,rfl⟩
 obtain⟨S,hS⟩:∃S,a6R B.2 B.1=S:=⟨_,rfl⟩
 have hS':a9j c=S:=by rw[a9j,hB,hS]
 have hA:a6L c=(r0,d0):=by rw[<-hr0,<-hd0]
 have h3:=b5a hpre;have h5:=c0R hpre;have h6:=c9a hpre;rw[hB]at h5;rw[hS']at h6;rw[hd0]at h3;have h4:=i8 h3 6;have h7:=i8 h6 30;have h8:=i8 h7 2;have h9:=i8 h8 2;have hbo:r0.Body.length<=6010:=by
  rw[<-hr0,a6L];split
  ·exact q2I _
  ·exact b3S (fun u hu=>((a6N _).2 u hu).2) _
 have hAe:0<((y5 (a2J c).1).1.Rules.length:Int)/\r0=(y5 (a2J c).1).1.Rules.getD (i7 (a2J c).2 (y5 (a2J c).1).1.Rules.length).toNat default/\d0=i6 (a2J c).2 (y5 (a2J c).1).1.Rules.length\/¬0<((y5 (a2J c).1).1.Rules.length:Int)/\r0=⟨0,⟨[],[]⟩,[]⟩/\d0=(a2J c).2:=by
  rw[<-hr0,<-hd0,a6L,c0S];split
  ·exact .inr ⟨by omega,rfl,rfl⟩
  ·exact .inl ⟨by omega,rfl,rfl⟩
 have hBe:(i7 d0 6==0)=true/\B=r18 (i6 d0 6)\/(i7 d0 6==0)=false/\B=(r0,i6 d0 6):=by
  rw[<-hB,a9i,hA];split
  ·exact .inl ⟨by simpa,rfl⟩
  ·exact .inr ⟨by simpa,rfl⟩
 have hBb:B.1.Body.length<=10000:=by
  rcases hBe with⟨_,h⟩|⟨_,h⟩
  ·rw[h];have:=r18_bod (i6 d0 6);omega
  ·rw[h];show r0.Body.length<=10000;omega
 by_cases g1:(i7 S.2 30==1)=true
 ·have g2:(i7 S.2 30==0)=false:=by rw[eq_of_beq g1];rfl
  rw[pairR_1 hS' g1];clear hB hA hS' hd0 hr0;have zs:∀c:c6,a1v [(false,[.mp [.sl false [.i .u8 0] (c.b.map cU8),.i .i64 c.i,.i .i64 c.h]]),(true,a1y)]=_:=fun c=>a3l c.b c.i c.h 0 [] [] []
  simp only[b2E]at zs;have hsm:smallS (a2K [] [97] ⟨[97],⟨1,a0G 1 40⟩⟩):=smallS.set (fun x hx=>by cases hx) _ ⟨by rw[b7b];omega,fun y hy=>by rw[b7c hy];omega⟩;have hsl:=a4T [] [97] ⟨[97],⟨1,a0G 1 40⟩⟩;rw[q0V]at hsl;have hb2:=j9 (i6 S.2 30) (n:=2) (by omega);have hb3:=j9 (i6 (i6 S.2 30) 2) (n:=2) (by omega);have hz:i7 (i6 S.2 30) 2=0\/i7 (i6 S.2 30) 2=1:=by omega
  have w1:IntKind.i64.wrap (50+i7 (i6 (i6 S.2 30) 2) 2)=50+i7 (i6 (i6 S.2 30) 2) 2:=IntWalk.i64_in _ ⟨by omega,by omega⟩;have zt:∀n a (rows:List d5),a0p [(true,zFStore),(false,[.s n]),(true,[.i .i64 a,a2x rows])]=_:=fun n a rows=>a3f [] n a rows
  rcases hBe with⟨g6,rfl⟩|⟨g6,rfl⟩<;>rcases hAe with⟨g0,rfl,rfl⟩|⟨g0,rfl,rfl⟩<;>subst S
  all_goals
   ·try dsimp only at h5 h6 h7 h8 h9 hb2 hb3 w1 g1 g2 hBb hz
    refine aw_seq (A3s ?_);simp only[go_sem,pc_susB,Int.reduceBEq,g0,g6,g1,g2,zs,zt,w1];refine aft_n (aw_seq (A3s ?_));simp only[go_sem,pc_susB,Int.reduceBEq,g0,g6,g1,g2,zs,zt,w1];refine cj' hpre (aft_n (aw_seq (A3s ?_)));simp only[go_sem,pc_susB,Int.reduceBEq,g0,g6,g1,g2,zs,zt,w1];refine aft_n (aw_seq (A3s ?_));simp only[go_sem,pc_susB,Int.reduceBEq,g0,g6,g1,g2,zs,zt,w1];first|refine cj' (cj' h1 (cj' (hb g0) ?_)) (fun h=>absurd trivial h)|skip
    refine aft_n (aw_seq (A3s ?_));simp only[go_sem,pc_susB,Int.reduceBEq,g0,g6,g1,g2,zs,zt,w1];first|refine cj' h3 (cj' h4 ?_)|refine cj' h3 ?_
    refine aft_n (aw_seq (A3s ?_));simp only[go_sem,pc_susB,Int.reduceBEq,g0,g6,g1,g2,zs,zt,w1];first|refine cj' ⟨h5,hBb⟩ ?_|refine cj' h5 ?_
    refine aft_n (aw_seq (A3s ?_));simp only[go_sem,pc_susB,Int.reduceBEq,g0,g6,g1,g2,zs,zt,w1];refine cj' h6 (aft_n (aw_seq (A3s ?_)));simp only[go_sem,pc_susB,Int.reduceBEq,g0,g6,g1,g2,zs,zt,w1];refine aft_n (aw_seq (aw_seq (A3s ?_)));simp only[go_sem,pc_susB,Int.reduceBEq,g0,g6,g1,g2,zs,zt,w1];refine aft_n (aw_cond (b:=true) rfl trivial (fun _=>?_) (fun h=>by cases h));refine aw_seq (A3s ?_);simp only[go_sem,pc_susB,Int.reduceBEq,g0,g6,g1,g2,zs,zt,w1];refine aft_n (a1K 6656 (aw_seq (A3s ?_)));simp only[go_sem,pc_susB,Int.reduceBEq,g0,g6,g1,g2,zs,zt,w1];refine cj' (by decide) (aft_n (aw_seq (A3s ?_)));simp only[go_sem,pc_susB,Int.reduceBEq,g0,g6,g1,g2,zs,zt,w1];refine cj' (by decide) (aft_n (aw_seq (A3s ?_)));simp only[go_sem,pc_susB,Int.reduceBEq,g0,g6,g1,g2,zs,zt,w1];refine⟨?_, ?_⟩
    ·(all_goals(try((first|refine s9 4 rfl ?_);intro S hS B0 hB;simp only[go_sem,pc_susB,Int.reduceBEq,g0,g6,g1,g2,zs,zt,w1,V6,q0M]at hS hB;(repeat(first|replace hS:=And.right hS|replace hS:=CJ.r hS));have Rr7:=congrArg (fun s:St=>s.sl 7) hS;have Rr61:=congrArg (fun s:St=>s.sl 61) hS;have Rr62:=congrArg (fun s:St=>s.sl 62) hS;have Rr66:=congrArg (fun s:St=>s.sl 66) hS;have Rr67:=congrArg (fun s:St=>s.sl 67) hS;have Rb1:=congrArg (fun s:St=>s.bx 1) hS;have Rb14:=congrArg (fun s:St=>s.bx 14) hS;have Rb22:=congrArg (fun s:St=>s.bx 22) hS;have Rb23:=congrArg (fun s:St=>s.bx 23) hS;have Rb24:=congrArg (fun s:St=>s.bx 24) hS;have Rb25:=congrArg (fun s:St=>s.bx 25) hS;clear hS;simp only[go_sem,pc_susB,Int.reduceBEq,g0,g6,g1,g2,zs,zt,w1]at Rr7 Rr61 Rr62 Rr66 Rr67 Rb1 Rb14 Rb22 Rb23 Rb24 Rb25;(try clear hc);intro K hc;simp only[go_sem,pc_susB,Int.reduceBEq,g0,g6,g1,g2,zs,zt,w1,Rr7,Rr61,Rr62,Rr66,Rr67,Rb1,Rb14,Rb22,Rb23,Rb24,Rb25,hB,V7,q0H,V4,q0E]at hc ⊢;simp only[go_sem,pc_susB,Int.reduceBEq,g0,g6,g1,g2,zs,zt,w1,Rr7,Rr61,Rr62,Rr66,Rr67,Rb1,Rb14,Rb22,Rb23,Rb24,Rb25,hB,A7u,A7y,A6L,A6K,A7t,A6J,nf_put_sub,A7w,A7v,nf_put_susK,nf_put_dip,nf_put_put,A7x,A7s,A6M,j8,j6,j4,j5,j7,nf_sub_sub,n9,l8,n8,q0,m7,p9,m0]at hc ⊢;simp only[a0k]at hc ⊢;(first|(simp only[hc,q0Q,q0G];done)|((repeat' first|exact hc|apply V0);done)))))
    ·refine cj' h7 (cj' (by omega) (aft_n (A3s ?_)));simp only[go_sem,pc_susB,Int.reduceBEq,g0,g6,g1,g2,zs,zt,w1];refine cj' (by omega) (cj' (b0b (by omega)) (cj' h8 (cj' (by omega) (cj' ⟨⟨⟨by omega,smallS.pre hsm⟩,(b0b (by omega)).1⟩,(b0b (by omega)).2⟩ (aft_n (a1K 8704 (aw_seq (A3s ?_))))))));simp only[go_sem,pc_susB,Int.reduceBEq,g0,g6,g1,g2,zs,zt,w1];refine aft_n (aw_ret ?_);simp only[go_sem,pc_susB,Int.reduceBEq,g0,g6,g1,g2,zs,zt,w1];rcases hz with hz|hz<;>simp only[hz]
     all_goals
      repeat' apply V0
      all_goals rfl
 ·have g1:(i7 S.2 30==1)=false:=by simpa using g1
  have hQ:=fun h=>pairR_0 hS' (congrArg Prod.fst hB) h
  have hR:=fun h=>pairR_2 hS' (congrArg Prod.fst hB) h g1
  clear hB hA hS' hd0 hr0;have zs:∀c:c6,a1v [(false,[.mp [.sl false [.i .u8 0] (c.b.map cU8),.i .i64 c.i,.i .i64 c.h]]),(true,a1y)]=_:=fun c=>a3l c.b c.i c.h 0 [] [] []
  simp only[b2E]at zs;rcases hBe with⟨g6,rfl⟩|⟨g6,rfl⟩<;>rcases hAe with⟨g0,rfl,rfl⟩|⟨g0,rfl,rfl⟩<;>subst S
  all_goals
   ·try dsimp only at h5 h6 h7 h8 h9 g1 hBb hQ hR
    (try refine A3s ?_);simp only[go_sem,pc_susB,Int.reduceBEq,pc_susB,Int.reduceBEq,g0,g6,g1,zs,not_true_eq_false,false_imp_iff];(repeat' first|apply cj'|intro hc|apply y9);(all_goals(try((first|refine s9 4 rfl ?_);intro S hS B0 hB;simp only[go_sem,pc_susB,Int.reduceBEq,pc_susB,Int.reduceBEq,g0,g6,g1,zs,not_true_eq_false,false_imp_iff,V6,q0M]at hS hB;(repeat(first|replace hS:=And.right hS|replace hS:=CJ.r hS));have Rr7:=congrArg (fun s:St=>s.sl 7) hS;have Rr61:=congrArg (fun s:St=>s.sl 61) hS;have Rr62:=congrArg (fun s:St=>s.sl 62) hS;have Rr66:=congrArg (fun s:St=>s.sl 66) hS;have Rr67:=congrArg (fun s:St=>s.sl 67) hS;have Rb1:=congrArg (fun s:St=>s.bx 1) hS;have Rb14:=congrArg (fun s:St=>s.bx 14) hS;have Rb22:=congrArg (fun s:St=>s.bx 22) hS;have Rb23:=congrArg (fun s:St=>s.bx 23) hS;have Rb24:=congrArg (fun s:St=>s.bx 24) hS;have Rb25:=congrArg (fun s:St=>s.bx 25) hS;clear hS;simp only[go_sem,pc_susB,Int.reduceBEq,pc_susB,Int.reduceBEq,g0,g6,g1,zs,not_true_eq_false,false_imp_iff]at Rr7 Rr61 Rr62 Rr66 Rr67 Rb1 Rb14 Rb22 Rb23 Rb24 Rb25;(try clear hc);intro K hc;simp only[go_sem,pc_susB,Int.reduceBEq,pc_susB,Int.reduceBEq,g0,g6,g1,zs,not_true_eq_false,false_imp_iff,Rr7,Rr61,Rr62,Rr66,Rr67,Rb1,Rb14,Rb22,Rb23,Rb24,Rb25,hB,V7,q0H,V4,q0E]at hc ⊢;simp only[go_sem,pc_susB,Int.reduceBEq,pc_susB,Int.reduceBEq,g0,g6,g1,zs,not_true_eq_false,false_imp_iff,Rr7,Rr61,Rr62,Rr66,Rr67,Rb1,Rb14,Rb22,Rb23,Rb24,Rb25,hB,A7u,A7y,A6L,A6K,A7t,A6J,nf_put_sub,A7w,A7v,nf_put_susK,nf_put_dip,nf_put_put,A7x,A7s,A6M,j8,j6,j4,j5,j7,nf_sub_sub,n9,l8,n8,q0,m7,p9,m0]at hc ⊢;simp only[a0k]at hc ⊢;(first|(simp only[hc,q0Q,q0G];done)|((repeat' first|exact hc|apply V0);done)))));all_goals try exact om'
    all_goals first
     | (with_reducible exact True.intro)
     | (with_reducible assumption)
     | (with_reducible exact hb g0)
     | (with_reducible exact⟨h5,hBb⟩)
     | (rw[hQ (by with_reducible assumption)];dsimp only;simp only[q0H,q0Q])
     | (rw[hR (by with_reducible assumption)];dsimp only;simp only[q0H,q0Q])
     | trace_state
noncomputable def a6F:CT:=s6 (fun(x:c6) h=>b4S x h)
@[go_sem] def c4i:=fun x0 x1 x2=>nm' (fP' a6F rfl ⟨x0,x1,x2⟩)
end Go.Aw
namespace Go.Aw
open Go.Proofs
attribute [local irreducible] aft blk lpK retK retE AW A0p
set_option linter.all false
set_option maxRecDepth 100000
attribute [local irreducible] RM
set_option maxHeartbeats 4000000
def a3n(code:List Int):c7:=(a1r (newC code)).1.1
def a5F(code:List Int):d7:=⟨(a1r (newC code)).1.2⟩
def a8U(code:List Int)(hpre:code.length<=1048576):spZ 22 [(false,[.sl false [.i .u8 0] (code.map cU8)])] [] (.tup [(true,[.i .i64 (((a3n code,a5F code).1).Kind),.s ((((a3n code,a5F code).1).Head).Name),o9 ((((a3n code,a5F code).1).Head).Args),a0I (((a3n code,a5F code).1).Body)]),(true,[v9 (((a3n code,a5F code).2).Rels)])]):=by
 refine sx' false true none Tryz.func22 (q' 2 [aw [.i .i64,.s,.sl j3,.sl a1o],aw [.sl a0o]] (q' 7 [am 0,ac 31 [7],aV 4] (q' 10 [am 4,ac 68 [10],aV 9,aZ 9 0,aZ 9 1,ax (w' 5 [.i .i64,.s,.sl j3,.sl a1o]),ax (w' 6 [.sl a0o]),aS 4 5 12,aS 1 6 13] (.seq (.rego [(true,0, e' 14 4 5),(true,1,e' 15 1 6),(false,2,s' 4 2 14),(false,3,s' 1 3 15)] [10,11,12,13]) .ret)))) [.c 2 true 4,.c 3 true 1] [(31,[],a7s),(68,[0],a6F)] ?_;intro hb hE;have h0:=newC_ok hpre;simp only[go_sem];repeat' first|apply cj'|intro hc|exact om'|fail
 ·exact h0
 ·simp only[a3n,a5F,q0Q]
noncomputable def a3D:CT:=s6 (fun(x:(List Int)) h=>a8U x h)
@[go_sem] def b9M:=fun x0=>nm' (fP' a3D rfl x0)
end Go.Aw
namespace Go.Aw
open Go.Proofs
attribute [local irreducible] aft blk lpK retK AW A0p
attribute [local irreducible] RM
set_option linter.all false
set_option maxRecDepth 100000
set_option maxHeartbeats 4000000
def body_8{r:c7}{s:d7}{e:c9}(he:e∈(a0x r s).1):r.Body.length<=8:=by
 unfold a0x at he;cases h:l4 r&&(!decide (0<((a0z r).length:Int))&&u3 s)with
 | false=>rw[h]at he;cases he
 | true=>
   rw[W6]at h;exact(a4H h.1).2
def a5I(code:List Int):spZ 7 [(false,[.sl false [.i .u8 0] (code.map cU8)])] [] (.one (false,[.b true])):=by
 refine sy' Tryz.func7 (q' 2 [aU false] (.seq (q' 17 [am 0,aN,aC .gtr 18 1048576] (ci 19 (q' 2 [aU true] .ret))) (q' 21 [am 0,ac 22 [21],aV 20,aZ 20 0,aZ 20 1,ax (w' 3 [.i .i64,.s, .sl j3,.sl a1o]),ax (w' 4 [.sl a0o]),aS 4 3 23,aS 1 4 24] (q' 26 [ae 4 3,ae 1 4,ac 23 [26,27],aV 25,aZ 25 0,aZ 25 1,av 5 29,aV 6] (q' 32 [ae 4 3,ae 1 4,ac 24 [32,33],aV 31,aZ 31 0,aZ 31 1,av 7 35,aV 8] (.seq (q' 37 [aM [6,8],ao (.binb .neq (.t 37) (.t 38)),am 39,aH 40 false [bm 5,bN,bm 7,bN,bD .neq 42 44],aQ 40 45] (ci 46 (q' 2 [aU false] .ret))) (.seq (q' 47 [am 5,aN,aK 0] (fO 0 50 [ar 49 48] 50 1 (q' 51 [ai 1 47 49,aE 1,ax (w' 10 [.sl j3]),aS 1 10 52] (q' 53 [aG 3 3,aN,aK 0] (fO 2 57 [ar 56 55] 57 3 (q' 58 [ai 10 54 56,aE 10,ax (w' 12 [.i .i64, .s,.sl j3,.i .i64,.s,.i .i64,.s,.s,.i .i64,.s]),aS 10 12 59] (.seq (q' 60 [aG 0 12,aC .eql 61 3] (ci 62 (.exit 3))) (q' 64 [ae 1 10,af 1 12,aG 1 65,ac 25 [64,67],aV 63,aZ 63 0,aZ 63 1,ax (w' 13 [.sl l5]),aS 1 13 69,aV 14] (q' 72 [ae 1 4,af 1 12,aG 0 73,ac 26 [72,75],aV 71,aZ 71 0,aZ 71 1,ax (w' 15 [.i .i64,.sl u2]),aS 2 15 77,aV 16] (.seq (G' 79 [am 14,aO 79,am 80,aH 81 false [be 2 15,be 1 13,bc 27 [82,83],bf 0 12,bL,bC .eql 86 1,bo (.binb .neq (.t 84) (.t 87))],aQ 81 88]) (ci 89 (q' 2 [aU false] .ret))))))) (g' 90 [aA 56])))) (g' 91 [aA 49]))) (q' 2 [aU true] .ret)))))))) [.t 2] [(22,[],a3D),(23,[],a5o),(24,[],a7q),(25,[],a7j),(26,[],a3C),(27,[],a7k)] ?_;intro hb hE;have hbl:=(c5y (a3n code) (a5F code)).1;simp only[go_sem];repeat' first|apply cj'|intro hc|exact om'|fail
 ·simp at hc
 have hlit:=fun{e} he {l} hl hk=>b9H (r:=a3n code) (s:=a5F code) (e:=e) he (l:=l) hl hk
 have hrel:=fun{e} he {l} hl hk=>c0X (r:=a3n code) (s:=a5F code) (e:=e) he (l:=l) hl hk
 refine lq' false [3,4,47,48] [6,8] [] (fun i:{i:Nat // i<=(a0x (a3n code) (a5F code)).1.length}=>[(49,slV (.i .i64 i.1))]) nl' nl' (fun i=>(a0x (a3n code) (a5F code)).1.length-i.1) (⟨0,by omega⟩) ?_;intro S0 hS0 i;obtain⟨n,hn⟩:=i;simp only[go_sem,hS0];repeat' first|apply cj'|intro hc|exact om'|fail
 ·have hE:=a0a (l:=(a0x (a3n code) (a5F code)).1) default (i:=n) (by omega);have h8:=body_8 hE;refine lq' false [3,4,10,47,48,49,54,55] [6,8,20] [] (fun i:{i:Nat // i<=(a3n code).Body.length}=>[(56,slV (.i .i64 i.1))]) nl' nl' (fun i=>(a3n code).Body.length-i.1) (⟨0,by omega⟩) ?_;intro S1 hS1 i;obtain⟨m,hm⟩:=i;simp only[go_sem,hS0,hS1];repeat' first|apply cj'|intro hc|exact om'|fail
  ·exact nx1 ⟨m+1,by omega⟩
  ·rename_i hk;have hL:=a0a (l:=(a3n code).Body) default (i:=m) (by omega);rcases hc with hc|hc
   ·rw[(hlit hE hL hk).2.1]at hc;cases hc
   ·rw[hrel hE hL hk]at hc;simp at hc
  ·exact nx1 ⟨m+1,by omega⟩
  ·exact nx1 ⟨n+1,by omega⟩
noncomputable def b1J:CT:=o8 (fun(x:(List Int))=>a5I x)
@[go_sem] def c2r:=fun x0=>nm' (fQ' b1J rfl x0)
end Go.Aw
