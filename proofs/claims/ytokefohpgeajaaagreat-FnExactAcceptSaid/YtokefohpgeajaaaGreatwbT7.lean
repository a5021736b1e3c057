/- The reader of programs: rules. No condition. -/
import Derived.Test.YtokefohpgeajaaaGreatwbT75
import Derived.Test.YtokefohpgeajaaaGreatwbShelf
import Derived.Test.YtokefohpgeajaaaGreatqBx5wb
import Derived.Test.YtokefohpgeajaaaGreatqMx1wb
namespace Go.Aw
open Go.Proofs
attribute [local irreducible] aft blk lpK retK AW A0d
attribute [local irreducible] RM
set_option linter.all false
set_option maxRecDepth 100000
set_option maxHeartbeats 4000000
def c2B {r:c4} (h:isS r r.i [43]=true):u4 r=i5 r/\a1p r=2:=by
 rw [u4,a1p,show isS r r.i a3V=true from h];exact ⟨rfl,rfl⟩
def c2C {r:c4} (h:isS r r.i [43]=false) (g:isS r r.i [45]=true):u4 r=i5 r/\a1p r=3:=by
 rw [u4,a1p,show isS r r.i a3V=false from h,show isS r r.i a2D=true from g];exact ⟨rfl,rfl⟩
def c2D {r:c4} (h:isS r r.i [43]=false) (g:isS r r.i [45]=false):u4 r=r/\a1p r=1:=by
 rw [u4,a1p,show isS r r.i a3V=false from h,show isS r r.i a2D=false from g];exact ⟨rfl,rfl⟩
def rule_e {r:c4} {h:c4×d5} (e:j8 (u4 r)=h) (g:isS h.1 h.1.i [58,45]=true):u3 r=(i6 (a5M (i5 h.1) []).1 [46],⟨a1p r,h.2,(a5M (i5 h.1) []).2⟩):=by
 rw [a1E,e,a3A,show isS h.1 h.1.i b7l=true from g];rfl
def rule_f {r:c4} {h:c4×d5} (e:j8 (u4 r)=h) (g:isS h.1 h.1.i [58,45]=false):u3 r=(i6 h.1 [46],⟨a1p r,h.2,[]⟩):=by
 rw [a1E,e,a3A,show isS h.1 h.1.i b7l=false from g];rfl
def c1e {q:c4} {n:Int} (h:(n==8&&a9y q)=true):t9 q n=f9 q 7:=by rw [t9,h];rfl
def c1d {q:c4} {n:Int} (h:(n==8&&a9y q)=false):t9 q n=q:=by rw [t9,h];rfl
def b4g (r:c4) (hpre:j2 r):spZ 98 [(false,[.mp [i9 r.toks,.i .i64 r.i,.i .i64 r.e,.i .i64 r.code,.i .i64 r.p]])] [(0,(false,[.mp [i9 (((u3 r).1).toks),.i .i64 (((u3 r).1).i),.i .i64 (((u3 r).1).e),.i .i64 (((u3 r).1).code),.i .i64 (((u3 r).1).p)]]))] (.one (true,[.i .i64 (((u3 r).2).Kind),.s ((((u3 r).2).Head).Name),k6 ((((u3 r).2).Head).Args),a0k (((u3 r).2).Body)])):=by
 refine sx' false true (some 0) Tryz.func98 (q' 2 [aw [.i .i64,.s,.sl j3,.sl a2q]] (q' 3 [ax (o' 4 (.bld [.i .i64,.s,.sl j3,.sl a2q] [(0,1,.k (.v false [.c (.i .i64 1)]))])),aw [.i .i64,.s,.sl j3,.sl a2q],aS 4 3 4] (.seq (q' 5 [aM [0,0],ao (.nck (.t 6)),aG 1 7,ao (.call 97 [.t 5,.t 9,.k (.v false [.c (.s [43])])])] (.cond (.t 10) (q' 11 [af 0 3,ax (⟨none,.st 1 (.t 11) (k' 2),none⟩)] (g' 12 [am 0,ao (.nck (.t 12)),aG 1 13,ao (.bin .add (.t 15) (k' 1)),ao (.nck (.t 12)),aF 1,aS 1 18 16])) (q' 19 [aM [0,0],ao (.nck (.t 20)),aG 1 21,ao (.call 97 [.t 19,.t 23,.k (.v false [.c (.s [45])])])] (.cond (.t 24) (q' 25 [af 0 3,ax (⟨none,.st 1 (.t 25) (k' 3),none⟩)] (g' 26 [am 0,ao (.nck (.t 26)),aG 1 27,ao (.bin .add (.t 29) (k' 1)),ao (.nck (.t 26)),aF 1,aS 1 32 30])) .skip)))) (q' 33 [am 0,ac 186 [33],af 1 3,aS 2 35 34] (.seq (q' 36 [aM [0,0],ao (.nck (.t 37)),aG 1 38,ao (.call 97 [.t 36,.t 40,.k (.v false [.c (.s [58,45])])])] (.cond (.t 41) (q' 42 [am 0,ao (.nck (.t 42)),aG 1 43,ao (.bin .add (.t 45) (k' 1)),ao (.nck (.t 42)),aF 1,aS 1 48 46] (.block 0 (.loop (.seq (q' 49 [am 0,ao (.nck (.t 49)),aG 3 50,ao (.bin .eql (.t 52) (k' 0))] (.cond (.t 53) .skip (.exit 0))) (.block 1 (.seq (q' 54 [aG 3 3,aN,ao (.bin .eql (.t 56) (k' 8)),am 57,au (.mov (.t 0)) 58 true,au (.call 187 [.t 59]) 58 true,ao (.pick (.t 58) (.t 60) (bb false))] (.cond (.t 61) (g' 62 [am 0,ao (.call 94 [.t 62,.k (.v false [.c (.i .i64 7)])])]) .skip)) (.seq (rm' [(true,2,m' 66 0),(false,0,f' 64 3 3), (false,1,l' 65 64),(false,3,c' 67 188 [66]),(false,4,o' 68 (.bsl 10 1 [.i .i64,.s,.sl j3,.i .i64,.s,.i .i64,.s,.s,.i .i64,.s] [(0,.t 67)])),(false,5,o' 69 (.app 10 136 [.i .i64,.s,.sl j3,.i .i64,.s,.i .i64,.s,.s,.i .i64,.s] (.t 65) (.t 68))),(false,6,f' 70 3 3),(false,7,s' 1 70 69)] [[0,1,3,2,4,5,6,7],[0,1,3,4,2,5,6,7],[0,3,1,2,4,5,6,7],[0,3,1,4,2,5,6,7], [0,3,4,1,2,5,6,7]] []) (.seq (q' 71 [aM [0,0],ao (.nck (.t 72)),aG 1 73,ao (.call 97 [.t 71,.t 75,.k (.v false [.c (.s [44])])]),ao (.not (.t 76))] (.cond (.t 77) (.exit 0) .skip)) (g' 78 [am 0,ao (.nck (.t 78)),aG 1 79,ao (.bin .add (.t 81) (k' 1)),ao (.nck (.t 78)),aF 1,aS 1 84 82]))))))))) .skip)) (q' 85 [am 0,ao (.call 185 [.t 85,.k (.v false [.c (.s [46])])])] (q' 87 [ae 4 3,aS 4 2 87] .ret))))))) [.c 2 true 4] [(97,[],a0w),(186,[0],a3a),(187,[],a2w),(94,[0],u2),(188,[0],a7A),(185,[0],a1w)] ?_;intro hb hE;have hw1:=a2p hpre;obtain ⟨h,hg⟩:∃ h,j8 (u4 r)=h:=⟨_,rfl⟩
 have hk:j2 h.1:=by rw [<- hg];exact ((a2G r).trans (a4a _)).ok hpre
 have hks:j2 (u4 r):=(a2G r).ok hpre;have hw2:=a2p hk;obtain ⟨p,c1⟩:∃ p,isS r r.i [43]=p:=⟨_,rfl⟩
 obtain ⟨m,c2⟩:∃ p,isS r r.i [45]=p:=⟨_,rfl⟩
 have h3:(p=true/\(∀ X,AC.c (C.i .i64 2)::AC.c (C.s h.2.Name)::X=AC.c (C.i .i64 (a1p r))::AC.c (C.s h.2.Name)::X)/\j8 ⟨r.toks,r.i+1,r.e,r.code,r.p⟩=h/\j2 ⟨r.toks,r.i+1,r.e,r.code,r.p⟩)\/((p=false/\m=true)/\(∀ X,AC.c (C.i .i64 3)::AC.c (C.s h.2.Name)::X=AC.c (C.i .i64 (a1p r))::AC.c (C.s h.2.Name)::X)/\j8 ⟨r.toks,r.i+1,r.e,r.code,r.p⟩=h/\j2 ⟨r.toks,r.i+1,r.e,r.code,r.p⟩)\/((p=false/\m=false)/\(∀ X,AC.c (C.i .i64 1)::AC.c (C.s h.2.Name)::X=AC.c (C.i .i64 (a1p r))::AC.c (C.s h.2.Name)::X)/\j8 r=h/\j2 r):=by
  cases p with
  | true=>have e:=c2B c1;rw [e.1] at hg hks;exact .inl ⟨rfl,by rw [e.2];intro X;rfl,hg,hks⟩
  | false=>
    cases m with
    | true=>have e:=c2C c1 c2;rw [e.1] at hg hks;exact .inr (.inl ⟨⟨rfl,rfl⟩,by rw [e.2];intro X;rfl,hg,hks⟩)
    | false=>have e:=c2D c1 c2;rw [e.1] at hg hks;exact .inr (.inr ⟨⟨rfl,rfl⟩,by rw [e.2];intro X;rfl,hg,hks⟩)
 rcases h3 with ⟨rfl,ek,e0,es⟩|⟨⟨rfl,rfl⟩,ek,e0,es⟩|⟨⟨rfl,rfl⟩,ek,e0,es⟩
 all_goals (
  simp only [go_sem,hw1,hw2,pc_susB,c1,c2,ek,e0];(repeat' first|apply cj'|intro hc|apply a4Y);(all_goals (try (refine (show A3F _ _ _ _ _ _ from ?_);simp only [go_sem,hw1,hw2,pc_susB,c1,c2,ek,e0] at hc ⊢;simp only [go_sem,hw1,hw2,pc_susB,c1,c2,ek,e0,A7d,A7h,A6v,A6u,A7c,A6t,nf_put_sub,A7f,A7e,nf_put_susK,nf_put_dip,nf_put_put,A7g,A7b,A6w,a0e,a0c,a0a,a0b,a0d,nf_sub_sub] at hc ⊢;simp only [hc,q1U,q0O];done)));all_goals try exact om')
 all_goals (try (first|exact hpre|exact es|exact hk|exact ⟨hpre,hpre.1.1⟩|exact ⟨hk,hk.1.1⟩))
 all_goals (try (have hf:=rule_f hg hc;rw [hf];exact ⟨⟨⟨⟨rfl,rfl⟩,rfl⟩,rfl⟩,rfl⟩))
 all_goals (
  have hlt:=(u6 hc).2;have hb:=rule_e hg hc;refine lk' false [(true,6,3,200012)] [0,2,3] [4] [] (fun i:{q:c4×List c7 // j2 q.1/\q.1.toks=h.1.toks/\(q.2.length:Int)<=q.1.i/\a5M q.1 q.2=a5M (i5 h.1) []}=>[]) (fun i=>[(6,[.c (.i .i64 (a1p r)),.c (.s h.2.Name),.c (k6 h.2.Args),.ow 200012]),(1,[.c (i9 i.1.1.toks),.c (.i .i64 i.1.1.i),.c (.i .i64 i.1.1.e),.c (.i .i64 i.1.1.code),.c (.i .i64 i.1.1.p)])]) (fun i=>[(200012,a2q,i.1.2.map (c7.cells false false))]) (fun i=>h.1.toks.length - i.1.1.i.toNat) (⟨(i5 h.1,[]),s9 hk hlt,rfl,(s9 hk hlt).1.1,rfl⟩) ?_;intro S0 hS0 i;obtain ⟨⟨q,a⟩,hq,hqt,hal,hqe⟩:=i;simp only at hq hqt hal hqe;have hln:a.length<=6000:=by have:=hq.1.2;have:=hq.2;omega
  simp only [go_sem,hw1,hw2,pc_susB,c1,c2,ek,e0,hS0];(repeat' first|apply cj'|intro hc|apply a4Y);(all_goals (try ((first|refine a2K 1 rfl ?_);intro S hS B0 hB;simp only [go_sem,hw1,hw2,pc_susB,c1,c2,ek,e0,hS0,q0I,q2B] at hS hB;(repeat (first|replace hS:=And.right hS|replace hS:=CJ.r hS));have Rr0:=congrArg (fun s:St=>s.sl 0) hS;have Rr3:=congrArg (fun s:St=>s.sl 3) hS;have Rr66:=congrArg (fun s:St=>s.sl 66) hS;have Rb1:=congrArg (fun s:St=>s.bx 1) hS;have Rb6:=congrArg (fun s:St=>s.bx 6) hS;have Ro200012:=congrArg (fun s:St=>s.ow 200012) hS;clear hS;simp only [go_sem,hw1,hw2,pc_susB,c1,c2,ek,e0,hS0] at Rr0 Rr3 Rr66 Rb1 Rb6 Ro200012;(try clear hc);intro K hc;simp only [go_sem,hw1,hw2,pc_susB,c1,c2,ek,e0,hS0,Rr0,Rr3,Rr66,Rb1,Rb6,Ro200012,hB,q0F,q1R,q0L,q0V] at hc ⊢;simp only [go_sem,hw1,hw2,pc_susB,c1,c2,ek,e0,hS0,Rr0,Rr3,Rr66,Rb1,Rb6,Ro200012,hB,A7d,A7h,A6v,A6u,A7c,A6t,nf_put_sub,A7f,A7e,nf_put_susK,nf_put_dip,nf_put_put,A7g,A7b,A6w,a0e,a0c,a0a,a0b,a0d,nf_sub_sub] at hc ⊢;simp only [hc,q1U,q0O];done)));all_goals try exact om'
  ·exact hq
  ·exact hq
  ·exact a0g hq 7
  ·have hx:=(a0u _).ok (a0g hq 7);exact ⟨hx,hx.1.1⟩
  ·exact (a0u _).ok (a0g hq 7)
  ·rename_i hcd hcf;have hon:=a8U hq (a:=a) (by simpa using hcd);rw [c1e (by simpa using hcf),show isS (j4 (f9 q 7)).1 (j4 (f9 q 7)).1.i n7=false from hc,W4] at hon;rw [hb,<- hqe,hon];exact ⟨⟨⟨⟨rfl,rfl⟩,rfl⟩,rfl⟩,rfl⟩
  ·rename_i hcd hcf;have hon:=a8U hq (a:=a) (by simpa using hcd);have hlt2:=(u6 hc).2;rw [c1e (by simpa using hcf),show isS (j4 (f9 q 7)).1 (j4 (f9 q 7)).1.i n7=true from hc,W5] at hon;have hkk:=(a0u _).ok (a0g hq 7);have hst:=s9 hkk hlt2;have had:Adv q (j4 (f9 q 7)).1:=by have:=(a5I q a.length).trans (a0u _);rw [c1e (by simpa using hcf)] at this;exact this
   have hw3:=a2p hkk;have h00:=hq.1.1
   (refine lpK_n2 (⟨(i5 (j4 (f9 q 7)).1,a++[(j4 (f9 q 7)).2]),hst,had.t.trans hqt,by show ((a++[_]).length:Int)<=(j4 (f9 q 7)).1.i+1;rw [W7];have:=had.i;simp only [V3,q0T];omega,hon.symm.trans hqe⟩) _ (by simp only [go_sem,hw1,hw2,pc_susB,c1,c2,ek,e0];try rfl) ?_;simp only [go_sem,hw1,hw2,pc_susB,c1,c2,ek,e0,hS0]<;>repeat' first|apply V2|exact on'|fail)
   ·show h.1.toks.length - ((j4 (f9 q 7)).1.i+1).toNat < h.1.toks.length - q.i.toNat
    have h1:=had.i;rw [had.t,hqt] at hlt2;omega
   ·exact hw3
  ·exact hq
  ·have hx:=(a0u _).ok hq;exact ⟨hx,hx.1.1⟩
  ·exact (a0u _).ok hq
  ·rename_i hcd hcf;have hon:=a8U hq (a:=a) (by simpa using hcd);rw [c1d hcf,show isS (j4 q).1 (j4 q).1.i n7=false from hc,W4] at hon;rw [hb,<- hqe,hon];exact ⟨⟨⟨⟨rfl,rfl⟩,rfl⟩,rfl⟩,rfl⟩
  ·rename_i hcd hcf;have hon:=a8U hq (a:=a) (by simpa using hcd);have hlt2:=(u6 hc).2;rw [c1d hcf,show isS (j4 q).1 (j4 q).1.i n7=true from hc,W5] at hon;have hkk:=(a0u _).ok hq;have hst:=s9 hkk hlt2;have had:Adv q (j4 q).1:=by have:=(a5I q a.length).trans (a0u _);rw [c1d hcf] at this;exact this
   have hw3:=a2p hkk;have h00:=hq.1.1
   (refine lpK_n2 (⟨(i5 (j4 q).1,a++[(j4 q).2]),hst,had.t.trans hqt,by show ((a++[_]).length:Int)<=(j4 q).1.i+1;rw [W7];have:=had.i;simp only [V3,q0T];omega,hon.symm.trans hqe⟩) _ (by simp only [go_sem,hw1,hw2,pc_susB,c1,c2,ek,e0];try rfl) ?_;simp only [go_sem,hw1,hw2,pc_susB,c1,c2,ek,e0,hS0]<;>repeat' first|apply V2|exact on'|fail)
   ·show h.1.toks.length - ((j4 q).1.i+1).toNat < h.1.toks.length - q.i.toNat
    have h1:=had.i;rw [had.t,hqt] at hlt2;omega
   ·exact hw3
  ·exact hq
  ·rw [hb,<- hqe,c3o (by simpa using hc)];exact ⟨⟨⟨⟨rfl,rfl⟩,rfl⟩,rfl⟩,rfl⟩
  all_goals trace_state)
noncomputable def a6l:CT:=s3 (fun (x:c4) h=>b4g x h)
@[go_sem] def c1X:=fun x0 x1 x2 x3 x4=>nm' (fP' a6l rfl ⟨x0,x1,x2,x3,x4⟩)
def digN (n:Int):UInt8:=UInt8.ofNat (IntKind.u8.wrap (IntKind.i64.wrap (48+n))).toNat
def a8l (n:Int):Int:=IntKind.i64.wrap (n.tdiv 10)
def b0S:Nat->Int->List UInt8
 | 0,n=>[digN n]
 | k+1,n=>bif decide (n < 10) then [digN n] else b0S k (a8l n)++[digN (n.tmod 10)]
def a4E (n:Int):List UInt8:=b0S 15 n
def a6N {n:Int} (h:0<=n/\n<=281474976710655):a8l n=n / 10:=by rw [a8l,Int.tdiv_eq_ediv_of_nonneg h.1];exact IntWalk.i64_in _ ⟨by omega,by omega⟩
def b6a:∀ (k m:Nat) (n:Int),0<=n/\n<=281474976710655->n < 10 ^ (k+1)->k<=m->b0S k n=b0S m n
 | 0,0,n,_,_,_=>rfl
 | 0,m+1,n,_,h,_=>by rw [b0S,b0S,W9 (by omega)];rfl
 | k+1,0,n,_,_,h=>by omega
 | k+1,m+1,n,h,h1,h2=>by
   rw [b0S,b0S];by_cases hn:n < 10
   ·rw [W9 hn];rfl
   ·rw [V4 hn,W4,W4,b6a k m (a8l n) (by rw [a6N h];omega) (by
     rw [a6N h];have e:(10:Int) ^ (k+1+1)=10 ^ (k+1) * 10:=Int.pow_succ ..;rw [e] at h1;omega) (by omega)]
def c2v {n:Int} (h:n < 10):a4E n=[digN n]:=by rw [a4E,b0S,W9 h];rfl
def c2u {n:Int} (h:0<=n/\n<=281474976710655) (h2:¬ n < 10):a4E n=a4E (a8l n)++[digN (n.tmod 10)]:=by
 rw [a4E,b0S,V4 h2,W4,a4E,<- b6a 14 15 (a8l n) (by rw [a6N h];omega) (by rw [a6N h];omega) (by omega)]
def b4s {H:Int->Prop} (step:∀ n:Int,(0<=n/\n<=281474976710655)/\(10<=n->H (a8l n))->H n):∀ (k:Nat) (n:Int),n.toNat<=k->0<=n/\n<=281474976710655->H n
 | 0,n,hk,h=>step n ⟨h,fun g=>by omega⟩
 | k+1,n,hk,h=>step n ⟨h,fun g=>b4s step k (a8l n) (by rw [a6N h];omega) (by rw [a6N h];omega)⟩
def b9c:∀ (k:Nat) (n:Int),(b0S k n).length<=k+1
 | 0,n=>by rw [b0S];simp
 | k+1,n=>by
   rw [b0S];cases decide (n < 10) with
   | true=>simp
   | false=>rw [W4,W7];have:=b9c k (a8l n);simp only [V3,q0T];omega
def b9b (n:Int):(a4E n).length<=16:=b9c 15 n
def NumH (n:Int):Prop:=A0d Tryz.prog 60 [(false,[.i .i64 n])] [] (.one (false,[.s (a4E n)]))
def b0J (n:Int) (hpre:NumH n):spZ 60 [(false,[.i .i64 n])] [] (.one (false,[.s (a4E n)])):=by
 exact hpre
noncomputable def a4p:CT:=s3 (fun (x:Int) h=>b0J x h)
@[go_sem] def b9M:=fun n=>nm' (fP' a4p rfl n)
def a4y (n:Int) (hpre:(0<=n/\n<=281474976710655)/\(10<=n->NumH (a8l n))):spZ 60 [(false,[.i .i64 n])] [] (.one (false,[.s (a4E n)])):=by
 refine sy' Tryz.func60 (q' 2 [ao (.mov (.k (.v false [.c (.s [])])))] (.seq (q' 3 [am 0,ac 126 [3],ao (.not (.t 4))] (.cond (.t 5) (q' 2 [ao (.mov (.k (.v false [.c (.s [])])))] .ret) .skip)) (.seq (q' 6 [am 0,ao (.bin .lss (.t 6) (k' 10))] (.cond (.t 7) (q' 8 [am 0,ao (.bin .add (k' 48) (.t 8)),ao (.cv .u8 (.t 9)),ao (.bsl 1 1 [.i .u8] [(0,.t 10)]),ao (.bs2s (.t 11)),aV 2] .ret) .skip)) (.seq (rm' [(true,0,m' 13 0),(true,1,o' 14 (.bin .quo (.t 13) (k' 10))),(true,3,m' 16 0),(true, 4,o' 17 (.bin .rem (.t 16) (k' 10))),(true,5,o' 18 (.bin .add (k' 48) (.t 17))),(true,6,o' 19 (.cv .u8 (.t 18))),(false,2,c' 15 60 [14]),(false,7, o' 20 (.bsl 1 1 [.i .u8] [(0,.t 19)])),(false,8,o' 21 (.bs2s (.t 20))),(false,9,o' 22 (.bin .add (.t 15) (.t 21))),(false,10,m' 2 22)] [[0,1,2,3, 4,5,7,6,8,9,10],[0,1,2,3,4,5,7,8,6,9,10]] []) .ret)))) [.t 2] [(126,[],a2d),(60,[],a4p)] ?_;intro hb hE;obtain ⟨⟨h0,h1⟩,hr⟩:=hpre;have hy:s6 n=true:=by rw [s6,W9 h0,W9 h1];rfl
 simp only [go_sem];(repeat' first|apply cj'|intro hc|apply a4Y);(all_goals (try ((first|refine a2K 6 rfl ?_);intro S hS B0 hB;simp only [go_sem,q0I,q2B] at hS hB;(repeat (first|replace hS:=And.right hS|replace hS:=CJ.r hS));have Rr14:=congrArg (fun s:St=>s.sl 14) hS;have Rr19:=congrArg (fun s:St=>s.sl 19) hS;clear hS;simp only [go_sem] at Rr14 Rr19;(try clear hc);intro K hc;simp only [go_sem,Rr14,Rr19,hB,q0F,q1R,q0L,q0V] at hc ⊢;simp only [go_sem,Rr14,Rr19,hB,A7d,A7h,A6v,A6u,A7c,A6t,nf_put_sub,A7f,A7e,nf_put_susK,nf_put_dip,nf_put_put,A7g,A7b,A6w,a0e,a0c,a0a,a0b,a0d,nf_sub_sub] at hc ⊢;simp only [hc,q1U,q0O];done)));all_goals try exact om'
 ·rw [hy] at hc;cases hc
 ·rw [c2v hc];rfl
 ·exact hr (by omega)
 ·have:=b9b (a8l n);rw [a8l] at this;omega
 ·rw [c2u ⟨h0,h1⟩ hc];exact rfl
noncomputable def b0m:CT:=s3 (fun (x:Int) h=>a4y x h)
@[go_sem] def b9N:=fun n=>nm' (fP' b0m rfl n)
def b3Y (n:Int) (hpre:0<=n/\n<=281474976710655):spZ 60 [(false,[.i .i64 n])] [] (.one (false,[.s (a4E n)])):=by
 exact b4s (H:=NumH) (fun n h=>a4y n h) n.toNat n (q0A _) hpre
noncomputable def a6f:CT:=s3 (fun (x:Int) h=>b3Y x h)
@[go_sem] def c1P:=fun n=>nm' (fP' a6f rfl n)
def a5B (s:List UInt8):Int:=s.foldl (fun n b=>n * 10+((b.toNat:Int) - 48)) 0
def a7g (b:UInt8):Bool:=decide (48<=b.toNat)&&decide (b.toNat<=57)
def a1G (s:List UInt8):Bool:=(decide (1<=s.length)&&decide (s.length<=15))&&(s.all a7g&&(s6 (a5B s)&&a4E (a5B s)==s))
def a6C (s:List UInt8):Int:=bif a1G s then a5B s else 0
def b6h (s:List UInt8) (b:UInt8):a5B (s++[b])=a5B s * 10+((b.toNat:Int) - 48):=by simp [a5B]
def c2e:∀ (s:List UInt8) (a:Int),0<=a->s.all a7g=true->0<=s.foldl (fun n b=>n * 10+((b.toNat:Int) - 48)) a/\s.foldl (fun n b=>n * 10+((b.toNat:Int) - 48)) a < (a+1) * 10 ^ s.length
 | [],a,h,_=>by simp;omega
 | b::s,a,h,hs=>by
   simp only [q1G,W3,a7g,V5] at hs;have ih:=c2e s (a * 10+((b.toNat:Int) - 48)) (by omega) (by simpa using hs.2);refine ⟨ih.1,Int.lt_of_lt_of_le ih.2 ?_⟩;rw [V3,Int.pow_succ,Int.mul_comm (10 ^ s.length) 10,<- Int.mul_assoc];exact Int.mul_le_mul_of_nonneg_right (by omega) (Int.pow_nonneg (by decide))
def c2G (s:List UInt8) (h:s.all a7g=true):0<=a5B s/\a5B s < 10 ^ s.length:=by
 have:=c2e s 0 (by decide) h;rw [Int.zero_add,Int.one_mul] at this;exact this
def c5R (k:Nat) (h:k<=15):(10:Int) ^ k<=1000000000000000:=by
 have h2:(10:Nat) ^ k<=10 ^ 15:=Nat.pow_le_pow_right (by decide) h;have h3:((10 ^ k:Nat):Int)<=((10 ^ 15:Nat):Int):=Int.ofNat_le.2 h2;rw [Int.natCast_pow] at h3;exact h3
def b6f {s:List UInt8} {i:Nat} (h:i < s.length):s.take (i+1)=s.take i++[s.getD i 0]:=by
 rw [List.take_succ,List.getD,V0 h];rfl
def a6R {s:List UInt8} (h:a1G s=false):a6C s=0:=by rw [a6C,h];rfl
def a9J {s:List UInt8} (h:(s.length:Int) < 1\/15 < (s.length:Int)):a1G s=false:=by
 rw [a1G];rcases h with h|h
 ·rw [V4 (show ¬ 1<=s.length by omega)];rfl
 ·rw [V4 (show ¬ s.length<=15 by omega)];simp
def b9q {s:List UInt8} {i:Nat} (h:i < s.length) (h2:a7g (s.getD i 0)=false):a1G s=false:=by
 have:s.all a7g=false:=by
  rw [List.all_eq_false];exact ⟨s.getD i 0,by rw [List.getD,V0 h];exact q0R h,by rw [h2];decide⟩
 rw [a1G,this];simp
def a9I {s:List UInt8} (h:¬ (s.length:Int) < 1/\¬ 15 < (s.length:Int)) (h2:s.all a7g=true):a1G s=(s6 (a5B s)&&a4E (a5B s)==s):=by
 rw [a1G,h2,W9 (show 1<=s.length by omega),W9 (show s.length<=15 by omega)];rfl
def b3Z (s:List UInt8):spZ 182 [(false,[.s s])] [] (.tup [(false,[.i .i64 ((a6C s,a1G s).1)]),(false,[.b ((a6C s,a1G s).2)])]):=by
 refine sy' Tryz.func182 (q' 0 [az 2 0,ab 3 false] (.seq (q' 6 [am 0,ao (.lens (.t 6)),ao (.bin .lss (.t 7) (k' 1)),am 8,au (.mov (.t 0)) 9 false,au (.lens (.t 10)) 9 false,au (.bin .gtr (.t 11) (k' 15)) 9 false,ao (.pick (.t 9) (bb true) (.t 12))] (.cond (.t 13) (q' 0 [az 2 0,ab 3 false] .ret) .skip)) (q' 4 [aK 0] (.seq (q' 5 [aK 0] (.block 0 (.loop (.seq (q' 14 [aM [5,0],ao (.lens (.t 15)),ar 14 16] (.cond (.t 17) .skip (.exit 0))) (.seq (.block 1 (.seq (q' 20 [aM [0,5],ao (.ixs (.t 20) (.t 21)),ao (.bin .lss (.t 22) (bu 48)),am 23,au (.mov (.t 0)) 24 false,au (.mov (.t 5)) 24 false,au (.ixs (.t 25) (.t 26)) 24 false,au (.bin .gtr (.t 27) (bu 57)) 24 false,ao (.pick (.t 24) (bb true) (.t 28))] (.cond (.t 29) (q' 0 [az 2 0,ab 3 false] .ret) .skip)) (g' 30 [am 4,ao (.bin .mul (.t 30) (k' 10)),aM [0,5],ao (.ixs (.t 32) (.t 33)),ao (.bin .sub (.t 34) (bu 48)),ao (.cv .i64 (.t 35)),ao (.bin .add (.t 31) (.t 36)),aV 4]))) (g' 18 [aB 5])))))) (.seq (q' 38 [am 4,ac 126 [38],ao (.not (.t 39)),am 40,au (.mov (.t 4)) 41 false,au (.call 60 [.t 42]) 41 false,au (.mov (.t 0)) 41 false,au (.bin .neq (.t 43) (.t 44)) 41 false,ao (.pick (.t 41) (bb true) (.t 45))] (.cond (.t 46) (q' 0 [az 2 0,ab 3 false] .ret) .skip)) (q' 47 [am 4,aV 2,ab 3 true] .ret)))))) [.t 2,.t 3] [(126,[],a2d),(60,[],a6f)] ?_;intro hb hE;simp only [go_sem];repeat' first|apply cj'|intro hc|exact om'|fail
 ·rw [a6R (a9J hc),a9J hc];exact ⟨rfl,rfl⟩
 have hlen:=hc;refine lq' false [0] [] [] (fun i:{i:Nat // i<=s.length/\(s.take i).all a7g=true}=>[(4,slV (.i .i64 (a5B (s.take i.1)))),(5,slV (.i .i64 i.1))]) nl' nl' (fun i=>s.length - i.1) (⟨0,by omega,rfl⟩) ?_;intro S0 hS0 i;obtain ⟨i,hi,hd⟩:=i;have hv:=c2G (s.take i) hd;have hp:=c5R (s.take i).length (by rw [q0H];omega);simp only [go_sem,hS0];repeat' first|apply cj'|intro hc|exact om'|fail
 ·rename_i hlt;have hb:=b9q (s:=s) (i:=i) (by omega) (by
   rw [a7g];rcases hc with hc|hc
   ·rw [V4 (by omega)];rfl
   ·rw [V4 (show ¬ (s.getD i 0).toNat<=57 by omega)];simp)
  rw [a6R hb,hb];exact ⟨rfl,rfl⟩
 ·rename_i hlt;have hil:i < s.length:=by omega
  have ht:=b6f hil;have hdb:a7g (s.getD i 0)=true:=by rw [a7g,W9 (by omega),W9 (by omega)];rfl
  have hb8:(s.getD i 0).toNat < 256:=UInt8.toNat_lt _
  (refine lpK_n2 (⟨i+1,by omega,by rw [ht,List.all_append,hd,q1G,hdb];rfl⟩) _ rfl ?_;simp only [go_sem,hS0]<;>repeat' first|apply V2|exact on'|fail)
  rw [ht,b6h,IntWalk.u8_in _ ⟨by omega,by omega⟩,IntWalk.i64_in (a5B (List.take i s) * 10) ⟨by omega,by omega⟩,IntWalk.i64_in ((s.getD i 0).toNat - 48:Int) ⟨by omega,by omega⟩,IntWalk.i64_in _ ⟨by omega,by omega⟩]
 ·simp only [s6,W3,V5] at hc;exact hc
 ·rename_i hge;have ee:s.take i=s:=q0E (by omega);rw [ee] at hc hd;have hy:a1G s=false:=by
   rw [a9I hlen hd];rcases hc with hc|hc
   ·rw [hc];rfl
   ·rw [hc,q2P]
  rw [a6R hy,hy];exact ⟨rfl,rfl⟩
 ·rename_i hge;have ee:s.take i=s:=q0E (by omega);rw [ee] at hc hd ⊢;have hy:a1G s=true:=by rw [a9I hlen hd,hc.1,hc.2];rfl
  rw [a6C,hy];exact ⟨rfl,rfl⟩
noncomputable def a6g:CT:=j6 (fun (x:(List UInt8))=>b3Z x)
@[go_sem] def c1Q:=fun s=>nm' (fQ' a6g rfl s)
def a0z:List (List UInt8):=[[40],[41],[44],[46],[61],[60],[43],[45],[47]]
def a8n (k:Nat):([[C.s [40]],[C.s [41]],[C.s [44]],[C.s [46]],[C.s [61]],[C.s [60]],[C.s [43]],[C.s [45]],[C.s [47]]]:List (List C)).getD k [C.s []]=[C.s (a0z.getD k [])]:=b0f a0z k
def a8m:∀ k,k < 9->a0z.getD k []=[(a0z.getD k []).getD 0 0]:=by decide
def twoB (t:List UInt8):Bool:=t==[58,45] || (t==[33,61] || t==[60,61])
def a3B (s:List UInt8) (i:Nat):Bool:=decide (i+1 < s.length)&&twoB (cut s i (i+2))
def t6 (s:List UInt8) (i:Nat):List UInt8:=
 bif a3B s i then cut s i (i+2)
 else bif a0z.any (fun t=>t==[s.getD i 0]) then [s.getD i 0] else []
def c6c (a b:UInt8):((a.toNat:Int)==(b.toNat:Int))=(a==b):=by
 by_cases h:a=b
 ·subst h;rw [beq_self_eq_true,beq_self_eq_true]
 ·have h2:¬ (a.toNat:Int)=b.toNat:=fun e=>h (UInt8.toNat_inj.1 (Int.ofNat.inj e))
  rw [beq_eq_false_iff_ne.2 h,beq_eq_false_iff_ne.2 h2]
def c5X {s:List UInt8} {i j:Nat} (ha:a3B s i=false) (hj:j < 9) (h:((a0z.getD j []).getD 0 0==s.getD i 0)=true):a0z.getD j []=t6 s i:=by
 have e:a0z.getD j []=[s.getD i 0]:=by rw [a8m j hj,beq_iff_eq.1 h]
 have hm:a0z.any (fun t=>t==[s.getD i 0])=true:=by
  rw [q3A];refine ⟨a0z.getD j [], ?_,by rw [e];exact beq_self_eq_true _⟩;rw [List.getD,V0 (show j < a0z.length from hj)];exact q0R _
 rw [t6,ha,hm,e];rfl
def c4m {s:List UInt8} {i:Nat} (ha:a3B s i=false) (h:∀ j,j < 9->((a0z.getD j []).getD 0 0==s.getD i 0)=false):t6 s i=[]:=by
 have hm:a0z.any (fun t=>t==[s.getD i 0])=false:=by
  rw [q2L];intro t ht;obtain ⟨j,hj,e⟩:=List.mem_iff_getElem.1 ht;have h9:j < 9:=hj;have h1:=a8m j h9;have h2:=h j h9;have e2:a0z.getD j []=t:=by rw [List.getD,V0 hj,e];rfl
  intro h3;rw [e2,beq_iff_eq.1 h3] at h2;simp at h2
 rw [t6,ha,hm];rfl
def b4b (s:List UInt8) (i:Int) (hpre:0<=i/\i < s.length/\s.length<=1000000):spZ 181 [(false,[.s s]),(false,[.i .i64 i])] [] (.one (false,[.s (t6 s i.toNat)])):=by
 refine sy' Tryz.func181 (q' 4 [ao (.mov (.k (.v false [.c (.s [])])))] (.seq (q' 11 [av 9 1,ax (a' 10 9),am 0,ao (.lens (.t 11)),ar 10 12] (.cond (.t 13) (q' 14 [aM [0,1,1],ao (.bin .add (.t 16) (k' 2)),ao (.slcs (.t 14) (some (.t 15)) (some (.t 17))),aV 5] (q' 19 [am 5,ao (.bin .eql (.t 19) (.k (.v false [.c (.s [58,45])]))),am 20,au (.mov (.t 5)) 21 false,au (.bin .eql (.t 22) (.k (.v false [.c (.s [33,61])]))) 21 false,ao (.pick (.t 21) (bb true) (.t 23)),am 24,au (.mov (.t 5)) 25 false,au (.bin .eql (.t 26) (.k (.v false [.c (.s [60,61])]))) 25 false,ao (.pick (.t 25) (bb true) (.t 27))] (.cond (.t 28) (q' 29 [am 5,aV 4] .ret) .skip))) .skip)) (q' 30 [aM [0,1],ao (.ixs (.t 30) (.t 31)),aV 6] (.seq (q' 33 [ao (.bsl 1 9 [.s] [(0,.k (.v false [.c (.s [40])])),(1,.k (.v false [.c (.s [41])])),(2,.k (.v false [.c (.s [44])])),(3,.k (.v false [.c (.s [46])])),(4,.k (.v false [.c (.s [61])])),(5,.k (.v false [.c (.s [60])])),(6,.k (.v false [.c (.s [43])])),(7,.k (.v false [.c (.s [45])])),(8,.k (.v false [.c (.s [47])]))]),aN,aK 0] (.block 0 (.loop (q' 36 [ar 35 34] (.seq (.cond (.t 36) .skip (.exit 0)) (.seq (.block 1 (q' 37 [ai 1 33 35,aL,aV 8] (q' 39 [am 8,ao (.ixs (.t 39) (k' 0)),am 6,ao (.bin .eql (.t 40) (.t 41))] (.cond (.t 42) (q' 43 [am 8,aV 4] .ret) .skip)))) (g' 44 [aA 35]))))))) (q' 4 [ao (.mov (.k (.v false [.c (.s [])])))] .ret))))) [.t 4] [] ?_;intro hb hE;obtain ⟨h0,h1,h2⟩:=hpre;have w1:IntKind.i64.wrap (i+1)=i+1:=IntWalk.i64_in _ ⟨by omega,by omega⟩;have w2:IntKind.i64.wrap (i+2)=i+2:=IntWalk.i64_in _ ⟨by omega,by omega⟩;have w3:(i+2).toNat=i.toNat+2:=by omega
 simp only [go_sem,w1,w2,w3,a8n];repeat' first|apply cj'|intro hc|exact om'|fail
 ·rename_i hl;rw [t6,show a3B s i.toNat=true by
   rw [a3B,twoB,W9 (by omega)];rcases hc with (hc|hc)|hc
   ·rw [hc];rfl
   ·rw [hc,q4S,q3J];rfl
   ·rw [hc,q3J,q3J];rfl];rfl
 all_goals (
  have ha:a3B s i.toNat=false:=by
   first
    | (rw [a3B,V4 (by omega)];rfl)
    | (rw [a3B,twoB,hc.1.1,hc.1.2,hc.2,q4T,q4T,q2P])
  refine b3g 4224 ?_;refine lq' false [6,33,34] [] [] (fun i:{j:Nat // j<=9/\∀ k,k < j->((a0z.getD k []).getD 0 0==s.getD i.toNat 0)=false}=>[(35,slV (.i .i64 i.1))]) nl' nl' (fun i=>9 - i.1) (⟨0,by omega,by omega⟩) ?_;intro S0 hS0 i;obtain ⟨j,hj,hn⟩:=i;simp only [go_sem,w1,w2,w3,a8n,hS0];repeat' first|apply cj'|intro hc|exact om'|fail
  ·rw [a8m j (by omega)];exact ⟨by decide,by simp⟩
  ·rename_i hlt;rw [c6c] at hc;exact c5X ha (by omega) hc
  ·rw [c6c] at hc;have hn2:∀ k,k < j+1->((a0z.getD k []).getD 0 0==s.getD i.toNat 0)=false:=by
    intro k hk;rcases q4B.1 hk with h|rfl
    ·exact hn k h
    ·exact hc
   (refine lpK_n2 (⟨j+1,by omega,hn2⟩) _ rfl ?_;simp only [go_sem,w1,w2,w3,a8n,hS0]<;>repeat' first|apply V2|exact on'|fail)
  ·rw [c4m ha fun k hk=>hn k (by omega)]
  all_goals trace_state)
noncomputable def a6i:CT:=s3 (fun (x:(List UInt8)×Int) h=>b4b x.1 x.2 h)
@[go_sem] def c1S:=fun s i=>nm' (fP' a6i rfl (s,i))
def y5 (b:UInt8):Bool:=(b.toNat:Int)==9 || (b.toNat:Int)==10 || (b.toNat:Int)==13 || (b.toNat:Int)==32
def o7 (f:UInt8->Bool) (s:List UInt8) (i:Nat):Nat:=i+((s.drop i).takeWhile f).length
def a3i {f:UInt8->Bool} {s:List UInt8} {i:Nat} (h:i < s.length->f (s.getD i 0)=false):o7 f s i=i:=by
 rw [o7];by_cases hi:i < s.length
 ·rw [q1L hi,q2K];have:=h hi;rw [List.getD,V0 hi] at this;simp only [q4L] at this;rw [this];rfl
 ·rw [List.drop_of_length_le (by omega)];rfl
def a0U {f:UInt8->Bool} {s:List UInt8} {i:Nat} (hi:i < s.length) (h:f (s.getD i 0)=true):o7 f s i=o7 f s (i+1):=by
 rw [o7,o7,q1L hi,q2K];rw [List.getD,V0 hi] at h;simp only [q4L] at h;rw [h,if_pos rfl,V3];omega
def a0y {f:UInt8->Bool} {s:List UInt8} {i:Nat} (h:i<=s.length):i<=o7 f s i/\o7 f s i<=s.length:=by
 have h1:=(List.takeWhile_sublist f (l:=s.drop i)).length_le;rw [q2I] at h1;rw [o7];omega
def a0l (b:UInt8):Bool:=(b.toNat:Int) != 10
def p7 (b:UInt8):Bool:=decide (0 < a0K b.toNat)
def v7 (s:List UInt8) (i:Nat):Int×d6:=
 let w:=cut s i (o7 p7 s i)
 bif a0K (s.getD i 0).toNat==3 then (bif a1G w then (0,⟨3,a6C w,[],i⟩) else (3,default))
 else bif a0G w then (0,⟨1,0,w,i⟩) else bif a5r w then (0,⟨2,0,w,i⟩) else (4,default)
def a4C (s:List UInt8):Nat->Nat->List d6->List d6×Int×Int
 | 0,i,out=>(out,0,0)
 | n+1,i,out=>
   bif decide (i < s.length) then
    (bif y5 (s.getD i 0) then a4C s n (i+1) out
     else bif ((s.getD i 0).toNat:Int)==35 then a4C s n (o7 a0l s i) out
     else bif a0K (s.getD i 0).toNat==0 then
      (bif t6 s i==[] then ([],2,i) else a4C s n (i+(t6 s i).length) (out++[⟨4,0,t6 s i,i⟩]))
     else bif (v7 s i).1==0 then a4C s n (o7 p7 s i) (out++[(v7 s i).2]) else ([],(v7 s i).1,i))
   else (out,0,0)
def a6A {s:List UInt8} {i:Nat} (h:i < s.length):i+(t6 s i).length<=s.length:=by
 rw [t6];cases ha:a3B s i with
 | true=>
   simp only [a3B,W3,V5] at ha;rw [W5,cut,q0H];omega
 | false=>
   rw [W4];cases a0z.any (fun t=>t==[s.getD i 0]) with
   | true=>rw [W5,q0N];omega
   | false=>rw [W4,q0T];omega
def a1o (s:List UInt8):∀ (n m i:Nat) (out:List d6),s.length < n+i->s.length < m+i->a4C s n i out=a4C s m i out
 | 0,0,i,out,_,_=>rfl
 | 0,m+1,i,out,h,_=>by rw [a4C,a4C,V4 (by omega)];rfl
 | n+1,0,i,out,_,h=>by rw [a4C,a4C,V4 (by omega)];rfl
 | n+1,m+1,i,out,h1,h2=>by
   rw [a4C,a4C];by_cases hi:i < s.length
   ·rw [W9 hi,W5,W5];cases y5 (s.getD i 0) with
    | true=>exact a1o s n m _ _ (by omega) (by omega)
    | false=>
      rw [W4,W4];cases h35:((s.getD i 0).toNat:Int)==35 with
      | true=>
        have hr:o7 a0l s i=o7 a0l s (i+1):=a0U hi (by rw [a0l,beq_iff_eq.1 h35];decide);have:=a0y (f:=a0l) (s:=s) (i:=i+1) (by omega);exact a1o s n m _ _ (by omega) (by omega)
      | false=>
        rw [W4,W4];cases hc:a0K (s.getD i 0).toNat==0 with
        | true=>
          rw [W5,W5];cases hs:t6 s i==[] with
          | true=>rfl
          | false=>
            have:(t6 s i).length≠0:=fun e=>by rw [q1V e] at hs;exact absurd hs (by decide)
            exact a1o s n m _ _ (by omega) (by omega)
        | false=>
          rw [W4,W4];cases (v7 s i).1==0 with
          | false=>rfl
          | true=>
            have hr:o7 p7 s i=o7 p7 s (i+1):=a0U hi (by
             rw [p7,V5];have h0:a0K (s.getD i 0).toNat≠0:=by simpa using hc
             have:0<=a0K (s.getD i 0).toNat:=by unfold a0K;repeat' split<;>omega
             omega)
            have:=a0y (f:=p7) (s:=s) (i:=i+1) (by omega);exact a1o s n m _ _ (by omega) (by omega)
   ·rw [V4 hi];rfl
def a3m (s:List UInt8) (i:Nat) (out:List d6):List d6×Int×Int:=a4C s (s.length+1 - i) i out
def a0X (s:List UInt8):List d6×Int×Int:=bif decide (6000 < s.length) then ([],1,0) else a3m s 0 []
def a2f {s:List UInt8} {i:Nat} (out:List d6) (h:i < s.length):a3m s i out =
   (bif y5 (s.getD i 0) then a3m s (i+1) out
    else bif ((s.getD i 0).toNat:Int)==35 then a3m s (o7 a0l s i) out
    else bif a0K (s.getD i 0).toNat==0 then
     (bif t6 s i==[] then ([],2,(i:Int)) else a3m s (i+(t6 s i).length) (out++[⟨4,0,t6 s i,i⟩]))
    else bif (v7 s i).1==0 then a3m s (o7 p7 s i) (out++[(v7 s i).2]) else ([],(v7 s i).1,(i:Int))):=by
 have e:s.length+1 - i=(s.length - i)+1:=by omega
 rw [a3m,e,a4C,W9 h,W5];cases y5 (s.getD i 0) with
 | true=>exact a1o s _ _ _ _ (by omega) (by omega)
 | false=>
   rw [W4,W4];cases h35:((s.getD i 0).toNat:Int)==35 with
   | true=>
     have hr:o7 a0l s i=o7 a0l s (i+1):=a0U h (by rw [a0l,beq_iff_eq.1 h35];decide);have:=a0y (f:=a0l) (s:=s) (i:=i+1) (by omega);exact a1o s _ _ _ _ (by omega) (by omega)
   | false=>
     rw [W4,W4];cases hc:a0K (s.getD i 0).toNat==0 with
     | true=>
       rw [W5,W5];cases hs:t6 s i==[] with
       | true=>rfl
       | false=>
         have:(t6 s i).length≠0:=fun e=>by rw [q1V e] at hs;exact absurd hs (by decide)
         have:=a6A h;exact a1o s _ _ _ _ (by omega) (by omega)
     | false=>
       rw [W4,W4];cases (v7 s i).1==0 with
       | false=>rfl
       | true=>
         have hr:o7 p7 s i=o7 p7 s (i+1):=a0U h (by
          rw [p7,V5];have h0:a0K (s.getD i 0).toNat≠0:=by simpa using hc
          have:0<=a0K (s.getD i 0).toNat:=by unfold a0K;repeat' split<;>omega
          omega)
         have:=a0y (f:=p7) (s:=s) (i:=i+1) (by omega);exact a1o s _ _ _ _ (by omega) (by omega)
def b8T {s:List UInt8} {i:Nat} (out:List d6) (h:¬ i < s.length):a3m s i out=(out,0,0):=by
 rw [a3m];cases s.length+1 - i with
 | zero=>rfl
 | succ n=>rw [a4C,V4 h];rfl
def c1h (s:List UInt8):spZ 92 [(false,[.s s])] [] (.tup [(false,[i9 ((a0X s).1)]),(false,[.i .i64 ((a0X s).2.1)]),(false,[.i .i64 ((a0X s).2.2)])]):=by
 refine sx' false true none Tryz.func92 (q' 2 [ao (.mov (.k (.v false [.nl a0m]))),aK 0,aK 0] (.seq (q' 13 [am 0,ao (.lens (.t 13)),ao (.bin .gtr (.t 14) (k' 6000))] (.cond (.t 15) (q' 2 [ao (.mov (.k (.v false [.nl a0m]))),aK 1,aK 0] .ret) .skip)) (q' 16 [ao (.bsl 4 0 [.i .i64, .i .i64,.s,.i .i64] []),aV 5] (.seq (q' 6 [aK 0] (.block 0 (.loop (.seq (q' 17 [aM [6,0],ao (.lens (.t 18)),ar 17 19] (.cond (.t 20) .skip (.exit 0))) (.block 1 (q' 21 [aM [0,6],ao (.ixs (.t 21) (.t 22)),aV 7] (.seq (q' 24 [am 7,ao (.bin .eql (.t 24) (bu 9)),am 25,au (.mov (.t 7)) 26 false,au (.bin .eql (.t 27) (bu 10)) 26 false,ao (.pick (.t 26) (bb true) (.t 28)),am 29,au (.mov (.t 7)) 30 false,au (.bin .eql (.t 31) (bu 13)) 30 false,ao (.pick (.t 30) (bb true) (.t 32)),am 33,au (.mov (.t 7)) 34 false,au (.bin .eql (.t 35) (bu 32)) 34 false,ao (.pick (.t 34) (bb true) (.t 36))] (.cond (.t 37) (q' 38 [aB 6] (.exit 1)) .skip)) (.seq (q' 40 [am 7,ao (.bin .eql (.t 40) (bu 35))] (.cond (.t 41) (.seq (.block 2 (.loop (.seq (q' 42 [aM [6,0],ao (.lens (.t 43)),ar 42 44,am 45,au (.mov (.t 0)) 46 true,au (.mov (.t 6)) 46 true,au (.ixs (.t 47) (.t 48)) 46 true,au (.bin .neq (.t 49) (bu 10)) 46 true,ao (.pick (.t 46) (.t 50) (bb false))] (.cond (.t 51) .skip (.exit 2))) (.block 3 (g' 52 [aB 6]))))) (.exit 1)) .skip)) (.seq (q' 54 [am 7,ac 180 [54],ao (.bin .eql (.t 55) (k' 0))] (.cond (.t 56) (q' 57 [aM [0,6],ac 181 [57,58],aV 8] (.seq (q' 60 [am 8,ao (.bin .eql (.t 60) (.k (.v false [.c (.s [])])))] (.cond (.t 61) (q' 2 [av 62 6,ao (.mov (.k (.v false [.nl a0m]))),aK 2,am 62] .ret) .skip)) (q' 63 [aM [5,8,6],ao (.bld [.i .i64,.i .i64,.s,.i .i64] [(0,1,.k (.v false [.c (.i .i64 4)])),(2,1,.t 64),(3,1,.t 65)]),ao (.bsl 4 1 [.i .i64,.i .i64,.s,.i .i64] [(0,.t 66)]),ao (.app 4 40 [.i .i64,.i .i64,.s,.i .i64] (.t 63) (.t 67)),aV 5] (q' 69 [aM [6,8],ao (.lens (.t 70)),ao (.bin .add (.t 69) (.t 71)),aV 6] (.exit 1))))) .skip)) (q' 73 [am 6,aV 9] (.seq (.block 4 (.loop (.seq (q' 74 [aM [9,0],ao (.lens (.t 75)),ar 74 76,am 77,au (.mov (.t 0)) 78 true,au (.mov (.t 9)) 78 true,au (.ixs (.t 79) (.t 80)) 78 true,au (.call 180 [.t 81]) 78 true,au (.bin .gtr (.t 82) (k' 0)) 78 true,ao (.pick (.t 78) (.t 83) (bb false))] (.cond (.t 84) .skip (.exit 4))) (.block 5 (g' 85 [aB 9]))))) (q' 87 [aM [0,6,9],ao (.slcs (.t 87) (some (.t 88)) (some (.t 89))),aV 10] (.seq (q' 91 [am 7,ac 180 [91],ao (.bin .eql (.t 92) (k' 3))] (.cond (.t 93) (q' 95 [am 10,ac 182 [95],aV 94,ao (.ext (.t 94) 0),ao (.ext (.t 94) 1),av 11 97,aV 12] (.seq (q' 99 [am 12,ao (.not (.t 99))] (.cond (.t 100) (q' 2 [av 101 6,ao (.mov (.k (.v false [.nl a0m]))),aK 3,am 101] .ret) .skip)) (g' 102 [aM [5,11,6],ao (.bld [.i .i64,.i .i64,.s, .i .i64] [(0,1,.k (.v false [.c (.i .i64 3)])),(1,1,.t 103),(3,1,.t 104)]),ao (.bsl 4 1 [.i .i64,.i .i64,.s,.i .i64] [(0,.t 105)]),ao (.app 4 40 [.i .i64,.i .i64,.s,.i .i64] (.t 102) (.t 106)),aV 5]))) (q' 108 [am 10,ac 160 [108]] (.cond (.t 109) (g' 110 [aM [5,10,6],ao (.bld [.i .i64,.i .i64,.s, .i .i64] [(0,1,.k (.v false [.c (.i .i64 1)])),(2,1,.t 111),(3,1,.t 112)]),ao (.bsl 4 1 [.i .i64,.i .i64,.s,.i .i64] [(0,.t 113)]),ao (.app 4 40 [.i .i64,.i .i64,.s,.i .i64] (.t 110) (.t 114)),aV 5]) (q' 116 [am 10,ac 183 [116]] (.cond (.t 117) (g' 118 [aM [5,10,6],ao (.bld [.i .i64,.i .i64,.s,.i .i64] [(0,1,.k (.v false [.c (.i .i64 2)])),(2,1,.t 119),(3,1,.t 120)]),ao (.bsl 4 1 [.i .i64,.i .i64,.s,.i .i64] [(0,.t 121)]),ao (.app 4 40 [.i .i64,.i .i64,.s,.i .i64] (.t 118) (.t 122)),aV 5]) (q' 2 [av 124 6,ao (.mov (.k (.v false [.nl a0m]))),aK 4,am 124] .ret))))))) (g' 125 [am 9,aV 6])))))))))))))) (q' 2 [av 126 5,am 126,aK 0,aK 0] .ret))))) [.t 2,.t 3,.t 4] [(180,[],a2r),(181,[],a6i),(182,[],a6g),(160,[],a2c),(183,[],a4L)] ?_;intro hb hE;simp only [go_sem];repeat' first|apply cj'|intro hc|exact om'|fail
 ·rw [a0X,W9 (by omega)];exact ⟨⟨rfl,rfl⟩,rfl⟩
 have hm:¬ 6000 < s.length:=by omega
 have hlx:a0X s=a3m s 0 []:=by rw [a0X,V4 hm];rfl
 refine lk' false [(false,5,0,100010)] [0] [] [] (fun i:{q:Nat×List d6 // q.1<=s.length/\q.2.length<=q.1/\a3m s q.1 q.2=a3m s 0 []}=>[(5,.v false [.ow 100010]),(6,slV (.i .i64 i.1.1))]) nl' (fun i=>[(100010,a0m,i.1.2.map d6.cells)]) (fun i=>s.length - i.1.1) (⟨(0,[]),by omega,by simp,rfl⟩) ?_;intro S0 hS0 i;obtain ⟨⟨i,a⟩,hi,hal,hle⟩:=i;simp only at hi hal hle;simp only [go_sem,hS0];repeat' first|apply cj'|intro hc|exact om'|fail
 ·rename_i hlt;have hs:y5 (s.getD i 0)=true:=by
   rw [y5];rcases hc with ((hc|hc)|hc)|hc<;>rw [hc]<;>simp
  have hn:=a2f a (show i < s.length by omega);rw [hs,W5] at hn;have w:IntKind.i64.wrap (i+1)=((i+1:Nat):Int):=IntWalk.i64_in _ ⟨by omega,by omega⟩;exact nk0 ⟨(i+1,a),by show i+1<=s.length;omega,by show a.length<=i+1;omega,by rw [<- hn];exact hle⟩
 ·rename_i hlt hsp;have hs:y5 (s.getD i 0)=false:=by
   rw [y5,hsp.1.1.1,hsp.1.1.2,hsp.1.2,hsp.2];rfl
  have hn:=a2f a (show i < s.length by omega);rw [hs,W4,hc,W5] at hn;have hr0:o7 a0l s i=o7 a0l s (i+1):=a0U (by omega) (by rw [a0l,beq_iff_eq.1 hc];decide);have hr1:=a0y (f:=a0l) (s:=s) (i:=i+1) (by omega);refine lq' false [0,5] [] [] (fun i:{j:Nat // j<=s.length/\o7 a0l s j=o7 a0l s i}=>[(6,slV (.i .i64 i.1))]) nl' (fun i=>[(100010,a0m,a.map d6.cells)]) (fun i=>s.length - i.1) (⟨i,hi,rfl⟩) ?_;intro S1 hS1 i;obtain ⟨j,hj,hrj⟩:=i;simp only [go_sem,hS0,hS1];repeat' first|apply cj'|intro hc|exact om'|fail
  ·have hjx:o7 a0l s (j+1)=o7 a0l s i:=(a0U (by omega) hc.2).symm.trans hrj;exact nx1 ⟨j+1,by omega,hjx⟩
  ·have hjj:o7 a0l s j=j:=a3i fun h=>by
    rw [W9 (show (j:Int) < s.length by omega),q0D] at hc;exact hc
   have hj2:o7 a0l s i=j:=hrj.symm.trans hjj;rw [hj2] at hn;exact nk1 ⟨(j,a),hj,by show a.length<=j;omega,by rw [<- hn];exact hle⟩
 ·rename_i hlt hsp h35 h0;have hs:y5 (s.getD i 0)=false:=by
   rw [y5,hsp.1.1.1,hsp.1.1.2,hsp.1.2,hsp.2];rfl
  have hn:=a2f a (show i < s.length by omega);rw [hs,W4,h35,W4,h0,W5,hc,W5] at hn;rw [hlx,<- hle,hn];exact ⟨⟨rfl,rfl⟩,rfl⟩
 ·rename_i hlt hsp h35 h0;have hs:y5 (s.getD i 0)=false:=by
   rw [y5,hsp.1.1.1,hsp.1.1.2,hsp.1.2,hsp.2];rfl
  have hn:=a2f a (show i < s.length by omega);rw [hs,W4,h35,W4,h0,W5,hc,W4] at hn;have hl:=a6A (show i < s.length by omega);have hz:(t6 s i).length≠0:=fun e=>by rw [q1V e] at hc;exact absurd hc (by decide)
  have w:IntKind.i64.wrap (i+(t6 s i).length)=((i+(t6 s i).length:Nat):Int):=IntWalk.i64_in _ ⟨by omega,by omega⟩;exact nk0 (⟨(i+(t6 s i).length,a++[⟨4,0,t6 s i,i⟩]),hl,by show (a++[_]).length<=_;rw [W7,q0N];omega,by rw [<- hn];exact hle⟩)
 ·rename_i hlt hsp h35;have hs:y5 (s.getD i 0)=false:=by
   rw [y5,hsp.1.1.1,hsp.1.1.2,hsp.1.2,hsp.2];rfl
  have hn:=a2f a (show i < s.length by omega);rw [hs,W4,h35,W4,hc,W4] at hn;have hcl:0<=a0K (s.getD i 0).toNat:=by unfold a0K;repeat' split<;>omega
  have h0:a0K (s.getD i 0).toNat≠0:=by simpa using hc
  have hr0:o7 p7 s i=o7 p7 s (i+1):=a0U (by omega) (by rw [p7,V5];omega);have hr1:=a0y (f:=p7) (s:=s) (i:=i+1) (by omega);refine lq' false [0,5,6,7] [] [] (fun i:{j:Nat // i<=j/\j<=s.length/\o7 p7 s j=o7 p7 s i}=>[(9,slV (.i .i64 i.1))]) nl' (fun i=>[(100010,a0m,a.map d6.cells)]) (fun i=>s.length - i.1) (⟨i,by omega,hi,rfl⟩) ?_;intro S2 hS2 i;obtain ⟨k,hik,hj,hrj⟩:=i;simp only [go_sem,hS0,hS2];repeat' first|apply cj'|intro hc|exact om'|fail
  ·have hjx:o7 p7 s (k+1)=o7 p7 s i:=(a0U (by omega) (by rw [p7,V5];exact hc.2)).symm.trans hrj
   (refine lpK_n2 (⟨k+1,by omega,by omega,hjx⟩) _ rfl ?_;simp only [go_sem,hS0,hS2]<;>repeat' first|apply V2|exact on'|fail)
  ·rename_i hkx h3;have hk2:o7 p7 s i=k:=by
    rw [<- hrj];exact a3i fun h=>by
     rw [W9 (show (k:Int) < s.length by omega),q0D] at hkx;rw [p7];exact hkx
   rw [v7,hk2] at hn;simp only [h3,hc,W5,W4,beq_self_eq_true] at hn;rw [hlx,<- hle,hn];exact ⟨⟨rfl,rfl⟩,rfl⟩
  ·rename_i hkx h3;have hk2:o7 p7 s i=k:=by
    rw [<- hrj];exact a3i fun h=>by
     rw [W9 (show (k:Int) < s.length by omega),q0D] at hkx;rw [p7];exact hkx
   rw [v7,hk2] at hn;simp only [h3,hc,W5,W4,beq_self_eq_true] at hn
   (refine lpK_n2 (⟨(k,a++[⟨3,a6C (cut s i k),[],i⟩]),hj,by show (a++[_]).length<=_;rw [W7,q0N];omega,hn.symm.trans hle⟩) _ (by simp only [go_sem,hS0,hS2];try rfl) ?_;simp only [go_sem,hS0,hS2]<;>repeat' first|apply V2|exact on'|fail)
  ·rename_i hkx h3;have hk2:o7 p7 s i=k:=by
    rw [<- hrj];exact a3i fun h=>by
     rw [W9 (show (k:Int) < s.length by omega),q0D] at hkx;rw [p7];exact hkx
   rw [v7,hk2] at hn;simp only [h3,hc,W5,W4,beq_self_eq_true] at hn
   (refine lpK_n2 (⟨(k,a++[⟨1,0,cut s i k,i⟩]),hj,by show (a++[_]).length<=_;rw [W7,q0N];omega,hn.symm.trans hle⟩) _ (by simp only [go_sem,hS0,hS2];try rfl) ?_;simp only [go_sem,hS0,hS2]<;>repeat' first|apply V2|exact on'|fail)
  ·rename_i hkx h3 hw;have hk2:o7 p7 s i=k:=by
    rw [<- hrj];exact a3i fun h=>by
     rw [W9 (show (k:Int) < s.length by omega),q0D] at hkx;rw [p7];exact hkx
   rw [v7,hk2] at hn;simp only [h3,hw,hc,W5,W4,beq_self_eq_true] at hn
   (refine lpK_n2 (⟨(k,a++[⟨2,0,cut s i k,i⟩]),hj,by show (a++[_]).length<=_;rw [W7,q0N];omega,hn.symm.trans hle⟩) _ (by simp only [go_sem,hS0,hS2];try rfl) ?_;simp only [go_sem,hS0,hS2]<;>repeat' first|apply V2|exact on'|fail)
  ·rename_i hkx h3 hw;have hk2:o7 p7 s i=k:=by
    rw [<- hrj];exact a3i fun h=>by
     rw [W9 (show (k:Int) < s.length by omega),q0D] at hkx;rw [p7];exact hkx
   rw [v7,hk2] at hn;simp only [h3,hw,hc,W5,W4,beq_self_eq_true] at hn;rw [hlx,<- hle,hn];exact ⟨⟨rfl,rfl⟩,rfl⟩
 ·rw [hlx,<- hle,b8T a (by omega)];exact ⟨⟨rfl,rfl⟩,rfl⟩
noncomputable def b3u:CT:=j6 (fun (x:(List UInt8))=>c1h x)
@[go_sem] def c6m:=fun s=>nm' (fQ' b3u rfl s)
def a1N (r:c4) (n:Int):c4:=bif n==16 then f9 r 7 else r
def a1O (r:c4) (n:Int):c4:=bif a5L r&&n==24 then f9 r 7 else r
def a1P (r:c4) (p:c5):c4×c5:=
 bif decide (0 < w4 (g9 r r.i)) then ((l5 (i5 (a1N r p.Decls.length)) (w4 (g9 r r.i))).1,⟨p.Decls++[(l5 (i5 (a1N r p.Decls.length)) (w4 (g9 r r.i))).2],p.Rules⟩)
 else ((u3 (a1O r p.Rules.length)).1,⟨p.Decls,p.Rules++[(u3 (a1O r p.Rules.length)).2]⟩)
def z7 (r:c4):Bool:=r.code==0&&decide (r.i < r.toks.length)
def a4Q:Nat->c4->c5->c4×c5
 | 0,r,p=>(r,p)
 | n+1,r,p=>bif z7 r then a4Q n (a1P r p).1 (a1P r p).2 else (r,p)
def n0 (r:c4) (p:c5):c4×c5:=a4Q (r.toks.length+1 - r.i.toNat) r p
def a0h (s:List UInt8):c4:=⟨(a0X s).1,0,s.length,0,0⟩
def a0O (s:List UInt8):c5×Int×Int:=
 bif (a0X s).2.1 != 0 then (default,(a0X s).2.1,(a0X s).2.2)
 else bif (n0 (a0h s) default).1.code != 0 then (default,(n0 (a0h s) default).1.code,(n0 (a0h s) default).1.p)
 else ((n0 (a0h s) default).2,0,0)
def c3h (r:c4) (n:Int):Adv r (a1N r n):=by
 rw [a1N];cases n==16 with
 | true=>exact w6 r 7
 | false=>exact Adv.rfl'
def c3j (r:c4) (n:Int):Adv r (a1O r n):=by
 rw [a1O];cases a5L r&&n==24 with
 | true=>exact w6 r 7
 | false=>exact Adv.rfl'
def b6G (r:c4) (n:Int):(a1N r n).i=r.i/\(a1N r n).toks=r.toks:=by
 rw [a1N];cases n==16 with
 | true=>exact ⟨(a1A r 7).2,(a1A r 7).1⟩
 | false=>exact ⟨rfl,rfl⟩
def fullU_i (r:c4) (n:Int):(a1O r n).i=r.i:=by
 rw [a1O];cases a5L r&&n==24 with
 | true=>exact (a1A r 7).2
 | false=>rfl
def c3i {r:c4} (n:Int) (h:r.i < r.toks.length):Adv r (i5 (a1N r n)):=
 (c3h r n).trans (u7 (by rw [(b6G r n).1,(b6G r n).2];exact h))
def b2Z {r:c4} (p:c5) (h:r.i < r.toks.length):Adv r (a1P r p).1:=by
 rw [a1P];cases decide (0 < w4 (g9 r r.i)) with
 | true=>exact (c3i _ h).trans (a8O _ _)
 | false=>exact (c3j r _).trans (b3a _)
def b6L {r:c4} (p:c5) (h:r.i < r.toks.length) (hc:(a1P r p).1.code=0):r.i < (a1P r p).1.i:=by
 rw [a1P] at hc ⊢;cases hk:decide (0 < w4 (g9 r r.i)) with
 | true=>
   have h1:=(a8O (i5 (a1N r p.Decls.length)) (w4 (g9 r r.i))).i;have h2:=(b6G r p.Decls.length).1;have h3:(a1N r p.Decls.length).i+1<=(l5 (i5 (a1N r p.Decls.length)) (w4 (g9 r r.i))).1.i:=h1;show r.i < (l5 (i5 (a1N r p.Decls.length)) (w4 (g9 r r.i))).1.i;omega
 | false=>
   rw [hk] at hc;have h1:=b7j hc;rw [fullU_i] at h1;exact h1
def a4R {n:Nat} {r:c4} {p:c5} (h:z7 r=false):a4Q n r p=(r,p):=by
 cases n with
 | zero=>rfl
 | succ n=>rw [a4Q,h];rfl
def a6F {r:c4} (h:z7 r=true):r.code=0/\r.i < r.toks.length:=by
 simpa only [z7,W3,beq_iff_eq,V5] using h
def b1k:∀ (n m:Nat) {r:c4} {p:c5},j2 r->r.toks.length < n+r.i.toNat->r.toks.length < m+r.i.toNat->a4Q n r p=a4Q m r p
 | 0,_,r,p,h,h1,_=>by obtain ⟨⟨h0,h2⟩,_⟩:=h;omega
 | _,0,r,p,h,_,h1=>by obtain ⟨⟨h0,h2⟩,_⟩:=h;omega
 | n+1,m+1,r,p,h,h1,h2=>by
   rw [a4Q,a4Q];cases hg:z7 r with
   | false=>rfl
   | true=>
     rw [W5,W5];have hlt:=(a6F hg).2;have ha:=b2Z p hlt;have hok:=ha.ok h;cases hc:(a1P r p).1.code==0 with
     | false=>
       have:z7 (a1P r p).1=false:=by rw [z7,hc];rfl
       rw [a4R this,a4R this]
     | true=>
       have h3:=b6L p hlt (by simpa using hc);have h0:=h.1.1;refine b1k n m hok ?_ ?_<;>(rw [ha.t];omega)
def a1j {r:c4} {p:c5} (h:z7 r=false):n0 r p=(r,p):=a4R h
def a4s {r:c4} {p:c5} (h:j2 r) (hg:z7 r=true):n0 r p=n0 (a1P r p).1 (a1P r p).2:=by
 have hlt:=(a6F hg).2;have h0:=h.1;have e:r.toks.length+1 - r.i.toNat=(r.toks.length - r.i.toNat)+1:=by omega
 have ha:=b2Z p hlt;have hok:=ha.ok h;rw [n0,e,a4Q,hg,W5];cases hc:(a1P r p).1.code==0 with
 | false=>
   have:z7 (a1P r p).1=false:=by rw [z7,hc];rfl
   rw [a4R this,a1j this]
 | true=>
   have h3:=b6L p hlt (by simpa using hc);have h4:=hok.1;rw [n0];have h5:=ha.t;rw [h5] at h4;refine b1k _ _ hok ?_ ?_<;>(rw [h5];omega)
def a6t (s:List UInt8):∀ (n i:Nat) (out:List d6),out.length<=i->i<=s.length->(a4C s n i out).1.length<=s.length
 | 0,i,out,h,h2=>by rw [a4C];show out.length<=s.length;omega
 | n+1,i,out,h,h2=>by
   rw [a4C];cases hd:decide (i < s.length) with
   | false=>show out.length<=s.length;omega
   | true=>
     rw [W5];have hi:i < s.length:=of_decide_eq_true hd;cases y5 (s.getD i 0) with
     | true=>exact a6t s n _ _ (by omega) (by omega)
     | false=>
       rw [W4];cases h35:((s.getD i 0).toNat:Int)==35 with
       | true=>
         have:=a0y (f:=a0l) (s:=s) (i:=i) (by omega);exact a6t s n _ _ (by omega) (by omega)
       | false=>
         rw [W4];cases hc:a0K (s.getD i 0).toNat==0 with
         | true=>
           rw [W5];cases hs:t6 s i==[] with
           | true=>simp
           | false=>
             have:(t6 s i).length≠0:=fun e=>by rw [q1V e] at hs;exact absurd hs (by decide)
             have:=a6A hi;exact a6t s n _ _ (by rw [W7,q0N];omega) (by omega)
         | false=>
           rw [W4];cases (v7 s i).1==0 with
           | false=>simp
           | true=>
             have hr:o7 p7 s i=o7 p7 s (i+1):=a0U hi (by
              rw [p7,V5];have h0:a0K (s.getD i 0).toNat≠0:=by simpa using hc
              have:0<=a0K (s.getD i 0).toNat:=by unfold a0K;repeat' split<;>omega
              omega)
             have:=a0y (f:=p7) (s:=s) (i:=i+1) (by omega);exact a6t s n _ _ (by rw [W7,q0N];omega) (by omega)
def c5N (s:List UInt8):(a0X s).1.length<=6000:=by
 rw [a0X];cases hd:decide (6000 < s.length) with
 | true=>simp
 | false=>
   have h:¬ 6000 < s.length:=of_decide_eq_false hd;have:=a6t s (s.length+1 - 0) 0 [] (by simp) (by omega);rw [W4,a3m];omega
def b4u (s:List UInt8):j2 (a0h s):=⟨⟨by show (0:Int)<=0;omega,by show (0:Int)<=_;omega⟩,c5N s⟩
def c2x {s:List UInt8} (h:((a0X s).2.1 != 0)=true):a0O s=(default,(a0X s).2.1,(a0X s).2.2):=by rw [a0O,h];rfl
def parse_2 {s:List UInt8} {q:c4×c5} (h:((a0X s).2.1 != 0)=false) (hq:n0 q.1 q.2=n0 (a0h s) default) (hg:z7 q.1=false) (hc:(q.1.code != 0)=true):a0O s=(default,q.1.code,q.1.p):=by
 rw [a0O,h,<- hq,a1j hg];simp only [W4,hc,W5]
def parse_3 {s:List UInt8} {q:c4×c5} (h:((a0X s).2.1 != 0)=false) (hq:n0 q.1 q.2=n0 (a0h s) default) (hg:z7 q.1=false) (hc:(q.1.code != 0)=false):a0O s=(q.2,0,0):=by
 rw [a0O,h,<- hq,a1j hg];simp only [W4,hc]
def a3U (q:c4):Nat:=bif q.code==0 then q.toks.length+1 - q.i.toNat else 0
def b6b {q r:c4} (hg:z7 q=true) (h0:0<=q.i) (ht:r.toks=q.toks) (hs:r.code=0->q.i < r.i):a3U r < a3U q:=by
 obtain ⟨hc,hl⟩:=a6F hg;rw [a3U,a3U,hc,ht];cases h:r.code==0 with
 | true=>
   have:=hs (by simpa using h);show q.toks.length+1 - r.i.toNat < q.toks.length+1 - q.i.toNat
   omega
 | false=>show 0 < q.toks.length+1 - q.i.toNat;omega
structure Item (s:List UInt8) (q r:c4) (u:c5):Prop where
 ok:j2 r
 t:r.toks=(a0X s).1
 l:r.code=0->((u.Decls.length+u.Rules.length:Nat):Int)<=r.i
 e:n0 r u=n0 (a0h s) default
 m:a3U r < a3U q
def b2n {s:List UInt8} {q r:c4} {p t:c5} (hq:j2 q) (hqt:q.toks=(a0X s).1) (hal:q.code=0->((p.Decls.length+p.Rules.length:Nat):Int)<=q.i) (hqe:n0 q p=n0 (a0h s) default) (hg:z7 q=true) (e:a1P q p=(r,t)) (hn:t.Decls.length+t.Rules.length=p.Decls.length+p.Rules.length+1):Item s q r t:=by
 obtain ⟨hc,hlt⟩:=a6F hg;have hon:=a4s (p:=p) hq hg;have had:=b2Z p hlt;have hst:=b6L p hlt;rw [e] at hon had hst;refine ⟨had.ok hq,had.t.trans hqt,fun h=>?_,hon.symm.trans hqe,b6b hg hq.1.1 had.t hst⟩;have h1:=hst h;have h2:=hal hc;simp only at h1;omega
def b6K {q:c4} {ds:List c9} {rs:List c6} (hk:0 < w4 (q.toks.getD q.i.toNat default)):a1P q ⟨ds,rs⟩=((l5 (i5 (a1N q ds.length)) (w4 (q.toks.getD q.i.toNat default))).1,⟨ds++[(l5 (i5 (a1N q ds.length)) (w4 (q.toks.getD q.i.toNat default))).2],rs⟩):=by
 rw [a1P,g9,W9 hk];rfl
def b3E {q:c4} {ds:List c9} {rs:List c6} (hk:¬ 0 < w4 (q.toks.getD q.i.toNat default)):a1P q ⟨ds,rs⟩=((u3 (a1O q rs.length)).1,⟨ds,rs++[(u3 (a1O q rs.length)).2]⟩):=by
 rw [a1P,g9,V4 hk];rfl
def c2h {q:c4} {n:Int} (h:(n==16)=true):a1N q n=f9 q 7:=by rw [a1N,h];rfl
def c2g {q:c4} {n:Int} (h:(n==16)=false):a1N q n=q:=by rw [a1N,h];rfl
def fullU_1 {q:c4} {n:Int} (h:((((q.toks.getD q.i.toNat default).Kind==1)=true/\a1K (q.toks.getD q.i.toNat default).S=false\/isS q q.i [43]=true)\/isS q q.i [45]=true)/\(n==24)=true):a1O q n=f9 q 7:=by
 have hb:a5L q=true:=by
  rw [a5L,g9,a3V,a2D];rcases h.1 with (h|h)|h
  ·rw [h.1,h.2];rfl
  ·rw [h];simp
  ·rw [h];simp
 rw [a1O,hb,h.2];rfl
def fullU_0 {q:c4} {n:Int} (h:(((q.toks.getD q.i.toNat default).Kind==1&&!a1K (q.toks.getD q.i.toNat default).S || isS q q.i [43] || isS q q.i [45])&&n==24)=false):a1O q n=q:=by
 have hb:a5L q=((q.toks.getD q.i.toNat default).Kind==1&&!a1K (q.toks.getD q.i.toNat default).S || isS q q.i [43] || isS q q.i [45]):=by rw [a5L,g9,a3V,a2D,q4N]
 rw [a1O,hb,h];rfl
def c2i {q:c4} (h:(q.code==0&&decide (q.i < q.toks.length))=false):z7 q=false:=h
def b6X (s:List UInt8):spZ 35 [(false,[.s s])] [] (.tup [(true,[l7 (((a0O s).1).Decls),l6 (((a0O s).1).Rules)]),(false,[.i .i64 ((a0O s).2.1)]),(false,[.i .i64 ((a0O s).2.2)])]):=by
 refine sx' false true none Tryz.func35 (q' 2 [aw [.sl t8,.sl v6],aK 0,aK 0] (q' 14 [am 0,ac 92 [14],aV 13,ao (.ext (.t 13) 0),ao (.ext (.t 13) 1),ao (.ext (.t 13) 2),av 5 16,av 6 17,aV 7] (.seq (q' 19 [am 6,ao (.bin .neq (.t 19) (k' 0))] (.cond (.t 20) (q' 21 [ao (.bld [.sl t8,.sl v6] []),aM [6,7],aS 2 2 21,av 3 22,aV 4] .ret) .skip)) (q' 24 [aM [5,0],ao (.lens (.t 25)),ao (.bld [.sl a0m,.i .i64,.i .i64,.i .i64,.i .i64] [(0,1,.t 24),(2,1,.t 26)]),ao (.box 5 (.t 27)),aV 8] (q' 9 [ax (o' 29 (.bld [.sl t8,.sl v6] [])),aw [.sl t8,.sl v6],aS 2 9 29] (.seq (.block 0 (.loop (.seq (q' 30 [am 8,ao (.nck (.t 30)),aG 3 31,ao (.bin .eql (.t 33) (k' 0)),am 34,au (.mov (.t 8)) 35 true,au (.nck (.t 36)) 35 true,au (.fa 1 (.t 37)) 35 true,au (.ld false 1 (.t 38)) 35 true,au (.mov (.t 5)) 35 true,au (.len (.t 40)) 35 true,au (.bin .lss (.t 39) (.t 41)) 35 true,ao (.pick (.t 35) (.t 42) (bb false))] (.cond (.t 43) .skip (.exit 0))) (.block 1 (q' 44 [aM [5,8],ao (.nck (.t 45)),aG 1 46,ai 4 44 48,aE 4,ac 93 [50],aV 10] (.seq (q' 52 [am 10,ao (.bin .gtr (.t 52) (k' 0))] (.cond (.t 53) (.seq (q' 54 [aG 0 9,aN,ao (.bin .eql (.t 56) (k' 16))] (.cond (.t 57) (g' 58 [am 8,ao (.call 94 [.t 58,.k (.v false [.c (.i .i64 7)])])]) .skip)) (q' 60 [am 8,ao (.nck (.t 60)),aG 1 61,ao (.bin .add (.t 63) (k' 1)),ao (.nck (.t 60)),aF 1,aS 1 66 64] (.seq (rm' [(true,2,m' 69 8),(true,3,m' 70 10),(false,0,f' 67 0 9),(false,1,l' 68 67),(false,4,c' 71 95 [69,70]),(false,5,o' 72 (.bsl 3 1 [.i .i64,.s,.i .i64] [(0,.t 71)])),(false,6,o' 73 (.app 3 32 [.i .i64,.s,.i .i64] (.t 68) (.t 72))),(false,7,f' 74 0 9),(false,8,s' 1 74 73)] [[0,1,2,4,3,5,6,7,8],[0,1,2,4,5,3,6,7,8],[0,1,4,2,3,5,6,7,8],[0,1,4,2,5,3,6,7,8],[0,1,4,5,2,3,6,7,8]] []) (.exit 1)))) .skip)) (q' 75 [aM [5,8],ao (.nck (.t 76)),aG 1 77,ai 4 75 79,aE 4,ax (w' 11 [.i .i64,.i .i64,.s,.i .i64]),aS 4 11 81] (q' 82 [aG 0 11,ao (.bin .eql (.t 83) (k' 1)),am 84,au (.fa 2 (.t 11)) 85 true,au (.ld false 1 (.t 86)) 85 true,au (.call 96 [.t 87]) 85 true,au (.not (.t 88)) 85 true,ao (.pick (.t 85) (.t 89) (bb false)),am 90,au (.mov (.t 8)) 91 false,au (.mov (.t 8)) 91 false,au (.nck (.t 93)) 91 false,au (.fa 1 (.t 94)) 91 false,au (.ld false 1 (.t 95)) 91 false,au (.call 97 [.t 92,.t 96,.k (.v false [.c (.s [43])])]) 91 false,ao (.pick (.t 91) (bb true) (.t 97)),am 98,au (.mov (.t 8)) 99 false,au (.mov (.t 8)) 99 false,au (.nck (.t 101)) 99 false,au (.fa 1 (.t 102)) 99 false,au (.ld false 1 (.t 103)) 99 false,au (.call 97 [.t 100,.t 104,.k (.v false [.c (.s [45])])]) 99 false,ao (.pick (.t 99) (bb true) (.t 105)),aV 12] (.seq (q' 107 [aM [12,107],au (.fa 1 (.t 9)) 108 true,au (.ld false 1 (.t 109)) 108 true,au (.len (.t 110)) 108 true,au (.bin .eql (.t 111) (k' 24)) 108 true,ao (.pick (.t 108) (.t 112) (bb false))] (.cond (.t 113) (g' 114 [am 8,ao (.call 94 [.t 114,.k (.v false [.c (.i .i64 7)])])]) .skip)) (rm' [(true,2,m' 118 8),(false,0,f' 116 1 9),(false,1,l' 117 116),(false,3,c' 119 98 [118]), (false,4,o' 120 (.bsl 4 1 [.i .i64,.s,.sl j3,.sl a2q] [(0,.t 119)])),(false,5,o' 121 (.app 4 72 [.i .i64,.s,.sl j3,.sl a2q] (.t 117) (.t 120))),(false,6,f' 122 1 9),(false,7,s' 1 122 121)] [[0,1,3,2,4,5,6,7],[0,1,3,4,2,5,6,7],[0,3,1,2,4,5,6,7],[0,3,1,4,2,5,6,7],[0,3,4,1,2,5,6,7]] [])))))))))) (.seq (q' 123 [am 8,ao (.nck (.t 123)),aG 3 124,ao (.bin .neq (.t 126) (k' 0))] (.cond (.t 127) (.seq (.rego [(true,0,o' 128 (.bld [.sl t8,.sl v6] [])),(true,1,m' 129 8),(true,2,o' 130 (.nck (.t 129))),(true,3,f' 131 3 130),(true,4,l' 132 131),(true,5,m' 133 8),(true,6,o' 134 (.nck (.t 133))),(true,7,f' 135 4 134),(true,8,l' 136 135),(false,9,s' 2 2 128),(false,10,m' 3 132), (false,11,m' 4 136)] [16,17,1000016]) .ret) .skip)) (q' 137 [ae 2 9,aS 2 2 137,az 3 0,az 4 0] .ret)))))))) [.c 2 true 2,.t 3,.t 4] [(92,[],b3u),(93,[],a6k),(94,[0],u2),(95,[0],a6j),(96,[],a0q),(97,[],a0w),(98,[0],a6l)] ?_;intro hb hE;have hro:=b4u s;simp only [go_sem,pc_susB];(repeat' first|apply cj'|intro hc|apply a4Y);(all_goals (try (refine (show A3F _ _ _ _ _ _ from ?_);simp only [go_sem,pc_susB] at hc ⊢;simp only [go_sem,pc_susB,A7d,A7h,A6v,A6u,A7c,A6t,nf_put_sub,A7f,A7e,nf_put_susK,nf_put_dip,nf_put_put,A7g,A7b,A6w,a0e,a0c,a0a,a0b,a0d,nf_sub_sub] at hc ⊢;simp only [hc,q1U,q0O];done)));all_goals try exact om'
 ·rw [c2x hc];exact ⟨⟨⟨rfl,rfl⟩,rfl⟩,rfl⟩
 have hlx:=hc;refine b8c 8 1000016 ?_;refine lk' false [(true,18,0,200036),(true,18,1,200038)] [2,5,8,9] [4,56] [] (fun i:{q:c4×c5 // j2 q.1/\q.1.toks=(a0X s).1/\(q.1.code=0->((q.2.Decls.length+q.2.Rules.length:Nat):Int)<=q.1.i)/\n0 q.1 q.2=n0 (a0h s) default}=>[]) (fun i=>[(18,[.ow 200036,.ow 200038]),(1000016,[.c (i9 i.1.1.toks),.c (.i .i64 i.1.1.i),.c (.i .i64 i.1.1.e),.c (.i .i64 i.1.1.code),.c (.i .i64 i.1.1.p)])]) (fun i=>[(200036,t8,i.1.2.Decls.map c9.cells),(200038,v6,i.1.2.Rules.map (c6.cells false false))]) (fun i=>a3U i.1.1) (⟨(a0h s,default),hro,rfl,fun _=>Int.le_refl _,rfl⟩) ?_;intro S0 hS0 i;obtain ⟨⟨q,ds,rs⟩,hq,hqt,hal,hqe⟩:=i;simp only at hq hqt hal hqe;have hqt':=hqt.symm;have hwq:=a2p hq;have hf7:=a0g hq 7;have hwf:=a2p hf7;simp only [go_sem,pc_susB,hS0,hqt',hwq,hwf];(repeat' first|apply cj'|intro hc|apply a4Y);(all_goals (try ((first|refine a2K 1 rfl ?_|refine a2K 2 rfl ?_);intro S hS B0 hB;simp only [go_sem,pc_susB,hS0,hqt',hwq,hwf,q0I,q2B] at hS hB;(repeat (first|replace hS:=And.right hS|replace hS:=CJ.r hS));have Rr8:=congrArg (fun s:St=>s.sl 8) hS;have Rr9:=congrArg (fun s:St=>s.sl 9) hS;have Rr10:=congrArg (fun s:St=>s.sl 10) hS;have Rr69:=congrArg (fun s:St=>s.sl 69) hS;have Rr70:=congrArg (fun s:St=>s.sl 70) hS;have Rr118:=congrArg (fun s:St=>s.sl 118) hS;have Rb18:=congrArg (fun s:St=>s.bx 18) hS;have Rb1000016:=congrArg (fun s:St=>s.bx 1000016) hS;have Ro200036:=congrArg (fun s:St=>s.ow 200036) hS;have Ro200038:=congrArg (fun s:St=>s.ow 200038) hS;clear hS;simp only [go_sem,pc_susB,hS0,hqt',hwq,hwf] at Rr8 Rr9 Rr10 Rr69 Rr70 Rr118 Rb18 Rb1000016 Ro200036 Ro200038;(try clear hc);intro K hc;simp only [go_sem,pc_susB,hS0,hqt',hwq,hwf,Rr8,Rr9,Rr10,Rr69,Rr70,Rr118,Rb18,Rb1000016,Ro200036,Ro200038,hB,q0F,q1R,q0L,q0V] at hc ⊢;simp only [go_sem,pc_susB,hS0,hqt',hwq,hwf,Rr8,Rr9,Rr10,Rr69,Rr70,Rr118,Rb18,Rb1000016,Ro200036,Ro200038,hB,A7d,A7h,A6v,A6u,A7c,A6t,nf_put_sub,A7f,A7e,nf_put_susK,nf_put_dip,nf_put_put,A7g,A7b,A6w,a0e,a0c,a0a,a0b,a0d,nf_sub_sub] at hc ⊢;simp only [hc,q1U,q0O];done)));all_goals try exact om'
 ·exact ⟨hq.1.1,hc.2⟩
 ·exact hq
 ·rename_i hg hk;have hlt:(f9 q 7).i < (f9 q 7).toks.length:=by rw [(a1A q 7).1,(a1A q 7).2];exact hg.2
  exact s9 hf7 hlt
 ·rename_i hg hk;have:=hal (by simpa using hg.1);have:=hq.1.2;have:=hq.2;omega
 ·rename_i hg hk;have e:=b6K (rs:=rs) (ds:=ds) hk;rw [c2h hc] at e;obtain ⟨n1,n2,n3,n4,n5⟩:=b2n hq hqt hal hqe (by rw [z7,hg.1,W9 hg.2];rfl) e (by simp only [W7,q0N];omega)
  (refine lpK_n2 (⟨(_,⟨_,_⟩),n1,n2,n3,n4⟩) _ (by simp only [go_sem,pc_susB];try rfl) ?_;simp only [go_sem,pc_susB,hS0,hqt',hwq,hwf]<;>repeat' first|apply V2|exact on'|fail)
 ·rename_i hg hk;exact s9 hq hg.2
 ·rename_i hg hk;have:=hal (by simpa using hg.1);have:=hq.1.2;have:=hq.2;omega
 ·rename_i hg hk;have e:=b6K (rs:=rs) (ds:=ds) hk;rw [c2g hc] at e;obtain ⟨n1,n2,n3,n4,n5⟩:=b2n hq hqt hal hqe (by rw [z7,hg.1,W9 hg.2];rfl) e (by simp only [W7,q0N];omega)
  (refine lpK_n2 (⟨(_,⟨_,_⟩),n1,n2,n3,n4⟩) _ (by simp only [go_sem,pc_susB];try rfl) ?_;simp only [go_sem,pc_susB,hS0,hqt',hwq,hwf]<;>repeat' first|apply V2|exact on'|fail)
 ·rename_i hg;exact ⟨hq.1.1,hg.2⟩
 ·exact ⟨hq,hq.1.1⟩
 ·exact ⟨hq,hq.1.1⟩
 ·exact hq
 ·exact hf7
 ·rename_i hg hk;have:=hal (by simpa using hg.1);have:=hq.1.2;have:=hq.2;omega
 ·rename_i hg hk;have e:=b3E (rs:=rs) (ds:=ds) hk;rw [fullU_1 hc] at e;obtain ⟨n1,n2,n3,n4,n5⟩:=b2n hq hqt hal hqe (by rw [z7,hg.1,W9 hg.2];rfl) e (by simp only [W7,q0N];omega)
  (refine lpK_n2 (⟨(_,⟨_,_⟩),n1,n2,n3,n4⟩) _ (by simp only [go_sem,pc_susB];try rfl) ?_;simp only [go_sem,pc_susB,hS0,hqt',hwq,hwf]<;>repeat' first|apply V2|exact on'|fail)
 ·exact hq
 ·rename_i hg hk;have:=hal (by simpa using hg.1);have:=hq.1.2;have:=hq.2;omega
 ·rename_i hg hk;have e:=b3E (rs:=rs) (ds:=ds) hk;rw [fullU_0 hc] at e;obtain ⟨n1,n2,n3,n4,n5⟩:=b2n hq hqt hal hqe (by rw [z7,hg.1,W9 hg.2];rfl) e (by simp only [W7,q0N];omega)
  (refine lpK_n2 (⟨(_,⟨_,_⟩),n1,n2,n3,n4⟩) _ (by simp only [go_sem,pc_susB];try rfl) ?_;simp only [go_sem,pc_susB,hS0,hqt',hwq,hwf]<;>repeat' first|apply V2|exact on'|fail)
 ·rename_i hg;rw [parse_2 (q:=(q,⟨ds,rs⟩)) hlx hqe (c2i hg) hc];exact ⟨⟨⟨rfl,rfl⟩,rfl⟩,rfl⟩
 ·rename_i hg;rw [parse_3 (q:=(q,⟨ds,rs⟩)) hlx hqe (c2i hg) hc];exact ⟨⟨⟨rfl,rfl⟩,rfl⟩,rfl⟩
noncomputable def a9h:CT:=j6 (fun (x:(List UInt8))=>b6X x)
@[go_sem] def c4D:=fun s=>nm' (fQ' a9h rfl s)
end Go.Aw
namespace Go.Aw
open Go.Proofs
attribute [local irreducible] aft blk lpK retK AW A0d
set_option linter.all false
set_option maxRecDepth 100000
def b9k (l:List (List UInt8)):a9H l=a9G Op.bytesLess l:=by
 unfold a9H a9G
 congr 1
 funext x y
 rw [b9g,Bool.eq_iff_iff];simp
def c4b (l:List (List UInt8)) (hpre:l.length < 4611686018427387904):spZ 230 [(false,[.sl true [.s []] (l.map y3)])] [(0,(false,[.sl true [.s []] ((a9G Op.bytesLess l).map y3)]))] (.tup []):=by
 rw [<- b9k];exact c4o Tryz.l190 (by kernel_rfl) l hpre
noncomputable def b0l:CT:=s3 (fun (x:(List (List UInt8))) h=>c4b x h)
@[go_sem] def c6t:=fun l=>nm' (fP' b0l rfl l)
def c5G (l:List (List UInt8)):spZ 231 [(false,[.sl true [.s []] (l.map y3)])] [] (.one (false,[.sl true [.s []] ((Lib.compact l).map y3)])):=by
 exact b6C Tryz.l194 (by kernel_rfl) l
noncomputable def b3l:CT:=j6 (fun (x:(List (List UInt8)))=>c5G x)
@[go_sem] def c_comStr_eq:=fun l=>nm' (fQ' b3l rfl l)
abbrev sLt:List UInt8->List UInt8->Bool:=Op.bytesLess
def a2u {α:Type} (lt:α->α->Bool) (s:α) (t:List α):List α:=bif t.any (lt s) then t.takeWhile (fun x=>!lt s x)++s::t.dropWhile (fun x=>!lt s x) else t
def c6b {α:Type} {q:α->Bool} {t:List α} (h:∀ x∈t,q x=true):t.takeWhile q=t/\t.dropWhile q=[]:=by
 induction t with
 | nil=>exact ⟨rfl,rfl⟩
 | cons a t ih=>
   have ha:=h a (by simp);have:=ih fun x hx=>h x (by simp [hx])
   simp [q2K,q3Y,ha,this.1,this.2]
def tw_app {α:Type} {q:α->Bool} {t u:List α} (h:∃ x∈t,q x=false):(t++u).takeWhile q=t.takeWhile q/\(t++u).dropWhile q=t.dropWhile q++u:=by
 induction t with
 | nil=>obtain ⟨x,hx,_⟩:=h;simp at hx
 | cons a t ih=>
   cases ha:q a with
   | false=>simp [q2K,q3Y,ha]
   | true=>
     obtain ⟨x,hx,hq⟩:=h;have:=ih ⟨x,by
      rcases V7.1 hx with rfl|hx
      ·rw [ha] at hq;simp at hq
      ·exact hx,hq⟩
     simp [q2K,q3Y,ha,this.1,this.2]
def a2A {α:Type} {lt:α->α->Bool} {s:α} {t:List α} (h:t.any (lt s)=false):∀ x∈t,(fun x=>!lt s x) x=true:=by
 intro x hx;rw [q2L] at h;have:=h x hx;simpa using this
def b7Z {α:Type} {lt:α->α->Bool} {s:α} {t:List α} (h:t.any (lt s)=true):∃ x∈t,(fun x=>!lt s x) x=false:=by
 rw [q3A] at h;obtain ⟨x,hx,hp⟩:=h;exact ⟨x,hx,by simp [hp]⟩
def b8D {α:Type} {lt:α->α->Bool} {s x:α} {t:List α} (h:t.any (lt s)=true):a2u lt s (t++[x])=a2u lt s t++[x]:=by
 have e:=tw_app (u:=[x]) (b7Z h);have h2:(t++[x]).any (lt s)=true:=by rw [q2F,h];rfl
 unfold a2u;rw [h,h2,e.1,e.2,W5,W5,q0U];rfl
def c2j {α:Type} {lt:α->α->Bool} {s x:α} {t:List α} (h:t.any (lt s)=false) (hx:lt s x=true):a2u lt s (t++[x])=a2u lt s t++[s]++[x]:=by
 have e:=c6b (a2A h);have h2:(t++[x]).any (lt s)=true:=by rw [q2F,h];simp [hx]
 unfold a2u;rw [h,h2,W5,W4];rw [List.takeWhile_append_of_pos (a2A h),List.dropWhile_append_of_pos (a2A h)];simp [q2K,q3Y,hx]
def c5E {α:Type} {lt:α->α->Bool} {s x:α} {t:List α} (h:t.any (lt s)=false) (hx:lt s x=false):a2u lt s (t++[x])=a2u lt s t++[x]:=by
 have h2:(t++[x]).any (lt s)=false:=by rw [q2F,h];simp [hx]
 unfold a2u;rw [h,h2];rfl
def b8E {α:Type} [DecidableEq α] {lt:α->α->Bool} {s:α} {l:List α} (hm:¬ s∈l) (h:l.any (lt s)=true):a2a lt l s=a2u lt s l:=by
 rw [a2a,if_neg hm,a2u,h];rfl
def b8F {α:Type} [DecidableEq α] {lt:α->α->Bool} {s:α} {l:List α} (hm:¬ s∈l) (h:l.any (lt s)=false):a2a lt l s=a2u lt s l++[s]:=by
 have e:=c6b (a2A h);rw [a2a,if_neg hm,a2u,h,e.1,e.2];rfl
def c2k {α:Type} (lt:α->α->Bool) (s:α) (t:List α):(a2u lt s t).length<=t.length+1:=by
 unfold a2u;cases t.any (lt s) with
 | false=>simp
 | true=>
   have e:=congrArg List.length (q1Q (p:=fun x=>!lt s x) (l:=t));simp only [W7] at e;simp only [W5,W7,V3];omega
def put_len {α:Type} [DecidableEq α] (lt:α->α->Bool) (l:List α) (s:α):(a2a lt l s).length<=l.length+1:=by
 unfold a2a;split
 ·omega
 ·have e:=congrArg List.length (q1Q (p:=fun x=>!lt s x) (l:=l));simp only [W7] at e;simp only [W7,V3];omega
def a1D {α:Type} [DecidableEq α] (lt:α->α->Bool):∀ (r l:List α),(o8 lt l r).length<=l.length+r.length:=by
 intro r
 induction r with
 | nil=>intro l;exact q0A _
 | cons a r ih=>
   intro l;have:=ih (a2a lt l a);have:=put_len lt l a;simp only [o8,q1X,V3] at *;omega
def b6d {α:Type} [DecidableEq α] (lt:α->α->Bool) (l r:List α) (x:α):o8 lt l (r++[x])=a2a lt (o8 lt l r) x:=by
 simp [o8,q3Q]
def z6 (t:c8):Bool:=!(t.Var==[])
def j9 (l:List c8):List (List UInt8):=(l.filter z6).map c8.Var
def a5s (l:List c8):List (List UInt8):=o8 sLt [] (j9 l)
def c6d (l:List c8):Lib.compact (a9G sLt (j9 l))=a5s l:=
 a9k s7 (SS.puts s7 SS.nil) fun x=>by rw [a5s,z9];simp
def a1I (l:List c8):(j9 l).length<=l.length:=b0r _ _ _
def a7D (l:List (List UInt8)) (v:List UInt8):l.contains v=l.any (fun x=>x==v):=by
 rw [List.contains_eq_any_beq];congr 1;funext x;exact Bool.eq_iff_iff.2 ⟨fun h=>by rw [beq_iff_eq] at h ⊢;exact h.symm,fun h=>by rw [beq_iff_eq] at h ⊢;exact h.symm⟩
def k_idxS (l:List (List UInt8)) (v:List UInt8):spZ 106 [(false,[a2i l]),(false,[.s v])] [] (.one (false,[.i .i64 (a3T (fun y=>v==y) l)])):=by
 refine sy' Tryz.func106 (q' 4 [aK 0] (.seq (q' 6 [am 0,aN,aK 0] (.block 0 (.loop (q' 9 [ar 8 7] (.seq (.cond (.t 9) .skip (.exit 0)) (.seq (.block 1 (q' 10 [am 8,aV 5] (q' 11 [aM [1,0,5],aI 1,aL,ao (.bin .eql (.t 11) (.t 15))] (.cond (.t 16) (q' 17 [am 5,aV 4] .ret) .skip)))) (g' 18 [aA 8]))))))) (q' 4 [ao (.mov (.k (.v false [.c (.i .i64 (-1))])))] .ret))) [.t 4] [] ?_;intro hb hE;simp only [go_sem];repeat' first|apply cj'|intro hc|exact om'|fail
 refine lq' false [0,1,7] [] [] (fun i:{i:Nat // i<=l.length/\(l.take i).any (fun y=>v==y)=false}=>[(8,slV (.i .i64 i.1))]) nl' nl' (fun i=>l.length - i.1) (⟨0,by simp⟩) ?_;intro S0 hS0 i;obtain ⟨i,hi,ha⟩:=i;simp only [go_sem,hS0];repeat' first|apply cj'|intro hc|exact om'|fail
 ·exact (y8 (p:=fun y=>v==y) (d:=[]) (by omega) ha hc).symm
 ·exact nx0 ⟨i+1,by omega,p9 (p:=fun y=>v==y) [] (by omega) ha hc⟩
 ·exact (v5 (by rwa [i4 (by omega)] at ha)).symm
noncomputable def b0g:CT:=j6 (fun (x:(List (List UInt8))×(List UInt8))=>k_idxS x.1 x.2)
@[go_sem] def b5F:=fun l v=>nm' (fQ' b0g rfl (l,v))
def k_conS (l:List (List UInt8)) (v:List UInt8):spZ 49 [(false,[a2i l]),(false,[.s v])] [] (.one (false,[.b (l.contains v)])):=by
 refine sy' Tryz.func49 (q' 0 [ab 4 false] (q' 5 [aM [0,1],ac 106 [5,6],ao (.bin .geq (.t 7) (k' 0)),aV 4] .ret)) [.t 4] [(106,[],b0g)] ?_;intro hb hE;simp only [go_sem];repeat' first|apply cj'|intro hc|exact om'|fail
 all_goals (rw [List.contains_eq_any_beq];exact a1B _ _)
noncomputable def c5m:CT:=j6 (fun (x:(List (List UInt8))×(List UInt8))=>k_conS x.1 x.2)
@[go_sem] def c_conS_eq:=fun l v=>nm' (fQ' c5m rfl (l,v))
def b5p (l:List (List UInt8)) (v:List UInt8):spZ 159 [(false,[a2i l]),(false,[.s v])] [] (.one (false,[.b (l.contains v)])):=by
 refine sy' Tryz.func159 (q' 0 [ab 4 false] (.seq (q' 7 [am 0,aN,aK 0] (.block 0 (.loop (q' 10 [ar 9 8] (.seq (.cond (.t 10) .skip (.exit 0)) (.seq (.block 1 (q' 11 [ai 1 7 9,aL,aV 6] (q' 13 [aM [6,1],ao (.bin .eql (.t 13) (.t 14))] (.cond (.t 15) (q' 0 [ab 4 true] .ret) .skip)))) (g' 16 [aA 9]))))))) (q' 0 [ab 4 false] .ret))) [.t 4] [] ?_;intro hb hE;simp only [go_sem];repeat' first|apply cj'|intro hc|exact om'|fail
 refine lq' false [1,7,8] [] [] (fun i:{i:Nat // i<=l.length/\(l.take i).any (fun x=>x==v)=false}=>[(9,slV (.i .i64 i.1))]) nl' nl' (fun i=>l.length - i.1) (⟨0,by simp⟩) ?_;intro S0 hS0 i;obtain ⟨i,hi,ha⟩:=i;simp only [go_sem,hS0];repeat' first|apply cj'|intro hc|exact om'|fail
 ·rw [a7D,any_true (d:=[]) (i:=i) (by omega) hc]
 ·exact nx0 ⟨i+1,by omega,p9 [] (by omega) ha hc⟩
 ·rw [a7D,<- ha,i4 (by omega)]
noncomputable def a3S:CT:=j6 (fun (x:(List (List UInt8))×(List UInt8))=>b5p x.1 x.2)
@[go_sem] def c3N:=fun l v=>nm' (fQ' a3S rfl (l,v))
@[go_sem] def a5F:ACode:=q' 4 [ao (.mov (.k (.v false [.nl [.s []]])))] (q' 9 [ao (.bsl 1 0 [.s] []),aV 5] (q' 0 [ab 6 false] (.seq (q' 10 [am 0,aN,aK 0] (.block 0 (.loop (q' 13 [ar 12
 11] (.seq (.cond (.t 13) .skip (.exit 0)) (.seq (.block 1 (q' 14 [ai 1 10 12,aL,aV 8] (.seq (q' 16 [aM [8,1],ao (.bin .eql (.t 16) (.t 17))] (.cond (.t 18)
 (q' 19 [am 0,aV 4] .ret) .skip)) (.seq (q' 20 [am 6,ao (.not (.t 20)),am 21,au (.mov (.t 1)) 22 true,au (.mov (.t 8)) 22 true,au (.bin .lss (.t 23) (.t 24))
 22 true,ao (.pick (.t 22) (.t 25) (bb false))] (.cond (.t 26) (q' 27 [aM [5,1],ao (.bsl 1 1 [.s] [(0,.t 28)]),ao (.app 1 16 [.s] (.t 27) (.t 29)),aV 5] (g' 0
 [ab 6 true])) .skip)) (g' 31 [aM [5,8],ao (.bsl 1 1 [.s] [(0,.t 32)]),ao (.app 1 16 [.s] (.t 31) (.t 33)),aV 5]))))) (g' 35 [aA 12]))))))) (.seq (q' 36 [am
 6,ao (.not (.t 36))] (.cond (.t 37) (g' 38 [aM [5,1],ao (.bsl 1 1 [.s] [(0,.t 39)]),ao (.app 1 16 [.s] (.t 38) (.t 40)),aV 5]) .skip)) (q' 42 [am 5,aV 4]
 .ret)))))
def b5q (l:List (List UInt8)) (s:List UInt8) (hpre:l.length < 1099511627776):spZ 313 [(false,[a2i l]),(false,[.s s])] [] (.one (false,[a2i (a2a sLt l s)])):=by
 refine sx' false true none Tryz.func313 a5F [.t 4] [] ?_;intro hb hE;simp only [go_sem];repeat' first|apply cj'|intro hc|exact om'|fail
 refine lk' false [(false,5,0,100010)] [0,1,10,11] [] [] (fun i:{i:Nat // i<=l.length/\¬ s∈l.take i}=>[(5,.v false [.ow 100010]),(6,slV (.b ((l.take i.1).any (sLt s)))),(12,slV (.i .i64 i.1))]) nl' (fun i=>[(100010,[.s []],(a2u sLt s (l.take i.1)).map y3)]) (fun i=>l.length - i.1) (⟨0,by simp⟩) ?_;intro S0 hS0 i;obtain ⟨i,hi,hm⟩:=i;simp only [go_sem,hS0];repeat' first|apply cj'|intro hc|exact om'|fail
 all_goals have hl:=c2k sLt s (l.take i)
 all_goals rw [q0H] at hl
 ·have hm2:s∈l:=by
   rw [beq_iff_eq] at hc;have:=t7 (l:=l) [] (i:=i) (by omega);rw [<- hc,this];exact q0R _
  rw [a2a,if_pos hm2]
 ·omega
 ·omega
 ·have hx:=j7 (l:=l) [] (i:=i) (by omega);have hn:¬ s∈l.take (i+1):=by rw [hx];simp only [W6,V6];rintro (h|h);exact hm h;subst h;simp at *
  have h1:(l.take (i+1)).any (sLt s)=true:=by rw [hx,q2F,hc.1,q2T,show sLt s (l.getD i [])=true from hc.2];rfl
  have h2:a2u sLt s (l.take (i+1))=a2u sLt s (l.take i)++[s]++[l.getD i []]:=by rw [hx,c2j hc.1 hc.2]
  (refine lpK_n2 (⟨i+1,by omega,hn⟩) _ (by simp only [go_sem];try rfl) ?_;simp only [go_sem,hS0]<;>repeat' first|apply V2|exact on'|fail)
  all_goals first|rw [h1]|rw [h2]
 ·omega
 ·have hx:=j7 (l:=l) [] (i:=i) (by omega);have hn:¬ s∈l.take (i+1):=by rw [hx];simp only [W6,V6];rintro (h|h);exact hm h;subst h;simp at *
  have h3:(l.take (i+1)).any (sLt s)=(l.take i).any (sLt s)/\a2u sLt s (l.take (i+1))=a2u sLt s (l.take i)++[l.getD i []]:=by
   rw [hx];cases h:(l.take i).any (sLt s) with
   | true=>exact ⟨by rw [q2F,h];rfl,b8D h⟩
   | false=>
     rw [h] at hc;have hc2:sLt s (l.getD i [])=false:=hc;exact ⟨by rw [q2F,h,q2T,hc2];rfl,c5E h hc2⟩
  (refine lpK_n2 (⟨i+1,by omega,hn⟩) _ (by simp only [go_sem];try rfl) ?_;simp only [go_sem,hS0]<;>repeat' first|apply V2|exact on'|fail)
  all_goals first|rw [h3.1]|rw [h3.2]
 ·omega
 ·rw [i4 (by omega)] at hc hm ⊢;rw [b8F hm hc]
 ·rw [i4 (by omega)] at hc hm ⊢;rw [b8E hm hc]
noncomputable def a7B:CT:=s3 (fun (x:(List (List UInt8))×(List UInt8)) h=>b5q x.1 x.2 h)
@[go_sem] def c3O:=fun l s=>nm' (fP' a7B rfl (l,s))
def b5a (l:List c8) (hpre:l.length < 1099511627776):spZ 229 [(false,[k6 l])] [] (.one (false,[a7F (a5s l)])):=by
 refine sy' Tryz.func229 (q' 2 [ao (.mov (.k (.v false [.nl [.s []]])))] (q' 6 [ao (.bsl 1 0 [.s] []),aV 3] (.seq (q' 7 [am 0,aN,aK 0] (.block 0 (.loop (q' 10 [ar 9 8] (.seq (.cond (.t 10) .skip (.exit 0)) (.seq (.block 1 (q' 11 [ai 3 7 9,aE 3,ax (w' 5 [.s,.i .i64,.s]),aS 3 5 12] (q' 13 [aG 0 5,ao (.bin .neq (.t 14) (.k (.v false [.c (.s [])])))] (.cond (.t 15) (g' 16 [am 3,aG 0 5,ao (.bsl 1 1 [.s] [(0,.t 18)]),ao (.app 1 16 [.s] (.t 16) (.t 19)),aV 3]) .skip)))) (g' 21 [aA 9]))))))) (q' 22 [am 3,ac 230 [22]] (q' 24 [am 3,ac 231 [24],aV 2] .ret))))) [.t 2] [(230,[0],b0l),(231,[0],b3l)] ?_;intro hb hE;simp only [go_sem];repeat' first|apply cj'|intro hc|exact om'|fail
 refine lk' false [(false,3,0,100006)] [7,8] [] [] (fun i:{i:Nat // i<=l.length}=>[(3,.v false [.ow 100006]),(9,slV (.i .i64 i.1))]) nl' (fun i=>[(100006,[.s []],(j9 (l.take i.1)).map y3)]) (fun i=>l.length - i.1) (⟨0,by simp⟩) ?_;intro S0 hS0 i;obtain ⟨i,hi⟩:=i;simp only [go_sem,hS0];repeat' first|apply cj'|intro hc|exact om'|fail
 all_goals have hl:=a1I (l.take i)
 all_goals rw [q0H] at hl
 ·omega
 ·(refine lpK_n2 (⟨i+1,by omega⟩) _ (by simp only [go_sem];try rfl) ?_;simp only [go_sem,hS0]<;>repeat' first|apply V2|exact on'|fail)
  all_goals rw [j9,j9,a7U (p:=z6) c8.Var default (by omega) (by rw [z6,hc];rfl)]
 ·(refine lpK_n2 (⟨i+1,by omega⟩) _ (by simp only [go_sem];try rfl) ?_;simp only [go_sem,hS0]<;>repeat' first|apply V2|exact on'|fail)
  all_goals rw [j9,j9,b3C (p:=z6) c8.Var default (by omega) (by rw [z6,hc];rfl)]
 ·omega
 ·rw [i4 (by omega),c6d]
noncomputable def a3O:CT:=s3 (fun (x:(List c8)) h=>b5a x h)
@[go_sem] def c3z:=fun l=>nm' (fP' a3O rfl l)
@[go_sem] def a3X:ACode:=q' 4 [ao (.mov (.k (.v false [.nl [.s []]])))] (.seq (q' 7 [am 1,aN,aK 0] (.block 0 (.loop (q' 10 [ar 9 8] (.seq (.cond (.t 10) .skip (.exit 0)) (.seq (.block 1
 (q' 11 [ai 3 7 9,aE 3,ax (w' 6 [.s,.i .i64,.s]),aS 3 6 12] (q' 13 [aG 0 6,ao (.bin .neq (.t 14) (.k (.v false [.c (.s [])])))] (.cond (.t 15) (g' 16 [am
 0,aG 0 6,ac 313 [16,18],aV 0]) .skip)))) (g' 20 [aA 9]))))))) (q' 21 [am 0,aV 4] .ret))
def b2i (a:List (List UInt8)) (l:List c8) (hpre:a.length+l.length < 1099511627776):spZ 250 [(false,[a2i a]),(false,[k6 l])] [] (.one (false,[a2i (o8 sLt a (j9 l))])):=by
 refine sx' false true none Tryz.func250 a3X [.t 4] [(313,[],a7B)] ?_;intro hb hE;simp only [go_sem];repeat' first|apply cj'|intro hc|exact om'|fail
 refine lq' false [7,8] [] [] (fun i:{i:Nat // i<=l.length}=>[(0,.v false [.c (a2i (o8 sLt a (j9 (l.take i.1))))]),(9,slV (.i .i64 i.1))]) nl' nl' (fun i=>l.length - i.1) (⟨0,by simp⟩) ?_;intro S0 hS0 i;obtain ⟨i,hi⟩:=i;simp only [go_sem,hS0];repeat' first|apply cj'|intro hc|exact om'|fail
 all_goals have hl:=a1I (l.take i)
 all_goals have hl2:=a1D sLt (j9 (l.take i)) a
 all_goals rw [q0H] at hl
 ·omega
 ·(refine lpK_n2 (⟨i+1,by omega⟩) _ rfl ?_;simp only [go_sem,hS0]<;>repeat' first|apply V2|exact on'|fail)
  all_goals rw [show j9 (l.take (i+1))=j9 (l.take i)++[(l.getD i default).Var] by rw [j9,j9,a7U (p:=z6) c8.Var default (by omega) (by rw [z6,hc];rfl)],b6d]
 ·(refine lpK_n2 (⟨i+1,by omega⟩) _ rfl ?_;simp only [go_sem,hS0]<;>repeat' first|apply V2|exact on'|fail)
  all_goals rw [show j9 (l.take (i+1))=j9 (l.take i) by rw [j9,j9,b3C (p:=z6) c8.Var default (by omega) (by rw [z6,hc];rfl)]]
 ·rw [i4 (by omega)]
noncomputable def a1c:CT:=s3 (fun (x:(List (List UInt8))×(List c8)) h=>b2i x.1 x.2 h)
@[go_sem] def a3e:=fun a l=>nm' (fP' a1c rfl (a,l))
def a5o (l:c7):Bool:=l.Kind==3&&l.Op==1
inductive Bd (r:c6):List UInt8->Prop
 | base {l:c7} {t:c8}:l∈r.Body->(l.Kind==1)=true->t∈l.Atom.Args->z6 t=true->Bd r t.Var
 | leftV {l:c7}:l∈r.Body->a5o l=true->z6 l.A=true->z6 l.B=false->Bd r l.A.Var
 | leftB {l:c7}:l∈r.Body->a5o l=true->z6 l.A=true->Bd r l.B.Var->Bd r l.A.Var
 | rightV {l:c7}:l∈r.Body->a5o l=true->z6 l.B=true->z6 l.A=false->Bd r l.B.Var
 | rightB {l:c7}:l∈r.Body->a5o l=true->z6 l.B=true->Bd r l.A.Var->Bd r l.B.Var
def w9 (out:List (List UInt8)) (t:c8):Bool:=t.Var==[] || out.contains t.Var
def z5 (out:List (List UInt8)) (l:c7):Prop:=a5o l=true->(w9 out l.A || w9 out l.B)=true->∀ x∈j9 [l.A,l.B],x∈out
def a2N (r:c6) (out:List (List UInt8)):Prop:=∀ l∈r.Body,(l.Kind==1)=true->∀ x∈j9 l.Atom.Args,x∈out
def a0p {l:List c8} {x:List UInt8}:x∈j9 l↔∃ t∈l,z6 t=true/\t.Var=x:=by
 simp only [j9,q1F,q1M,and_assoc]
def Bd.mem {r:c6} {out:List (List UInt8)} (hb:a2N r out) (hc:∀ l∈r.Body,z5 out l) {v:List UInt8} (h:Bd r v):v∈out:=by
 induction h with
 | base hl hk ht hv=>exact hb _ hl hk _ (a0p.2 ⟨_,ht,hv,rfl⟩)
 | leftV hl he hv hn=>
   refine hc _ hl he ?_ _ (a0p.2 ⟨_,by simp,hv,rfl⟩);simp only [z6,q2D] at hn;simp [w9,hn]
 | leftB hl he hv _ ih=>
   refine hc _ hl he ?_ _ (a0p.2 ⟨_,by simp,hv,rfl⟩);simp [w9,ih]
 | rightV hl he hv hn=>
   refine hc _ hl he ?_ _ (a0p.2 ⟨_,q2C _ (V6.2 rfl),hv,rfl⟩);simp only [z6,q2D] at hn;simp [w9,hn]
 | rightB hl he hv _ ih=>
   refine hc _ hl he ?_ _ (a0p.2 ⟨_,q2C _ (V6.2 rfl),hv,rfl⟩);simp [w9,ih]
def b0e (r:c6):List (List UInt8):=r.Body.flatMap fun l=>j9 l.Atom.Args++j9 [l.A,l.B]
def Bd.all {r:c6} {v:List UInt8} (h:Bd r v):v∈b0e r:=by
 have hm:∀ {l:c7} {x:List UInt8},l∈r.Body->(x∈j9 l.Atom.Args\/x∈j9 [l.A,l.B])->x∈b0e r:=fun hl hx=>q2Z.2 ⟨_,hl,W6.2 hx⟩
 cases h with
 | base hl hk ht hv=>exact hm hl (.inl (a0p.2 ⟨_,ht,hv,rfl⟩))
 | leftV hl he hv hn=>exact hm hl (.inr (a0p.2 ⟨_,by simp,hv,rfl⟩))
 | leftB hl he hv hn=>exact hm hl (.inr (a0p.2 ⟨_,by simp,hv,rfl⟩))
 | rightV hl he hv hn=>exact hm hl (.inr (a0p.2 ⟨_,q2C _ (V6.2 rfl),hv,rfl⟩))
 | rightB hl he hv hn=>exact hm hl (.inr (a0p.2 ⟨_,q2C _ (V6.2 rfl),hv,rfl⟩))
open Classical in
noncomputable def a1s (r:c6):List (List UInt8):=(o8 sLt [] (b0e r)).filter fun v=>decide (Bd r v)
def b5C (r:c6):SS sLt (a1s r):=SS.filter (SS.puts s7 SS.nil) _
open Classical in
def a4U {r:c6} {v:List UInt8}:v∈a1s r↔Bd r v:=by
 rw [a1s,q1M,z9,V5];exact ⟨fun h=>h.2,fun h=>⟨.inr h.all,h⟩⟩
def c0B {r:c6} {out:List (List UInt8)} (hs:SS sLt out) (hB:∀ v∈out,Bd r v) (hb:a2N r out) (hc:∀ l∈r.Body,z5 out l):out=a1s r:=
 SS.uniq s7 hs (b5C r) fun x=>⟨fun h=>a4U.2 (hB x h),fun h=>(a4U.1 h).mem hb hc⟩
def c0A {r:c6} {out:List (List UInt8)} (hB:∀ v∈out,Bd r v) (hb:a2N r out) (hc:∀ l∈r.Body,z5 out l):Lib.compact (a9G sLt out)=a1s r:=
 a9k s7 (b5C r) fun x=>⟨fun h=>(a4U.1 h).mem hb hc,fun h=>a4U.2 (hB x h)⟩
def c5T {α:Type} [DecidableEq α] {lt:α->α->Bool} {l:List α} {s:α} (h:(a2a lt l s).length=l.length):s∈l:=by
 unfold a2a at h;split at h
 ·assumption
 ·have e:=congrArg List.length (q1Q (p:=fun x=>!lt s x) (l:=l));simp only [W7,V3] at e h;omega
def c5S {α:Type} [DecidableEq α] (lt:α->α->Bool) (l:List α) (s:α):l.length<=(a2a lt l s).length:=by
 unfold a2a;split
 ·omega
 ·have e:=congrArg List.length (q1Q (p:=fun x=>!lt s x) (l:=l));simp only [W7,V3] at e ⊢;omega
def c2z {α:Type} [DecidableEq α] (lt:α->α->Bool):∀ (r l:List α),l.length<=(o8 lt l r).length:=by
 intro r
 induction r with
 | nil=>intro l;exact q0A _
 | cons a r ih=>
   intro l;have:=ih (a2a lt l a);have:=c5S lt l a;simp only [o8,q1X] at *;omega
def c4j {α:Type} [DecidableEq α] {lt:α->α->Bool}:∀ {r l:List α},(o8 lt l r).length=l.length->o8 lt l r=l/\∀ x∈r,x∈l:=by
 intro r
 induction r with
 | nil=>intro l _;exact ⟨rfl,by simp⟩
 | cons a r ih=>
   intro l h;have h1:=c2z lt r (a2a lt l a);have h2:=c5S lt l a;simp only [o8,q1X] at h h1;have ha:a∈l:=c5T (lt:=lt) (by omega);have e:a2a lt l a=l:=by rw [a2a,if_pos ha]
   rw [e] at h;have h3:=ih (l:=l) h;simp only [o8,q1X,e];refine ⟨h3.1,fun x hx=>?_⟩;rcases V7.1 hx with rfl|hx
   ·exact ha
   ·exact h3.2 x hx
def a8P {r:c6} (h:k9 r=true):(b0e r).length<=64:=by
 have h8:r.Body.length<=8:=by
  simp only [k9,W3,V5] at h;omega
 have ha:∀ l∈r.Body,(j9 l.Atom.Args++j9 [l.A,l.B]).length<=8:=by
  intro l hl;simp only [k9,W3,q0P] at h;have hb:=h.2 l hl;have h1:=a1I l.Atom.Args;have h2:=a1I [l.A,l.B];have h6:l.Atom.Args.length<=6:=by
   rw [a1L] at hb;cases hk:(l.Kind==3)<;>rw [hk] at hb<;>simp only [W5,W4,W3,V5,beq_iff_eq,a2M] at hb<;>omega
  simp only [W7,V3,q0T] at *;omega
 unfold b0e
 revert ha h8
 generalize r.Body=b;intro h8 ha;have:∀ b:List c7,(∀ l∈b,(j9 l.Atom.Args++j9 [l.A,l.B]).length<=8)->(b.flatMap fun l=>j9 l.Atom.Args++j9 [l.A,l.B]).length<=8 * b.length:=by
  intro b
  induction b with
  | nil=>intro _;simp
  | cons x b ih=>
    intro hb;have h1:=hb x (by simp);have h2:=ih fun l hl=>hb l (by simp [hl])
    simp only [q2M,W7,V3] at *;omega
 have:=this b ha;omega
def b2h (l:List (List UInt8)) (s:List UInt8) (hpre:l.length < 1099511627776):spZ 313 [(false,[a7F l]),(false,[.s s])] [] (.one (false,[a7F (a2a sLt l s)])):=by
 refine sy' Tryz.func313 a5F [.t 4] [] ?_;intro hb hE;simp only [go_sem];repeat' first|apply cj'|intro hc|exact om'|fail
 refine lk' false [(false,5,0,100010)] [0,1,10,11] [] [1] (fun i:{i:Nat // i<=l.length/\¬ s∈l.take i}=>[(5,.v false [.ow 100010]),(6,slV (.b ((l.take i.1).any (sLt s)))),(12,slV (.i .i64 i.1))]) nl' (fun i=>[(100010,[.s []],(a2u sLt s (l.take i.1)).map y3)]) (fun i=>l.length - i.1) (⟨0,by simp⟩) ?_;intro S0 hS0 i;obtain ⟨i,hi,hm⟩:=i;simp only [go_sem,hS0];repeat' first|apply cj'|intro hc|exact om'|fail
 all_goals have hl:=c2k sLt s (l.take i)
 all_goals rw [q0H] at hl
 ·have hm2:s∈l:=by
   rw [beq_iff_eq] at hc;have:=t7 (l:=l) [] (i:=i) (by omega);rw [<- hc,this];exact q0R _
  rw [a2a,if_pos hm2]
 ·omega
 ·omega
 ·have hx:=j7 (l:=l) [] (i:=i) (by omega);have hn:¬ s∈l.take (i+1):=by rw [hx];simp only [W6,V6];rintro (h|h);exact hm h;subst h;simp at *
  have h1:(l.take (i+1)).any (sLt s)=true:=by rw [hx,q2F,hc.1,q2T,show sLt s (l.getD i [])=true from hc.2];rfl
  have h2:a2u sLt s (l.take (i+1))=a2u sLt s (l.take i)++[s]++[l.getD i []]:=by rw [hx,c2j hc.1 hc.2]
  (refine lpK_n2 (⟨i+1,by omega,hn⟩) _ (by simp only [go_sem];try rfl) ?_;simp only [go_sem,hS0]<;>repeat' first|apply V2|exact on'|fail)
  all_goals first|rw [h1]|rw [h2]
 ·omega
 ·have hx:=j7 (l:=l) [] (i:=i) (by omega);have hn:¬ s∈l.take (i+1):=by rw [hx];simp only [W6,V6];rintro (h|h);exact hm h;subst h;simp at *
  have h3:(l.take (i+1)).any (sLt s)=(l.take i).any (sLt s)/\a2u sLt s (l.take (i+1))=a2u sLt s (l.take i)++[l.getD i []]:=by
   rw [hx];cases h:(l.take i).any (sLt s) with
   | true=>exact ⟨by rw [q2F,h];rfl,b8D h⟩
   | false=>
     rw [h] at hc;have hc2:sLt s (l.getD i [])=false:=hc;exact ⟨by rw [q2F,h,q2T,hc2];rfl,c5E h hc2⟩
  (refine lpK_n2 (⟨i+1,by omega,hn⟩) _ (by simp only [go_sem];try rfl) ?_;simp only [go_sem,hS0]<;>repeat' first|apply V2|exact on'|fail)
  all_goals first|rw [h3.1]|rw [h3.2]
 ·omega
 ·rw [i4 (by omega)] at hc hm ⊢;rw [b8F hm hc]
 ·rw [i4 (by omega)] at hc hm ⊢;rw [b8E hm hc]
noncomputable def a5j:CT:=s3 (fun (x:(List (List UInt8))×(List UInt8)) h=>b2h x.1 x.2 h)
@[go_sem] def c0P:=fun l s=>nm' (fP' a5j rfl (l,s))
def a9x (a:List (List UInt8)) (l:List c8) (hpre:a.length+l.length < 1099511627776):spZ 250 [(false,[a7F a]),(false,[k6 l])] [] (.one (false,[a7F (o8 sLt a (j9 l))])):=by
 refine sy' Tryz.func250 a3X [.t 4] [(313,[0],a5j)] ?_;intro hb hE;simp only [go_sem];repeat' first|apply cj'|intro hc|exact om'|fail
 refine lk' false [(false,0,0,100000)] [7,8] [] [] (fun i:{i:Nat // i<=l.length}=>[(0,.v false [.ow 100000]),(9,slV (.i .i64 i.1))]) nl' (fun i=>[(100000,[.s []],(o8 sLt a (j9 (l.take i.1))).map y3)]) (fun i=>l.length - i.1) (⟨0,by simp⟩) ?_;intro S0 hS0 i;obtain ⟨i,hi⟩:=i;simp only [go_sem,hS0];repeat' first|apply cj'|intro hc|exact om'|fail
 all_goals have hl:=a1I (l.take i)
 all_goals have hl2:=a1D sLt (j9 (l.take i)) a
 all_goals rw [q0H] at hl
 ·omega
 ·(refine lpK_n2 (⟨i+1,by omega⟩) _ (by simp only [go_sem];try rfl) ?_;simp only [go_sem,hS0]<;>repeat' first|apply V2|exact on'|fail)
  all_goals rw [show j9 (l.take (i+1))=j9 (l.take i)++[(l.getD i default).Var] by rw [j9,j9,a7U (p:=z6) c8.Var default (by omega) (by rw [z6,hc];rfl)],b6d]
 ·(refine lpK_n2 (⟨i+1,by omega⟩) _ (by simp only [go_sem];try rfl) ?_;simp only [go_sem,hS0]<;>repeat' first|apply V2|exact on'|fail)
  all_goals rw [show j9 (l.take (i+1))=j9 (l.take i) by rw [j9,j9,b3C (p:=z6) c8.Var default (by omega) (by rw [z6,hc];rfl)]]
 ·rw [i4 (by omega)]
noncomputable def a1x:CT:=s3 (fun (x:(List (List UInt8))×(List c8)) h=>a9x x.1 x.2 h)
@[go_sem] def a6m:=fun a l=>nm' (fP' a1x rfl (a,l))
@[go_sem] def l16T_pair (a:List (List UInt8)) (v1:List UInt8) (n1:Int) (s1 v2:List UInt8) (n2:Int) (s2:List UInt8):a1x [(false,[a7F a]),(false,[.sl false j3 [[.s v1,.i .i64 n1,.s s1],[.s v2,.i .i64 n2,.s s2]]])]=some (a.length+2 < 1099511627776,[],.one (false,[a7F (o8 sLt a (j9 [⟨v1,⟨n1,s1⟩⟩,⟨v2,⟨n2,s2⟩⟩]))])):=a6m a [⟨v1,⟨n1,s1⟩⟩,⟨v2,⟨n2,s2⟩⟩]
def b2m (w:List (List UInt8)) (t:c8):spZ 251 [(false,[a2i w]),(true,[.s t.Var,.i .i64 t.Val.N,.s t.Val.S])] [] (.one (false,[.b (w9 w t)])):=by
 refine sy' Tryz.func251 (q' 0 [ax (o' 3 (.box 3 (.t 1))),ab 4 false] (q' 5 [aG 0 3,ao (.bin .eql (.t 6) (.k (.v false [.c (.s [])]))),am 7,au (.mov (.t 0)) 8 false,au (.fa 0 (.t 3)) 8 false,au (.ld false 1 (.t 10)) 8 false,au (.call 159 [.t 9,.t 11]) 8 false,ao (.pick (.t 8) (bb true) (.t 12)),aV 4] .ret)) [.t 4] [(159,[],a3S)] ?_;intro hb hE;simp only [go_sem];repeat' first|apply cj'|intro hc|exact om'|fail
 all_goals rfl
noncomputable def a5n:CT:=j6 (fun (x:(List (List UInt8))×c8)=>b2m x.1 x.2)
@[go_sem] def c0T:=fun w x0 x1 x2=>nm' (fQ' a5n rfl (w,⟨x0,⟨x1,x2⟩⟩))
def ss_len {out l:List (List UInt8)} (hs:SS sLt out) (h:∀ v∈out,v∈l):out.length<=l.length:=by
 have e:out=(o8 sLt [] l).filter (fun v=>out.contains v):=SS.uniq s7 hs (SS.filter (SS.puts s7 SS.nil) _) fun x=>⟨fun hx=>q1M.2 ⟨z9.2 (.inr (h x hx)),by simpa using hx⟩,fun hx=>by simpa using (q1M.1 hx).2⟩
 have e1:=congrArg List.length e;have e2:=q2A (fun v=>out.contains v) (o8 sLt [] l);have e3:=a1D sLt l [];simp only [q0T] at e3;omega
def c0z {r:c6} (h:k9 r=true) {out:List (List UInt8)} (hs:SS sLt out) (hB:∀ v∈out,Bd r v):out.length<=64:=
 q2G (ss_len hs fun v hv=>(hB v hv).all) (a8P h)
def a4H {r:c6} (h:k9 r=true) {l:c7} (hl:l∈r.Body):l.Atom.Args.length<=6:=by
 simp only [k9,W3,q0P] at h;have hb:=h.2 l hl;rw [a1L] at hb;cases hk:(l.Kind==3)<;>rw [hk] at hb<;>simp only [W5,W4,W3,V5,beq_iff_eq,a2M] at hb<;>omega
def c1w {r:c6} {l:c7} (hl:l∈r.Body) (hk:(l.Kind==1)=true) {x:List UInt8} (hx:x∈j9 l.Atom.Args):Bd r x:=by
 obtain ⟨t,ht,hv,rfl⟩:=a0p.1 hx;exact Bd.base hl hk ht hv
def bd_step {r:c6} {l:c7} (hl:l∈r.Body) (he:a5o l=true) {out:List (List UInt8)} (hB:∀ v∈out,Bd r v) (hk:(w9 out l.A || w9 out l.B)=true) {x:List UInt8} (hx:x∈j9 [l.A,l.B]):Bd r x:=by
 obtain ⟨t,ht,hv,rfl⟩:=a0p.1 hx;have hA:w9 out l.A=true->z6 l.A=false\/Bd r l.A.Var:=by
  intro h;simp only [w9,q1I,q2R] at h;rcases h with h|h
  ·exact .inl (by simp [z6,h])
  ·exact .inr (hB _ h)
 have hBB:w9 out l.B=true->z6 l.B=false\/Bd r l.B.Var:=by
  intro h;simp only [w9,q1I,q2R] at h;rcases h with h|h
  ·exact .inl (by simp [z6,h])
  ·exact .inr (hB _ h)
 simp only [q1I] at hk;simp only [V7,q3W,or_false] at ht;rcases ht with rfl|rfl
 ·rcases hk with h|h
  ·rcases hA h with h|h
   ·rw [h] at hv;cases hv
   ·exact h
  ·rcases hBB h with h|h
   ·exact Bd.leftV hl he hv h
   ·exact Bd.leftB hl he hv h
 ·rcases hk with h|h
  ·rcases hA h with h|h
   ·exact Bd.rightV hl he hv h
   ·exact Bd.rightB hl he hv h
  ·rcases hBB h with h|h
   ·rw [h] at hv;cases hv
   ·exact h
def b0G (r:c6):spZ 157 [(true,[.i .i64 r.Kind,.s r.Head.Name,k6 r.Head.Args,a0k r.Body])] [] (.one (false,[a2i (bif k9 r then a1s r else [])])):=by
 refine sx' false true none Tryz.func157 (q' 1 [ao (.box 4 (.t 0)),ao (.mov (.k (.v false [.nl [.s []]])))] (q' 8 [ao (.bsl 1 0 [.s] []),aV 3] (.seq (q' 9 [ae 4 1,ac 73 [9],ao (.not (.t 10))] (.cond (.t 11) (q' 12 [am 3,aV 2] .ret) .skip)) (.seq (q' 13 [aG 3 1,aN,aK 0] (.block 0 (.loop (q' 17 [ar 16 15] (.seq (.cond (.t 17) .skip (.exit 0)) (.seq (.block 1 (q' 18 [am 16,aV 4] (q' 19 [aG 3 1,am 4,aI 10,aG 0 22,ao (.bin .eql (.t 24) (k' 1))] (.cond (.t 25) (g' 26 [am 3,aG 3 1,am 4,aI 10,aF 1,aG 1 31,ac 250 [26,33],aV 3]) .skip)))) (g' 35 [aA 16]))))))) (.seq (q' 5 [ao (.mov (.k (.v false [.c (.i .i64 (-1))])))] (.block 2 (.loop (.seq (q' 36 [aM [5,3],aN,ar 36 38] (.cond (.t 39) .skip (.exit 2))) (.block 3 (q' 40 [am 3,aN,aV 5] (q' 42 [aG 3 1,aN,aK 0] (.block 4 (.loop (q' 46 [ar 45 44] (.seq (.cond (.t 46) .skip (.exit 4)) (.seq (.block 5 (q' 47 [am 45,aV 6] (q' 48 [aG 3 1,am 6,aI 10,aE 10,ax (w' 7 [.i .i64,.s,.sl j3,.i .i64,.s,.i .i64,.s, .s,.i .i64,.s]),aS 10 7 52] (q' 53 [aG 0 7,ao (.bin .eql (.t 54) (k' 3)),am 55,au (.fa 3 (.t 7)) 56 true,au (.ld false 1 (.t 57)) 56 true,au (.bin .eql (.t 58) (k' 1)) 56 true,ao (.pick (.t 56) (.t 59) (bb false)),am 60,au (.mov (.t 3)) 61 true,au (.fa 4 (.t 7)) 61 true,au (.ld true 3 (.t 63)) 61 true,au (.call 251 [.t 62,.t 64]) 61 true,au (.mov (.t 65)) 61 true,au (.mov (.t 3)) 66 false,au (.fa 7 (.t 7)) 66 false,au (.ld true 3 (.t 68)) 66 false,au (.call 251 [.t 67,.t 69]) 66 false,au (.pick (.t 66) (bb true) (.t 70)) 61 true,ao (.pick (.t 61) (.t 71) (bb false))] (.cond (.t 72) (g' 73 [am 3,af 4 7,aE 3,af 7 7,aE 3,ao (.bsl 3 2 [.s,.i .i64,.s] [(0,.t 75),(1,.t 77)]),ac 250 [73,78],aV 3]) .skip))))) (g' 80 [aA 45]))))))))))))) (q' 81 [am 3,aV 2] .ret)))))) [.t 2] [(73,[],a0Q),(250,[0],a1x),(251,[],a5n)] ?_;intro hb hE;simp only [go_sem];repeat' first|apply cj'|intro hc|exact om'|fail
 ·rw [hc];rfl
 have hR:k9 r=true:=hc;have hb8:r.Body.length<=8:=by
  simp only [k9,W3,V5] at hR;omega
 rw [hR];clear hc;refine lk' false [(false,3,0,100006)] [1,15] [2] [] (fun i:{p:Nat×List (List UInt8) // p.1<=r.Body.length/\SS sLt p.2/\(∀ v∈p.2,Bd r v)/\∀ l∈r.Body.take p.1,(l.Kind==1)=true->∀ x∈j9 l.Atom.Args,x∈p.2}=>[(3,.v false [.ow 100006]),(16,slV (.i .i64 i.1.1))]) nl' (fun i=>[(100006,[.s []],i.1.2.map y3)]) (fun i=>r.Body.length - i.1.1) (⟨(0,[]),by simp,SS.nil,by simp,by simp⟩) ?_;intro S0 hS0 i;obtain ⟨⟨i,o⟩,hi,hs,hB,hI⟩:=i;simp only at hi hs hB hI;have hlen:=c0z hR hs hB;simp only [go_sem,hS0];repeat' first|apply cj'|intro hc|exact om'|fail
 ·have:=a4H hR (l:=r.Body.getD i default) (by rw [t7 default (by omega)];exact q0R _);omega
 ·have hm:r.Body.getD i default∈r.Body:=by rw [t7 default (by omega)];exact q0R _
  have h2:∀ v∈o8 sLt o (j9 (r.Body.getD i default).Atom.Args),Bd r v:=fun v hv=>(z9.1 hv).elim (hB v) (c1w hm hc)
  have h3:∀ l∈r.Body.take (i+1),(l.Kind==1)=true->∀ x∈j9 l.Atom.Args,x∈o8 sLt o (j9 (r.Body.getD i default).Atom.Args):=by
   intro l hl hk x hx;rw [j7 default (by omega),W6,V6] at hl;rcases hl with hl|rfl
   ·exact z9.2 (.inl (hI l hl hk x hx))
   ·exact z9.2 (.inr hx)
  exact nk0 ⟨(i+1,o8 sLt o (j9 (r.Body.getD i default).Atom.Args)),by simp only;omega,SS.puts s7 hs,h2,h3⟩
 ·have h3:∀ l∈r.Body.take (i+1),(l.Kind==1)=true->∀ x∈j9 l.Atom.Args,x∈o:=by
   intro l hl hk x hx;rw [j7 default (by omega),W6,V6] at hl;rcases hl with hl|rfl
   ·exact hI l hl hk x hx
   ·rw [hc] at hk;cases hk
  exact nk0 ⟨(i+1,o),by simp only;omega,hs,hB,h3⟩
 rw [i4 (by omega)] at hI;clear hc hi;refine lk' false [(false,3,0,100006)] [1] [2] [] (fun i:{p:Int×List (List UInt8) // -1<=p.1/\p.1<=p.2.length/\SS sLt p.2/\(∀ v∈p.2,Bd r v)/\a2N r p.2/\(p.1=p.2.length->∀ l∈r.Body,z5 p.2 l)}=>[(3,.v false [.ow 100006]),(5,slV (.i .i64 i.1.1))]) nl' (fun i=>[(100006,[.s []],i.1.2.map y3)]) (fun i=>(64 - i.1.1).toNat) (⟨(-1,o),by simp,by simp only;omega,hs,hB,hI,by intro h;simp only at h;omega⟩) ?_;intro S1 hS1 i;obtain ⟨⟨n,o1⟩,hn0,hn,hs1,hB1,hI1,hC1⟩:=i;simp only at hn0 hn hs1 hB1 hI1 hC1;have hlen1:=c0z hR hs1 hB1;simp only [go_sem,hS0,hS1];repeat' first|apply cj'|intro hc|exact om'|fail
 ·skip
  refine lk' false [(false,3,0,100006)] [1,5,44] [2] [] (fun i:{p:Nat×List (List UInt8) // p.1<=r.Body.length/\SS sLt p.2/\(∀ v∈p.2,Bd r v)/\a2N r p.2/\o1.length<=p.2.length/\(p.2.length=o1.length->∀ l∈r.Body.take p.1,z5 p.2 l)}=>[(3,.v false [.ow 100006]),(45,slV (.i .i64 i.1.1))]) nl' (fun i=>[(100006,[.s []],i.1.2.map y3)]) (fun i=>r.Body.length - i.1.1) (⟨(0,o1),by simp,hs1,hB1,hI1,by simp,by simp⟩) ?_;intro S2 hS2 i;obtain ⟨⟨i,o2⟩,hi,hs2,hB2,hI2,hge,hC2⟩:=i;simp only at hi hs2 hB2 hI2 hge hC2;have hlen2:=c0z hR hs2 hB2;simp only [go_sem,hS0,hS1,hS2];repeat' first|apply cj'|intro hc|exact om'|fail
  ·have hm:r.Body.getD i default∈r.Body:=by rw [t7 default (by omega)];exact q0R _
   have he:a5o (r.Body.getD i default)=true:=by rw [a5o,hc.1.1,hc.1.2];rfl
   have hk:(w9 o2 (r.Body.getD i default).A || w9 o2 (r.Body.getD i default).B)=true:=by rw [q1I];exact hc.2
   have hg:=c2z sLt (j9 [(r.Body.getD i default).A,(r.Body.getD i default).B]) o2;have h2:∀ v∈o8 sLt o2 (j9 [(r.Body.getD i default).A,(r.Body.getD i default).B]),Bd r v:=fun v hv=>(z9.1 hv).elim (hB2 v) (bd_step hm he hB2 hk)
   have h3:a2N r (o8 sLt o2 (j9 [(r.Body.getD i default).A,(r.Body.getD i default).B])):=fun l hl hk x hx=>z9.2 (.inl (hI2 l hl hk x hx))
   have h4:(o8 sLt o2 (j9 [(r.Body.getD i default).A,(r.Body.getD i default).B])).length=o1.length->∀ l∈r.Body.take (i+1),z5 (o8 sLt o2 (j9 [(r.Body.getD i default).A,(r.Body.getD i default).B])) l:=by
    intro hq l hl;have hs3:=c4j (lt:=sLt) (r:=j9 [(r.Body.getD i default).A,(r.Body.getD i default).B]) (l:=o2) (by omega);rw [hs3.1];rw [j7 default (by omega),W6,V6] at hl;rcases hl with hl|rfl
    ·exact hC2 (by omega) l hl
    ·exact fun _ _=>hs3.2
   (refine lpK_n2 (⟨(i+1,o8 sLt o2 (j9 [(r.Body.getD i default).A,(r.Body.getD i default).B])),by simp only;omega,SS.puts s7 hs2,h2,h3,by simp only;omega,h4⟩) _ (by simp only [go_sem,hS0,hS1];try rfl) ?_;simp only [go_sem,hS0,hS1,hS2]<;>repeat' first|apply V2|exact on'|fail)
  ·have h4:o2.length=o1.length->∀ l∈r.Body.take (i+1),z5 o2 l:=by
    intro hq l hl;rw [j7 default (by omega),W6,V6] at hl;rcases hl with hl|rfl
    ·exact hC2 hq l hl
    ·intro h5 h6;rw [a5o] at h5;rw [h5,h6] at hc;cases hc
   (refine lpK_n2 (⟨(i+1,o2),by simp only;omega,hs2,hB2,hI2,hge,h4⟩) _ (by simp only [go_sem,hS0,hS1];try rfl) ?_;simp only [go_sem,hS0,hS1,hS2]<;>repeat' first|apply V2|exact on'|fail)
  ·have h4:(o1.length:Int)=o2.length->∀ l∈r.Body,z5 o2 l:=by
    intro hq l hl;rw [i4 (by omega)] at hC2;exact hC2 (by omega) l hl
   (refine lpK_n2 (⟨((o1.length:Int),o2),by simp only;omega,by simp only;omega,hs2,hB2,hI2,h4⟩) _ (by simp only [go_sem,hS0,hS1];try rfl) ?_;simp only [go_sem,hS0,hS1,hS2]<;>repeat' first|apply V2|exact on'|fail)
 ·rw [c0B hs1 hB1 hI1 (hC1 (by omega))]<;>rfl
noncomputable def a4m:CT:=j6 (fun (x:c6)=>b0G x)
@[go_sem] def b9J:=fun x0 x1 x2 x3=>nm' (fQ' a4m rfl ⟨x0,⟨x1,x2⟩,x3⟩)
def a6x (r:c6) (out:List (List UInt8)):Nat:=((b0e r).filter fun v=>!out.contains v).length
def miss_le (r:c6) (out:List (List UInt8)):a6x r out<=(b0e r).length:=q2A _ _
def b5R {α:Type} {p q:α->Bool}:∀ {l:List α},(∀ x,q x=true->p x=true)->(∃ x∈l,p x=true/\q x=false)->(l.filter q).length < (l.filter p).length
 | [],_,h=>by obtain ⟨x,hx,_⟩:=h;simp at hx
 | a::l,hpq,h=>by
   have hle:(l.filter q).length<=(l.filter p).length:=by
    clear h
    induction l with
    | nil=>simp
    | cons b l ih=>
      have:=hpq b;cases hq:q b<;>cases hp:p b<;>simp_all<;>omega
   obtain ⟨x,hx,h1,h2⟩:=h;rcases V7.1 hx with rfl|hx
   ·simp only [List.filter_cons,h1,h2,if_true,q1H,if_false,V3];omega
   ·have ih:=b5R (l:=l) hpq ⟨x,hx,h1,h2⟩;have:=hpq a;cases hq:q a<;>cases hp:p a<;>simp_all<;>omega
def miss_lt {r:c6} {out:List (List UInt8)} {v:List UInt8} (hv:v∈b0e r) (hn:out.contains v=false):a6x r (out++[v]) < a6x r out:=by
 refine b5R (fun x hx=>?_) ⟨v,hv,by rw [hn];rfl,by simp⟩;simp only [q0Y,List.contains_eq_mem,W6,q1N,not_or] at hx ⊢;exact hx.1
def b6j (l:List c8):(a5s l).length<=l.length:=by
 have h1:=a1D sLt (j9 l) [];have h2:=a1I l;simp only [q0T] at h1;unfold a5s;omega
def b5Y {l:List c8} {x:List UInt8}:x∈a5s l↔x∈j9 l:=by
 rw [a5s,z9];simp
def c3R {o:List (List UInt8)} {l:c7} (h0:w9 o l.B=true->z6 l.A=true->l.A.Var∈o) (h1:w9 o l.A=true->z6 l.B=true->l.B.Var∈o):z5 o l:=by
 intro _ hk x hx;obtain ⟨t,ht,hv,rfl⟩:=a0p.1 hx;have hs:∀ t:c8,z6 t=true->w9 o t=true->t.Var∈o:=by
  intro t hv h;simp only [w9,q1I,q2R] at h;rcases h with h|h
  ·simp [z6,h] at hv
  ·exact h
 simp only [V7,q3W,or_false] at ht;rw [q1I] at hk;rcases ht with rfl|rfl
 ·rcases hk with h|h
  ·exact hs _ hv h
  ·exact h0 h hv
 ·rcases hk with h|h
  ·exact h1 h hv
  ·exact hs _ hv h
def b7X {r:c6} (hV:(b0e r).length<=64) {o1 o3:List (List UInt8)} {g3:Bool} {v:List UInt8} (hl:o3.length+a6x r o3<=112) (hB:∀ v∈o3,Bd r v) (hI:a2N r o3) (hC:g3=false->o3=o1) (hM:g3=true->a6x r o3 < a6x r o1) (hv:Bd r v) (hn:o3.contains v=false):(o3++[v]).length+a6x r (o3++[v])<=112/\(∀ x∈o3++[v],Bd r x)/\a2N r (o3++[v])/\a6x r (o3++[v]) < a6x r o1:=by
 have h1:=miss_lt hv.all hn;refine ⟨by simp only [W7,V3,q0T];omega,fun x hx=>?_,fun l hl hk x hx=>W6.2 (.inl (hI l hl hk x hx)), ?_⟩
 ·rcases W6.1 hx with h|h
  ·exact hB x h
  ·rw [V6.1 h];exact hv
 ·cases g3 with
  | false=>rw [hC rfl] at h1 ⊢;exact h1
  | true=>have:=hM rfl;omega
def b6U (r:c6) (hpre:k9 r=true):spZ 137 [(true,[.i .i64 r.Kind,.s r.Head.Name,k6 r.Head.Args,a0k r.Body])] [] (.one (false,[a7F (a1s r)])):=by
 refine sy' Tryz.func137 (q' 1 [ao (.box 4 (.t 0)),ao (.mov (.k (.v false [.nl [.s []]])))] (q' 12 [ao (.bsl 1 0 [.s] []),aV 3] (.seq (q' 13 [aG 3 1,aN,aK 0] (.block 0 (.loop (q' 17 [ar 16 15] (.seq (.cond (.t 17) .skip (.exit 0)) (.seq (.block 1 (q' 18 [ai 10 14 16,aE 10,ax (w' 5 [.i .i64,.s,.sl j3,.i .i64,.s,.i .i64,.s,.s,.i .i64,.s]),aS 10 5 19] (q' 20 [aG 0 5,ao (.bin .eql (.t 21) (k' 1))] (.cond (.t 22) (g' 23 [am 3,af 1 5,aG 1 24,ac 229 [26],ao (.app 1 16 [.s] (.t 23) (.t 27)),aV 3]) .skip)))) (g' 29 [aA 16]))))))) (.seq (q' 0 [ab 6 true] (.block 2 (.loop (.seq (q' 30 [am 6] (.cond (.t 30) .skip (.exit 2))) (.block 3 (q' 0 [ab 6 false] (q' 31 [aG 3 1,aN,aK 0] (.block 4 (.loop (q' 35 [ar 34 33] (.seq (.cond (.t 35) .skip (.exit 4)) (.seq (.block 5 (q' 36 [ai 10 32 34,aE 10,ax (w' 8 [.i .i64,.s,.sl j3,.i .i64,.s,.i .i64,.s,.s,.i .i64,.s]),aS 10 8 37] (.seq (q' 38 [aG 0 8,ao (.bin .neq (.t 39) (k' 3)),am 40,au (.fa 3 (.t 8)) 41 false,au (.ld false 1 (.t 42)) 41 false,au (.bin .neq (.t 43) (k' 1)) 41 false,ao (.pick (.t 41) (bb true) (.t 44))] (.cond (.t 45) (.exit 5) .skip)) (q' 46 [af 4 8,aE 3,af 7 8,aE 3,ao (.bld [.s,.i .i64,.s,.s,.i .i64,.s] [(0,3,.t 47),(3,3,.t 49)]),af 7 8,aE 3,af 4 8,aE 3,ao (.bld [.s,.i .i64,.s,.s,.i .i64,.s] [(0,3,.t 52),(3,3,.t 54)]),ao (.bsl 6 2 [.s,.i .i64,.s,.s,.i .i64,.s] [(0,.t 50),(1,.t 55)]),aN,aK 0] (.block 6 (.loop (q' 59 [ar 58 57] (.seq (.cond (.t 59) .skip (.exit 6)) (.seq (.block 7 (q' 60 [ai 6 56 58,aE 6,ax (w' 10 [.s,.i .i64,.s, .s,.i .i64,.s]),aS 6 10 61] (q' 62 [ao (.ib 2 3 (.t 10) (k' 1)),aG 0 62,ao (.bin .eql (.t 64) (.k (.v false [.c (.s [])]))),am 65,au (.mov (.t 3)) 66 false,au (.ib 2 3 (.t 10) (k' 1)) 66 false,au (.fa 0 (.t 68)) 66 false,au (.ld false 1 (.t 69)) 66 false,au (.call 49 [.t 67,.t 70]) 66 false,ao (.pick (.t 66) (bb true) (.t 71)),aV 11] (q' 73 [aM [11,73],au (.ib 2 3 (.t 10) (k' 0)) 74 true,au (.fa 0 (.t 75)) 74 true,au (.ld false 1 (.t 76)) 74 true,au (.bin .neq (.t 77) (.k (.v false [.c (.s [])]))) 74 true,ao (.pick (.t 74) (.t 78) (bb false)),am 79,au (.mov (.t 3)) 80 true,au (.ib 2 3 (.t 10) (k' 0)) 80 true,au (.fa 0 (.t 82)) 80 true,au (.ld false 1 (.t 83)) 80 true,au (.call 49 [.t 81,.t 84]) 80 true,au (.not (.t 85)) 80 true,ao (.pick (.t 80) (.t 86) (bb false))] (.cond (.t 87) (q' 88 [am 3,ao (.ib 2 3 (.t 10) (k' 0)),aG 0 89,ao (.bsl 1 1 [.s] [(0,.t 91)]),ao (.app 1 16 [.s] (.t 88) (.t 92)),aV 3] (g' 0 [ab 6 true])) .skip))))) (g' 94 [aA 58])))))))))) (g' 95 [aA 34]))))))))))))) (q' 96 [am 3,ac 230 [96]] (q' 98 [am 3,ac 231 [98],aV 2] .ret)))))) [.t 2] [(229,[],a3O),(49,[],c5m),(230,[0],b0l),(231,[0],b3l)] ?_;intro hb hE;have hb8:r.Body.length<=8:=by
  simp only [k9,W3,V5] at hpre;omega
 have hV:=a8P hpre;simp only [go_sem];repeat' first|apply cj'|intro hc|exact om'|fail
 refine lk' false [(false,3,0,100006)] [1,14,15] [2] [] (fun i:{p:Nat×List (List UInt8) // p.1<=r.Body.length/\p.2.length<=6 * p.1/\(∀ v∈p.2,Bd r v)/\∀ l∈r.Body.take p.1,(l.Kind==1)=true->∀ x∈j9 l.Atom.Args,x∈p.2}=>[(3,.v false [.ow 100006]),(16,slV (.i .i64 i.1.1))]) nl' (fun i=>[(100006,[.s []],i.1.2.map y3)]) (fun i=>r.Body.length - i.1.1) (⟨(0,[]),by simp,by simp,by simp,by simp⟩) ?_;intro S0 hS0 i;obtain ⟨⟨i,o⟩,hi,hlen,hB,hI⟩:=i;simp only at hi hlen hB hI;simp only [go_sem,hS0];repeat' first|apply cj'|intro hc|exact om'|fail
 ·have:=a4H hpre (l:=r.Body.getD i default) (by rw [t7 default (by omega)];exact q0R _);omega
 ·have:=a4H hpre (l:=r.Body.getD i default) (by rw [t7 default (by omega)];exact q0R _);have:=b6j (r.Body.getD i default).Atom.Args;omega
 ·have hm:r.Body.getD i default∈r.Body:=by rw [t7 default (by omega)];exact q0R _
  have h6:=a4H hpre hm;have hv6:=b6j (r.Body.getD i default).Atom.Args;have h2:∀ v∈o++a5s (r.Body.getD i default).Atom.Args,Bd r v:=fun v hv=>(W6.1 hv).elim (hB v) fun h=>c1w hm hc (b5Y.1 h)
  have h3:∀ l∈r.Body.take (i+1),(l.Kind==1)=true->∀ x∈j9 l.Atom.Args,x∈o++a5s (r.Body.getD i default).Atom.Args:=by
   intro l hl hk x hx;rw [j7 default (by omega),W6,V6] at hl;rcases hl with hl|rfl
   ·exact W6.2 (.inl (hI l hl hk x hx))
   ·exact W6.2 (.inr (b5Y.2 hx))
  (refine lpK_n2 (⟨(i+1,o++a5s (r.Body.getD i default).Atom.Args),by simp only;omega,by simp only [W7];omega,h2,h3⟩) _ (by simp only [go_sem];try rfl) ?_;simp only [go_sem,hS0]<;>repeat' first|apply V2|exact on'|fail)
  all_goals rw [q1A]
 ·have h3:∀ l∈r.Body.take (i+1),(l.Kind==1)=true->∀ x∈j9 l.Atom.Args,x∈o:=by
   intro l hl hk x hx;rw [j7 default (by omega),W6,V6] at hl;rcases hl with hl|rfl
   ·exact hI l hl hk x hx
   ·rw [hc] at hk;cases hk
  exact nk0 ⟨(i+1,o),by simp only;omega,by simp only;omega,hB,h3⟩
 rw [i4 (by omega)] at hI;clear hc;have hms:=miss_le r o;refine lk' false [(false,3,0,100006)] [1] [2] [] (fun i:{p:Bool×List (List UInt8) // p.2.length+a6x r p.2<=112/\(∀ v∈p.2,Bd r v)/\a2N r p.2/\(p.1=false->∀ l∈r.Body,z5 p.2 l)}=>[(3,.v false [.ow 100006]),(6,slV (.b i.1.1))]) nl' (fun i=>[(100006,[.s []],i.1.2.map y3)]) (fun i=>2 * a6x r i.1.2+(bif i.1.1 then 1 else 0)) (⟨(true,o),by simp only;omega,hB,hI,by intro h;cases h⟩) ?_;intro S1 hS1 i;obtain ⟨⟨g,o1⟩,hl1,hB1,hI1,hC1⟩:=i;simp only at hl1 hB1 hI1 hC1;simp only [go_sem,hS0,hS1];repeat' first|apply cj'|intro hc|exact om'|fail
 ·skip
  refine lk' false [(false,3,0,100006)] [1,32,33] [2] [] (fun i:{p:Nat×Bool×List (List UInt8) // p.1<=r.Body.length/\p.2.2.length+a6x r p.2.2<=112/\(∀ v∈p.2.2,Bd r v)/\a2N r p.2.2/\(p.2.1=false->p.2.2=o1/\∀ l∈r.Body.take p.1,z5 o1 l)/\(p.2.1=true->a6x r p.2.2 < a6x r o1)}=>[(3,.v false [.ow 100006]),(6,slV (.b i.1.2.1)),(34,slV (.i .i64 i.1.1))]) nl' (fun i=>[(100006,[.s []],i.1.2.2.map y3)]) (fun i=>r.Body.length - i.1.1) (⟨(0,false,o1),by simp,hl1,hB1,hI1,by simp,by intro h;cases h⟩) ?_;intro S2 hS2 i;obtain ⟨⟨i,g2,o2⟩,hi2,hl2,hB2,hI2,hC2,hM2⟩:=i;simp only at hi2 hl2 hB2 hI2 hC2 hM2;simp only [go_sem,hS0,hS1,hS2];repeat' first|apply cj'|intro hc|exact om'|fail
  ·have h3:g2=false->o2=o1/\∀ l∈r.Body.take (i+1),z5 o1 l:=by
    intro hg;refine ⟨(hC2 hg).1,fun l hl=>?_⟩;rw [j7 default (by omega),W6,V6] at hl;rcases hl with hl|rfl
    ·exact (hC2 hg).2 l hl
    ·intro h5;simp only [a5o,W3] at h5;rcases hc with h|h
     ·simp only [bne,h5.1] at h;cases h
     ·simp only [bne,h5.2] at h;cases h
   (refine lpK_n2 (⟨(i+1,g2,o2),by simp only;omega,hl2,hB2,hI2,h3,hM2⟩) _ (by simp only [go_sem,hS0,hS1];try rfl) ?_;simp only [go_sem,hS0,hS1,hS2]<;>repeat' first|apply V2|exact on'|fail)
  ·skip
   refine lk' false [(false,3,0,100006)] [1,32,33,34,56,57] [2] [7168] (fun i:{p:Nat×Bool×List (List UInt8) // p.1<=2/\p.2.2.length+a6x r p.2.2<=112/\(∀ v∈p.2.2,Bd r v)/\a2N r p.2.2/\(p.2.1=false->p.2.2=o1/\(∀ l∈r.Body.take i,z5 o1 l)/\(0 < p.1->w9 o1 (r.Body.getD i default).B=true->z6 (r.Body.getD i default).A=true->(r.Body.getD i default).A.Var∈o1)/\(1 < p.1->w9 o1 (r.Body.getD i default).A=true->z6 (r.Body.getD i default).B=true->(r.Body.getD i default).B.Var∈o1))/\(p.2.1=true->a6x r p.2.2 < a6x r o1)}=>[(3,.v false [.ow 100006]),(6,slV (.b i.1.2.1)),(58,slV (.i .i64 i.1.1))]) nl' (fun i=>[(100006,[.s []],i.1.2.2.map y3)]) (fun i=>2 - i.1.1) (⟨(0,g2,o2),by simp,hl2,hB2,hI2,fun hg=>⟨(hC2 hg).1,(hC2 hg).2,by simp,by simp⟩,hM2⟩) ?_;intro S3 hS3 i;obtain ⟨⟨k,g3,o3⟩,hk3,hl3,hB3,hI3,hC3,hM3⟩:=i;simp only at hk3 hl3 hB3 hI3 hC3 hM3;have hm:r.Body.getD i default∈r.Body:=by rw [t7 default (by omega)];exact q0R _
   have he:a5o (r.Body.getD i default)=true:=by
    simp only [bne,q2D] at hc;rw [a5o,hc.1,hc.2];rfl
   rcases (show k=0\/k=1\/k=2 by omega) with rfl|rfl|rfl
   ·simp only [go_sem,hS0,hS1,hS2,hS3];repeat' first|apply cj'|intro hc|exact om'|fail
    ·have hv:Bd r (r.Body.getD i default).A.Var:=by
      rcases hc.1.1 with h|h
      ·exact Bd.leftV hm he (by rw [z6,hc.1.2];rfl) (by rw [z6,h];rfl)
      ·exact Bd.leftB hm he (by rw [z6,hc.1.2];rfl) (hB3 _ (q2R.1 h))
     have ha:=b7X hV hl3 hB3 hI3 (fun hg=>(hC3 hg).1) hM3 hv hc.2
     (refine lpK_n2 (⟨(1,true,o3++[(r.Body.getD i default).A.Var]),by simp,ha.1,ha.2.1,ha.2.2.1,fun h=>absurd h (by simp),fun _=>ha.2.2.2⟩) _ (by simp only [go_sem,hS0,hS1,hS2];try rfl) ?_;simp only [go_sem,hS0,hS1,hS2,hS3]<;>repeat' first|apply V2|exact on'|fail)
     all_goals rw [q1A];rfl
    ·have h9:g3=false->w9 o1 (r.Body.getD i default).B=true->z6 (r.Body.getD i default).A=true->(r.Body.getD i default).A.Var∈o1:=by
      intro hg h5 h6;rw [<- (hC3 hg).1] at h5 ⊢;rw [w9] at h5;simp only [z6] at h6;rw [h5,h6] at hc;simpa using hc
     (refine lpK_n2 (⟨(1,g3,o3),by simp,hl3,hB3,hI3,fun hg=>⟨(hC3 hg).1,(hC3 hg).2.1,fun _=>h9 hg,by simp⟩,hM3⟩) _ (by simp only [go_sem,hS0,hS1,hS2];try rfl) ?_;simp only [go_sem,hS0,hS1,hS2,hS3]<;>repeat' first|apply V2|exact on'|fail)
   ·simp only [go_sem,hS0,hS1,hS2,hS3];repeat' first|apply cj'|intro hc|exact om'|fail
    ·have hv:Bd r (r.Body.getD i default).B.Var:=by
      rcases hc.1.1 with h|h
      ·exact Bd.rightV hm he (by rw [z6,hc.1.2];rfl) (by rw [z6,h];rfl)
      ·exact Bd.rightB hm he (by rw [z6,hc.1.2];rfl) (hB3 _ (q2R.1 h))
     have ha:=b7X hV hl3 hB3 hI3 (fun hg=>(hC3 hg).1) hM3 hv hc.2
     (refine lpK_n2 (⟨(2,true,o3++[(r.Body.getD i default).B.Var]),by simp,ha.1,ha.2.1,ha.2.2.1,fun h=>absurd h (by simp),fun _=>ha.2.2.2⟩) _ (by simp only [go_sem,hS0,hS1,hS2];try rfl) ?_;simp only [go_sem,hS0,hS1,hS2,hS3]<;>repeat' first|apply V2|exact on'|fail)
     all_goals rw [q1A];rfl
    ·have h9:g3=false->w9 o1 (r.Body.getD i default).A=true->z6 (r.Body.getD i default).B=true->(r.Body.getD i default).B.Var∈o1:=by
      intro hg h5 h6;rw [<- (hC3 hg).1] at h5 ⊢;rw [w9] at h5;simp only [z6] at h6;rw [h5,h6] at hc;simpa using hc
     (refine lpK_n2 (⟨(2,g3,o3),by simp,hl3,hB3,hI3,fun hg=>⟨(hC3 hg).1,(hC3 hg).2.1,(fun _=>(hC3 hg).2.2.1 (by simp)),fun _=>h9 hg⟩,hM3⟩) _ (by simp only [go_sem,hS0,hS1,hS2];try rfl) ?_;simp only [go_sem,hS0,hS1,hS2,hS3]<;>repeat' first|apply V2|exact on'|fail)
   ·simp only [go_sem,hS0,hS1,hS2,hS3];repeat' first|apply cj'|intro hc|exact om'|fail
    have h9:g3=false->o3=o1/\∀ l∈r.Body.take (i+1),z5 o1 l:=by
     intro hg;obtain ⟨h5,h6,h7,h8⟩:=hC3 hg;refine ⟨h5,fun l hl=>?_⟩;rw [j7 default (by omega),W6,V6] at hl;rcases hl with hl|rfl
     ·exact h6 l hl
     ·exact c3R (h7 (by simp)) (h8 (by simp))
    (refine lpK_n2 (⟨(i+1,g3,o3),by simp only;omega,hl3,hB3,hI3,h9,hM3⟩) _ (by simp only [go_sem,hS0,hS1,hS2];try rfl) ?_;simp only [go_sem,hS0,hS1,hS2,hS3]<;>repeat' first|apply V2|exact on'|fail)
  ·have h3:g2=false->∀ l∈r.Body,z5 o2 l:=by
    intro hg l hl;have h5:=hC2 hg;rw [i4 (by omega)] at h5;rw [h5.1];exact h5.2 l hl
   cases g2 with
   | false=>
     have h7:=(hC2 rfl).1
     (refine lpK_n2 (⟨(false,o2),hl2,hB2,hI2,h3⟩) _ (by simp only [go_sem,hS0,hS1,hS2];try rfl) ?_;simp only [go_sem,hS0,hS1,hS2]<;>repeat' first|apply V2|exact on'|fail)
     all_goals (subst h7;rw [show g=true by assumption];simp only [W5];omega)
   | true=>
     have h7:=hM2 rfl
     (refine lpK_n2 (⟨(true,o2),hl2,hB2,hI2,h3⟩) _ (by simp only [go_sem,hS0,hS1,hS2];try rfl) ?_;simp only [go_sem,hS0,hS1,hS2]<;>repeat' first|apply V2|exact on'|fail)
     all_goals (rw [show g=true by assumption];simp only [W5];omega)
 ·rw [c0A hB1 hI1 (hC1 hc)]
noncomputable def a9e:CT:=s3 (fun (x:c6) h=>b6U x h)
@[go_sem] def c4A:=fun x0 x1 x2 x3=>nm' (fP' a9e rfl ⟨x0,⟨x1,x2⟩,x3⟩)
end Go.Aw
