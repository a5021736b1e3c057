/- The reader of programs: how far each function goes. No condition. -/
import Derived.Test.YtokefohpgeajaaaGreatwfU73
import Derived.Test.YtokefohpgeajaaaGreatrBx12wf
namespace Go.Aw
set_option maxHeartbeats 4000000
open Go.Proofs
set_option linter.all false
set_option maxRecDepth 100000
structure Adv(r q:c8):Prop where
 ok:p7 r->p7 q
 t:q.toks=r.toks
 e:q.e=r.e
 i:r.i<=q.i
 c:q.code=0->r.code=0
 b:0<=r.code/\r.code<=7->0<=q.code/\q.code<=7
 p:(∀t∈r.toks,0<=t.At/\t.At<r.e)->0<=r.e->(r.code=0\/0<=r.p/\r.p<=r.e)->q.code=0\/0<=q.p/\q.p<=q.e
def Adv.rfl'{r:c8}:Adv r r:=⟨id,rfl,rfl,by omega,id,id,fun _ _=>id⟩
def Adv.trans{r q s:c8}(h:Adv r q)(g:Adv q s):Adv r s:=⟨g.ok ∘ h.ok,g.t.trans h.t,g.e.trans h.e,Int.le_trans h.i g.i,h.c ∘ g.c,g.b ∘ h.b,fun h1 h2 h3=>g.p (by rw[h.t,h.e];exact h1) (by rw[h.e];exact h2) (h.p h1 h2 h3)⟩
def tok_rng{r:c8}(h:∀t∈r.toks,0<=t.At/\t.At<r.e)(h2:0<=r.e)(i:Int):0<=(l8 r i).At/\(l8 r i).At<=r.e:=by
 rw[l8];by_cases hi:i.toNat<r.toks.length
 ·rw[n8 default hi];have:=h _ (q0T hi);omega
 ·rw[List.getD,q3A (by omega)];exact⟨Int.le_refl 0,h2⟩
def a0U(r:c8)(c:Int)(hb:0<=c/\c<=7:=by decide):Adv r (l9 r c):=
 ⟨fun h=>a1e h c,(a2f r c).1,by rw[l9];cases r.code==0<;>rfl,by rw[(a2f r c).2];omega,by
  rw[l9];cases hc:r.code==0 with
  | true=>intro _;simpa using hc
  | false=>exact id,by
  rw[l9];cases hc:r.code==0 with
  | true=>exact fun _=>hb
  | false=>exact id,fun h1 h2 h3=>by
  rw[l9];cases hc:r.code==0 with
  | true=>
    refine .inr ?_;show 0<=(bif decide (r.i<r.toks.length)then(l8 r r.i).At else r.e)/\(bif decide (r.i<r.toks.length)then(l8 r r.i).At else r.e)<=r.e;cases decide (r.i<r.toks.length)with
    | true=>exact tok_rng h1 h2 r.i
    | false=>exact⟨h2,Int.le_refl _⟩
  | false=>exact h3⟩
def c3L{r:c8}{c:Int}(h:c≠0):(l9 r c).code≠0:=by
 rw[l9];cases hc:r.code==0 with
 | true=>exact h
 | false=>simpa using hc
def a0Q{r:c8}(h:r.i<r.toks.length):Adv r (v5 r):=⟨fun k=>a0m k h,rfl,rfl,by show r.i<=r.i+1;omega,id,id,fun _ _=>id⟩
def a6j(r:c8)(s:List UInt8):Adv r (t9 r s):=by
 cases hs:isS r r.i s with
 | true=>rw[a9M hs];exact a0Q (a0G hs).2
 | false=>rw[b3g hs];exact a0U r 6
def take_on{r:c8}{s:List UInt8}(h:(t9 r s).code=0):(t9 r s).i=r.i+1:=by
 cases hs:isS r r.i s with
 | true=>rw[a9M hs];rfl
 | false=>rw[b3g hs]at h;exact absurd h (c3L (by decide))
def c0u(r:c8):Adv r (w6 r):=by
 rw[w6];cases hw:a8h r with
 | true=>
   refine a0Q (a4V ?_);simp only[a8h,q0U,q1A]at hw;exact hw.1
 | false=>exact a0U r 6
def a4G(r:c8)(full:Bool):Adv r (o0 r full):=by
 rw[o0];cases hb:a0D r with
 | true=>exact a0U r 6
 | false=>
   cases full with
   | true=>exact a0U r 7
   | false=>
     refine a0Q (a4V ?_);simp only[a0D,q1A]at hb;exact hb.1
def c0r:∀(n:Nat) (r:c8) (a:List d4),Adv r (a8p n r a).1
 | 0,r,a=>Adv.rfl'
 | n+1,r,a=>by
   rw[a8p];cases hc:r.code==0 with
   | false=>exact Adv.rfl'
   | true=>
     rw[W4];cases hs:isS (o0 r ((a.length:Int)==6)) (o0 r ((a.length:Int)==6)).i a0s with
     | false=>exact a4G r _
     | true=>exact((a4G r _).trans (a0Q (a0G hs).2)).trans (c0r n _ _)
def a4E(r:c8):Adv r (y3 r).1:=by
 rw[y3];have h:=(c0u r).trans (a6j (w6 r) a0C);cases hs:isS (t9 (w6 r) a0C) (t9 (w6 r) a0C).i a8x with
 | true=>exact h.trans (a0Q (a0G hs).2)
 | false=>exact(h.trans (c0r _ _ _)).trans (a6j _ _)
def op_lt{r:c8}(h:(opR r==0)=false):r.i<r.toks.length:=by
 rw[opR]at h;cases h1:isS r r.i [61]with
 | true=>exact(a0G h1).2
 | false=>
   cases h2:isS r r.i [33,61]with
   | true=>exact(a0G h2).2
   | false=>
     cases h3:isS r r.i [60]with
     | true=>exact(a0G h3).2
     | false=>
       cases h4:isS r r.i [60,61]with
       | true=>exact(a0G h4).2
       | false=>rw[h1,h2,h3,h4]at h;exact absurd h (by decide)
def a1V(r:c8):Adv r (v7 r).1:=by
 rw[v7];cases h1:(!a0Y r&&((l8 r r.i).Kind==1&&(l8 r r.i).S==b7W))with
 | true=>
   simp only[W7,q0U]at h1;exact(a0Q (a4V h1.1)).trans (a4E _)
 | false=>
   cases h2:(!a0Y r&&((l8 r r.i).Kind==1&&(!a4U (l8 r r.i).S&&isS r (r.i+1) a0C)))with
   | true=>exact a4E r
   | false=>
     show Adv r (o0 (bif opR (o0 r false)==0 then l9 (o0 r false) 6 else v5 (o0 r false)) false);cases h3:opR (o0 r false)==0 with
     | true=>exact((a4G r _).trans (a0U _ _)).trans (a4G _ _)
     | false=>exact((a4G r _).trans (a0Q (op_lt h3))).trans (a4G _ _)
def a6i(r:c8)(n:Int):Adv r (y7 r n):=by
 rw[y7];cases n==8&&litY r with
 | true=>exact a0U r 7
 | false=>exact Adv.rfl'
def c0s:∀(n:Nat) (r:c8) (a:List d7),Adv r (a3P n r a).1
 | 0,r,a=>Adv.rfl'
 | n+1,r,a=>by
   rw[a3P];cases hc:r.code==0 with
   | false=>exact Adv.rfl'
   | true=>
     rw[W4];have h:=(a6i r a.length).trans (a1V _);cases hs:isS (v7 (y7 r a.length)).1 (v7 (y7 r a.length)).1.i a0s with
     | false=>exact h
     | true=>exact(h.trans (a0Q (a0G hs).2)).trans (c0s n _ _)
def a4F(r:c8):Adv r (a0N r):=by
 rw[a0N];cases hs:isS r r.i a5u||isS r r.i a4c with
 | false=>exact Adv.rfl'
 | true=>
   refine a0Q ?_;simp only[q2B]at hs;rcases hs with hs|hs<;>exact(a0G hs).2
def a5x(r:c8)(a:List d7):c8×List d7:=a3P (a0R r) r a
def a7j(h:c8):c8×List d7:=bif isS h h.i sgIf then a5x (v5 h) []else(h,[])
def a7k(r:c8):a1R r=(t9 (a7j (y3 (a0N r)).1).1 b5R,⟨a4a r,(y3 (a0N r)).2,(a7j (y3 (a0N r)).1).2⟩):=rfl
def b7B(h:c8):Adv h (a7j h).1:=by
 rw[a7j];cases hs:isS h h.i sgIf with
 | false=>exact Adv.rfl'
 | true=>exact(a0Q (a0G hs).2).trans (c0s _ _ _)
def c8U(r:c8):Adv r (a1R r).1:=by
 rw[a7k];exact(((a4F r).trans (a4E _)).trans (b7B _)).trans (a6j _ _)
def rule_on{r:c8}(h:(a1R r).1.code=0):r.i<(a1R r).1.i:=by
 rw[a7k]at h ⊢;have h1:=take_on h;have h2:=(((a4F r).trans (a4E _)).trans (b7B _)).i;show r.i<(t9 (a7j (y3 (a0N r)).1).1 b5R).i;have h1:(t9 (a7j (y3 (a0N r)).1).1 b5R).i=(a7j (y3 (a0N r)).1).1.i+1:=h1;omega
def c9A{r:c8}(h:a9i r=true):r.i<r.toks.length:=by
 simp only[a9i,q0U,q1A]at h;exact a4V h.1
def c0t(r:c8)(k:Int):Adv r (a0E r k).1:=by
 rw[a0E];have h:=(c0u r).trans (a6j (w6 r) a1p);show Adv r (bif a9i (t9 (w6 r) a1p)then(bif decide (6<(l8 (t9 (w6 r) a1p) (t9 (w6 r) a1p).i).N)then(l9 (t9 (w6 r) a1p) 7,_)else(t9 (v5 (t9 (w6 r) a1p)) b5R,_))else(l9 (t9 (w6 r) a1p) 6,_)).1;cases hd:a9i (t9 (w6 r) a1p)with
 | false=>exact h.trans (a0U _ _)
 | true=>
   rw[W4];cases decide (6<(l8 (t9 (w6 r) a1p) (t9 (w6 r) a1p).i).N)with
   | true=>exact h.trans (a0U _ _)
   | false=>exact(h.trans (a0Q (c9A hd))).trans (a6j _ _)
def b3Z:∀(n m:Nat) {r:c8} {a:List d7},p7 r->r.toks.length<n+r.i.toNat->r.toks.length<m+r.i.toNat->a3P n r a=a3P m r a
 | 0,_,r,a,h,h1,_=>by obtain⟨⟨h0,h2⟩,_⟩:=h;omega
 | _,0,r,a,h,_,h1=>by obtain⟨⟨h0,h2⟩,_⟩:=h;omega
 | n+1,m+1,r,a,h,h1,h2=>by
   rw[a3P,a3P];cases r.code==0 with
   | false=>rfl
   | true=>
     rw[W4,W4];have ha:=(a6i r a.length).trans (a1V _);cases hs:isS (v7 (y7 r a.length)).1 (v7 (y7 r a.length)).1.i a0s with
     | false=>rfl
     | true=>
       have hk:=ha.ok h;have hlt:=(a0G hs).2;rw[W4,W4];have h0:=h.1.1;have h3:=hk.1.1;have h4:=ha.i;refine b3Z n m (a0m hk hlt) ?_ ?_
       ·show(v7 (y7 r a.length)).1.toks.length<n+((v7 (y7 r a.length)).1.i+1).toNat
        rw[ha.t];omega
       ·show(v7 (y7 r a.length)).1.toks.length<m+((v7 (y7 r a.length)).1.i+1).toNat
        rw[ha.t];omega
def c6y{r:c8}{a:List d7}(h:¬r.code=0):a5x r a=(r,a):=by
 rw[a5x];cases a0R r with
 | zero=>rfl
 | succ n=>rw[a3P,show(r.code==0)=false by simpa using h];rfl
def a8S{r:c8}{a:List d7}(h:p7 r)(hc:r.code=0):a5x r a=bif isS (v7 (y7 r a.length)).1 (v7 (y7 r a.length)).1.i a0s then a5x (v5 (v7 (y7 r a.length)).1) (a++[(v7 (y7 r a.length)).2])else((v7 (y7 r a.length)).1,a++[(v7 (y7 r a.length)).2]):=by
 have h0:=h.1;have hf:a0R r=(a0R r-1)+1:=by rw[a0R];omega
 rw[a5x,hf,a3P,show(r.code==0)=true by simpa using hc,W4];have ha:=(a6i r a.length).trans (a1V _);cases hs:isS (v7 (y7 r a.length)).1 (v7 (y7 r a.length)).1.i a0s with
 | false=>rfl
 | true=>
   have hk:=ha.ok h;have hlt:=(a0G hs).2;have h3:=hk.1.1;have h4:=ha.i;rw[W4,W4,a5x];refine b3Z _ _ (a0m hk hlt) ?_ ?_
   ·show(v7 (y7 r a.length)).1.toks.length<a0R r-1+((v7 (y7 r a.length)).1.i+1).toNat
    rw[ha.t,a0R];omega
   ·show(v7 (y7 r a.length)).1.toks.length<a0R (v5 (v7 (y7 r a.length)).1)+((v7 (y7 r a.length)).1.i+1).toNat
    rw[a0R];show _<(v7 (y7 r a.length)).1.toks.length+2-((v7 (y7 r a.length)).1.i+1).toNat+_;omega
attribute [local irreducible] aft blk lpK retK AW A0p
attribute [local irreducible] RM
def litP(r:c8):Bool:=r.code==0&&decide (r.i<r.toks.length)&&(r.toks.getD r.i.toNat default).Kind==1&&(r.toks.getD r.i.toNat default).S==[110,111,116]
def litQ(r:c8):Bool:=r.code==0&&decide (r.i<r.toks.length)&&(r.toks.getD r.i.toNat default).Kind==1&&!a4U (r.toks.getD r.i.toNat default).S&&isS r (r.i+1) [40]
def a9D(r:c8):(!a0Y r)=(r.code==0&&decide (r.i<r.toks.length)):=by
 rw[a0Y];cases r.code==0
 ·rfl
 ·by_cases h:r.i<r.toks.length
  ·rw[V0 h,V3 (by omega)];rfl
  ·rw[V3 h,V0 (by omega)];rfl
def lit_1{r:c8}(h:litP r=true):v7 r=((y3 (v5 r)).1,⟨2,(y3 (v5 r)).2,0,default,default⟩):=by
 have e:(!a0Y r&&((l8 r r.i).Kind==1&&(l8 r r.i).S==b7W))=true:=by rw[a9D,<-q3N];exact h
 simp only[v7,e,W4]
def lit_2{r:c8}(g:litP r=false)(h:litQ r=true):v7 r=((y3 r).1,⟨1,(y3 r).2,0,default,default⟩):=by
 have e:(!a0Y r&&((l8 r r.i).Kind==1&&(l8 r r.i).S==b7W))=false:=by rw[a9D,<-q3N];exact g
 have e2:(!a0Y r&&((l8 r r.i).Kind==1&&(!a4U (l8 r r.i).S&&isS r (r.i+1) a0C)))=true:=by rw[a9D,<-q3N,<-q3N];exact h
 simp only[v7,e,e2,W4,W6]
def lit_3{r q:c8}(g:litP r=false)(h:litQ r=false)(hq:(bif opR (o0 r false)==0 then l9 (o0 r false) 6 else v5 (o0 r false))=q):v7 r=(o0 q false,⟨3,default,opR (o0 r false),a2k r false,a2k q false⟩):=by
 have e:(!a0Y r&&((l8 r r.i).Kind==1&&(l8 r r.i).S==b7W))=false:=by rw[a9D,<-q3N];exact g
 have e2:(!a0Y r&&((l8 r r.i).Kind==1&&(!a4U (l8 r r.i).S&&isS r (r.i+1) a0C)))=false:=by rw[a9D,<-q3N,<-q3N];exact h
 simp only[v7,e,e2,W6,hq]
def b7p(r:c8)(hpre:p7 r):spZ 188 [(false,[.mp [y8 r.toks,.i .i64 r.i,.i .i64 r.e,.i .i64 r.code,.i .i64 r.p]])] [(0,(false,[.mp [y8 (((v7 r).1).toks),.i .i64 (((v7 r).1).i),.i .i64 (((v7 r).1).e),.i .i64 (((v7 r).1).code),.i .i64 (((v7 r).1).p)]]))] (.one (true,[.i .i64 (((v7 r).2).Kind),.s ((((v7 r).2).Atom).Name),c3S ((((v7 r).2).Atom).Args),.i .i64 (((v7 r).2).Op),.s ((((v7 r).2).A).Var),.i .i64 (((((v7 r).2).A).Val).N),.s (((((v7 r).2).A).Val).S),.s ((((v7 r).2).B).Var),.i .i64 (((((v7 r).2).B).Val).N),.s (((((v7 r).2).B).Val).S)])):=by
 refine sx' true false (some 0) Tryz.func188 (q' 2 [aw [.i .i64,.s,.sl j3,.i .i64,.s,.i .i64,.s,.s,.i .i64,.s]] (.seq (.seq (G' 4 [am 0,ao (.nck (.t 4)),aG 3 5,aC .eql 7 0,am 8,aH 9 true [bm 0,bo (.nck (.t 10)),bF 1,bL,bm 0,bo (.nck (.t 14)),bF 0,bL,bN,bD .lss 13 18],aP 9 19,am 20,aH 21 true [bm 0,bo (.nck (.t 22)),bF 0,bL,bm 0,bo (.nck (.t 26)),bF 1,bL,bi 4 25 29,bF 0,bL,bC .eql 32 1],aP 21 33,am 34,aH 35 true [bm 0,bo (.nck (.t 36)),bF 0,bL,bm 0,bo (.nck (.t 40)),bF 1,bL,bi 4 39 43,bF 2,bL,bY .eql 46 [110,111,116]],aP 35 47]) (ci 48 (q' 49 [am 0,ao (.nck (.t 49)),aG 1 50,aC .add 52 1,ao (.nck (.t 49)),aF 1,aS 1 55 53] (q' 56 [am 0,ac 186 [56],ao (.bld [.i .i64,.s,.sl j3,.i .i64,.s,.i .i64,.s,.s,.i .i64,.s] [(0,1,.k (.v false [.c (.i .i64 2)])),(1,2,.t 57)]),aS 10 2 58] .ret)))) (.seq (.seq (G' 59 [am 0,ao (.nck (.t 59)),aG 3 60,aC .eql 62 0,am 63,aH 64 true [bm 0,bo (.nck (.t 65)),bF 1,bL,bm 0,bo (.nck (.t 69)),bF 0,bL,bN,bD .lss 68 73],aP 64 74,am 75,aH 76 true [bm 0,bo (.nck (.t 77)),bF 0,bL,bm 0,bo (.nck (.t 81)),bF 1,bL,bi 4 80 84,bF 0,bL,bC .eql 87 1],aP 76 88,am 89,aH 90 true [bm 0,bo (.nck (.t 91)),bF 0,bL,bm 0,bo (.nck (.t 95)),bF 1,bL,bi 4 94 98,bF 2,bL,bc 96 [101],bO 102],aP 90 103,am 104,aH 105 true [bm 0,bm 0,bo (.nck (.t 107)),bF 1,bL,bC .add 110 1,bo (.call 97 [.t 106,.t 111,.k (.v false [.c (.s [40])])])],aP 105 112]) (ci 113 (q' 114 [am 0,ac 186 [114],ao (.bld [.i .i64,.s,.sl j3,.i .i64,.s,.i .i64,.s,.s,.i .i64,.s] [(0,1,.k (.v false [.c (.i .i64 1)])),(1,2,.t 115)]),aS 10 2 116] .ret))) (q' 3 [ax (o' 117 (.bld [.i .i64,.s,.sl j3,.i .i64,.s,.i .i64,.s,.s,.i .i64,.s] [(0,1,.k (.v false [.c (.i .i64 3)]))])),aw [.i .i64,.s,.sl j3,.i .i64,.s,.i .i64,.s,.s,.i .i64,.s],aS 10 3 117] (q' 118 [am 0,ao (.call 271 [.t 118,.k (.v false [.c (.b false)])]),af 4 3,aS 3 120 119] (q' 121 [am 0,ac 272 [121],af 3 3,aS 1 123 122] (.seq (q' 124 [aG 3 3,aC .eql 125 0] (cd 126 (g' 127 [am 0,ao (.call 94 [.t 127,.k (.v false [.c (.i .i64 6)])])]) (g' 129 [am 0,ao (.nck (.t 129)),aG 1 130,aC .add 132 1,ao (.nck (.t 129)),aF 1,aS 1 135 133]))) (q' 136 [am 0,ao (.call 271 [.t 136,.k (.v false [.c (.b false)])]),af 7 3,aS 3 138 137] (q' 139 [ae 10 3,aS 10 2 139] .ret))))))))) [.c 2 true 10] [(96,[],a0K),(97,[],a0O),(186,[0],a3v),(271,[0],a3w),(272,[],a9e),(94,[0],z7)] ?_;intro hb hE;obtain⟨⟨h0,h1⟩,h2⟩:=id hpre;have hw1:=a9Q hpre;have ht:=a9N hpre false;have hw2:=a9Q ht;simp only[go_sem,hw1,hw2];repeat' first|apply cj'|intro hc|exact om'|fail
 ·exact a0m hpre hc.1.1.2
 ·rw[lit_1 (r:=r) (by simp only[litP,W7,q0B];exact hc)];exact⟨⟨⟨⟨⟨⟨⟨⟨⟨⟨rfl,rfl⟩,rfl⟩,rfl⟩,rfl⟩,rfl⟩,rfl⟩,rfl⟩,rfl⟩,rfl⟩,rfl⟩
 ·rename_i g;rw[lit_2 (r:=r) g (by simp only[litQ,W7,q0B,q0U];exact hc)];exact⟨⟨⟨⟨⟨⟨⟨⟨⟨⟨rfl,rfl⟩,rfl⟩,rfl⟩,rfl⟩,rfl⟩,rfl⟩,rfl⟩,rfl⟩,rfl⟩,rfl⟩
 ·exact ht
 ·exact ht
 ·exact a1e ht 6
 ·rename_i g1 g2;rw[lit_3 (r:=r) g1 g2 (q:=l9 (o0 r false) 6) (by rw[hc];rfl)];exact⟨⟨⟨⟨⟨⟨⟨⟨⟨⟨rfl,rfl⟩,rfl⟩,rfl⟩,rfl⟩,rfl⟩,rfl⟩,rfl⟩,rfl⟩,rfl⟩,rfl⟩
 ·exact a0m ht (op_lt hc)
 ·rename_i g1 g2;rw[lit_3 (r:=r) g1 g2 (q:=v5 (o0 r false)) (by rw[hc];rfl)];exact⟨⟨⟨⟨⟨⟨⟨⟨⟨⟨rfl,rfl⟩,rfl⟩,rfl⟩,rfl⟩,rfl⟩,rfl⟩,rfl⟩,rfl⟩,rfl⟩,rfl⟩
noncomputable def a7V:CT:=p6 (fun(x:c8) h=>b7p x h)
@[go_sem] def c7h:=fun x0 x1 x2 x3 x4=>nm' (fP' a7V rfl ⟨x0,x1,x2,x3,x4⟩)
def rule_c1{r:c8}(h:isS r r.i [43]=true):a0N r=v5 r/\a4a r=2:=by
 rw[a0N,a4a,show isS r r.i a5u=true from h];exact⟨rfl,rfl⟩
def rule_c2{r:c8}(h:isS r r.i [43]=false)(g:isS r r.i [45]=true):a0N r=v5 r/\a4a r=3:=by
 rw[a0N,a4a,show isS r r.i a5u=false from h,show isS r r.i a4c=true from g];exact⟨rfl,rfl⟩
def rule_c3{r:c8}(h:isS r r.i [43]=false)(g:isS r r.i [45]=false):a0N r=r/\a4a r=1:=by
 rw[a0N,a4a,show isS r r.i a5u=false from h,show isS r r.i a4c=false from g];exact⟨rfl,rfl⟩
def rule_e{r:c8}{h:c8×f7}(e:y3 (a0N r)=h)(g:isS h.1 h.1.i [58,45]=true):a1R r=(t9 (a5x (v5 h.1) []).1 [46],⟨a4a r,h.2,(a5x (v5 h.1) []).2⟩):=by
 rw[a7k,e,a7j,show isS h.1 h.1.i sgIf=true from g];rfl
def rule_f{r:c8}{h:c8×f7}(e:y3 (a0N r)=h)(g:isS h.1 h.1.i [58,45]=false):a1R r=(t9 h.1 [46],⟨a4a r,h.2,[]⟩):=by
 rw[a7k,e,a7j,show isS h.1 h.1.i sgIf=false from g];rfl
def c3O{q:c8}{n:Int}(h:(n==8&&litY q)=true):y7 q n=l9 q 7:=by rw[y7,h];rfl
def c3N{q:c8}{n:Int}(h:(n==8&&litY q)=false):y7 q n=q:=by rw[y7,h];rfl
def b5s(r:c8)(hpre:p7 r):spZ 98 [(false,[.mp [y8 r.toks,.i .i64 r.i,.i .i64 r.e,.i .i64 r.code,.i .i64 r.p]])] [(0,(false,[.mp [y8 (((a1R r).1).toks),.i .i64 (((a1R r).1).i),.i .i64 (((a1R r).1).e),.i .i64 (((a1R r).1).code),.i .i64 (((a1R r).1).p)]]))] (.one (true,[.i .i64 (((a1R r).2).Kind),.s ((((a1R r).2).Head).Name),c3S ((((a1R r).2).Head).Args),kDLit (((a1R r).2).Body)])):=by
 refine sx' true false (some 0) Tryz.func98 (q' 2 [aw [.i .i64,.s,.sl j3,.sl a1u]] (q' 3 [ax (o' 4 (.bld [.i .i64,.s,.sl j3,.sl a1u] [(0,1,.k (.v false [.c (.i .i64 1)]))])),aw [.i .i64,.s,.sl j3,.sl a1u],aS 4 3 4] (.seq (q' 5 [aM [0,0],ao (.nck (.t 6)),aG 1 7,ao (.call 97 [.t 5,.t 9,.k (.v false [.c (.s [43])])])] (cd 10 (q' 11 [af 0 3,ax (⟨none,.st 1 (.t 11) (k' 2),none⟩)] (g' 12 [am 0,ao (.nck (.t 12)),aG 1 13,aC .add 15 1,ao (.nck (.t 12)),aF 1,aS 1 18 16])) (q' 19 [aM [0,0],ao (.nck (.t 20)),aG 1 21,ao (.call 97 [.t 19,.t 23,.k (.v false [.c (.s [45])])])] (ci 24 (q' 25 [af 0 3,ax (⟨none,.st 1 (.t 25) (k' 3),none⟩)] (g' 26 [am 0,ao (.nck (.t 26)),aG 1 27,aC .add 29 1,ao (.nck (.t 26)),aF 1,aS 1 32 30])))))) (q' 33 [am 0,ac 186 [33],af 1 3,aS 2 35 34] (.seq (q' 36 [aM [0,0],ao (.nck (.t 37)),aG 1 38,ao (.call 97 [.t 36,.t 40,.k (.v false [.c (.s [58, 45])])])] (ci 41 (q' 42 [am 0,ao (.nck (.t 42)),aG 1 43,aC .add 45 1,ao (.nck (.t 42)),aF 1,aS 1 48 46] (lO 0 (.seq (q' 49 [am 0,ao (.nck (.t 49)),aG 3 50,aC .eql 52 0] (cd 53 .skip (.exit 0))) (.block 1 (.seq (q' 54 [aG 3 3,aN,aC .eql 56 8,am 57,aH 58 true [bm 0,bc 187 [59]],aP 58 60] (ci 61 (g' 62 [am 0,ao (.call 94 [.t 62,.k (.v false [.c (.i .i64 7)])])]))) (.seq (rm' [(true,2,m' 66 0),(false,0,f' 64 3 3),(false,1,l' 65 64),(false,3,c' 67 188 [66]), (false,4,o' 68 (.bsl 10 1 [.i .i64,.s,.sl j3,.i .i64,.s,.i .i64,.s,.s,.i .i64,.s] [(0,.t 67)])),(false,5,o' 69 (.app 10 136 [.i .i64,.s,.sl j3,.i .i64,.s,.i .i64,.s,.s,.i .i64,.s] (.t 65) (.t 68))),(false,6,f' 70 3 3),(false,7,s' 1 70 69)] [[0,1,3,2,4,5,6,7],[0,1,3,4,2,5,6,7],[0,3,1,2,4,5,6,7],[0,3,1,4,2,5,6,7],[0,3,4,1,2,5,6,7]] []) (.seq (q' 71 [aM [0,0],ao (.nck (.t 72)),aG 1 73,ao (.call 97 [.t 71,.t 75,.k (.v false [.c (.s [44])])]),aO 76] (ci 77 (.exit 0))) (g' 78 [am 0,ao (.nck (.t 78)),aG 1 79,aC .add 81 1,ao (.nck (.t 78)),aF 1,aS 1 84 82])))))))))) (q' 85 [am 0,ao (.call 185 [.t 85,.k (.v false [.c (.s [46])])])] (q' 87 [ae 4 3,aS 4 2 87] .ret))))))) [.c 2 true 4] [(97,[],a0O),(186,[0],a3v),(187,[],a2Z),(94,[0],z7),(188,[0],a7V),(185,[0],a2d)] ?_;intro hb hE;have hw1:=a9Q hpre;obtain⟨h,hg⟩:∃h,y3 (a0N r)=h:=⟨_,rfl⟩
 have hk:p7 h.1:=by rw[<-hg];exact((a4F r).trans (a4E _)).ok hpre
 have hks:p7 (a0N r):=(a4F r).ok hpre;have hw2:=a9Q hk;obtain⟨p,c1⟩:∃p,isS r r.i [43]=p:=⟨_,rfl⟩
 obtain⟨m,c2⟩:∃p,isS r r.i [45]=p:=⟨_,rfl⟩
 have h3:(p=true/\(∀X,AC.c (C.i .i64 2)::AC.c (C.s h.2.Name)::X=AC.c (C.i .i64 (a4a r))::AC.c (C.s h.2.Name)::X)/\y3 ⟨r.toks,r.i+1,r.e,r.code,r.p⟩=h/\p7 ⟨r.toks,r.i+1,r.e,r.code,r.p⟩)\/((p=false/\m=true)/\(∀X,AC.c (C.i .i64 3)::AC.c (C.s h.2.Name)::X=AC.c (C.i .i64 (a4a r))::AC.c (C.s h.2.Name)::X)/\y3 ⟨r.toks,r.i+1,r.e,r.code,r.p⟩=h/\p7 ⟨r.toks,r.i+1,r.e,r.code,r.p⟩)\/((p=false/\m=false)/\(∀X,AC.c (C.i .i64 1)::AC.c (C.s h.2.Name)::X=AC.c (C.i .i64 (a4a r))::AC.c (C.s h.2.Name)::X)/\y3 r=h/\p7 r):=by
  cases p with
  | true=>have e:=rule_c1 c1;rw[e.1]at hg hks;exact .inl ⟨rfl,by rw[e.2];intro X;rfl,hg,hks⟩
  | false=>
    cases m with
    | true=>have e:=rule_c2 c1 c2;rw[e.1]at hg hks;exact .inr (.inl ⟨⟨rfl,rfl⟩,by rw[e.2];intro X;rfl,hg,hks⟩)
    | false=>have e:=rule_c3 c1 c2;rw[e.1]at hg hks;exact .inr (.inr ⟨⟨rfl,rfl⟩,by rw[e.2];intro X;rfl,hg,hks⟩)
 rcases h3 with⟨rfl,ek,e0,es⟩|⟨⟨rfl,rfl⟩,ek,e0,es⟩|⟨⟨rfl,rfl⟩,ek,e0,es⟩
 all_goals(
  simp only[go_sem,hw1,hw2,pc_susB,c1,c2,ek,e0];(repeat' first|apply cj'|intro hc|apply z6);(all_goals(try(refine(show A3U _ _ _ _ _ _ from ?_);simp only[go_sem,hw1,hw2,pc_susB,c1,c2,ek,e0]at hc ⊢;simp only[go_sem,hw1,hw2,pc_susB,c1,c2,ek,e0,A7u,A7y,A6L,A6K,A7t,A6J,nf_put_sub,A7w,A7v,nf_put_susK,nf_put_dip,nf_put_put,A7x,A7s,A6M,j8,j6,j4,j5,j7,nf_sub_sub]at hc ⊢;simp only[hc,q0R,q0I];done)));all_goals try exact om')
 all_goals(try(first|exact hpre|exact es|exact hk|exact⟨hpre,hpre.1.1⟩|exact⟨hk,hk.1.1⟩))
 all_goals(try(have hf:=rule_f hg hc;rw[hf];exact⟨⟨⟨⟨rfl,rfl⟩,rfl⟩,rfl⟩,rfl⟩))
 all_goals(
  have hlt:=(a0G hc).2;have hb:=rule_e hg hc;refine lk' true [(true,6,2,200010),(true,6,3,200012)] [0,2,3] [4] [] (fun i:{q:c8×List d7 // p7 q.1/\q.1.toks=h.1.toks/\(q.2.length:Int)<=q.1.i/\a5x q.1 q.2=a5x (v5 h.1) []}=>[]) (fun i=>[(6,[.c (.i .i64 (a4a r)),.c (.s h.2.Name),.ow 200010,.ow 200012]),(1,[.c (y8 i.1.1.toks),.c (.i .i64 i.1.1.i),.c (.i .i64 i.1.1.e),.c (.i .i64 i.1.1.code),.c (.i .i64 i.1.1.p)])]) (fun i=>[(200010,j3,h.2.Args.map d4.cells),(200012,zTLit,i.1.2.map (d7.cells true true))]) (fun i=>h.1.toks.length-i.1.1.i.toNat) (⟨(v5 h.1,[]),a0m hk hlt,rfl,(a0m hk hlt).1.1,rfl⟩) ?_;intro S0 hS0 i;obtain⟨⟨q,a⟩,hq,hqt,hal,hqe⟩:=i;simp only at hq hqt hal hqe;have hln:a.length<=6000:=by have:=hq.1.2;have:=hq.2;omega
  simp only[go_sem,hw1,hw2,pc_susB,c1,c2,ek,e0,hS0];(repeat' first|apply cj'|intro hc|apply z6);(all_goals(try((first|refine u1 1 rfl ?_);intro S hS B0 hB;simp only[go_sem,hw1,hw2,pc_susB,c1,c2,ek,e0,hS0,V7,q0O]at hS hB;(repeat(first|replace hS:=And.right hS|replace hS:=CJ.r hS));have Rr0:=congrArg (fun s:St=>s.sl 0) hS;have Rr3:=congrArg (fun s:St=>s.sl 3) hS;have Rr66:=congrArg (fun s:St=>s.sl 66) hS;have Rb1:=congrArg (fun s:St=>s.bx 1) hS;have Rb6:=congrArg (fun s:St=>s.bx 6) hS;have Ro200010:=congrArg (fun s:St=>s.ow 200010) hS;have Ro200012:=congrArg (fun s:St=>s.ow 200012) hS;clear hS;simp only[go_sem,hw1,hw2,pc_susB,c1,c2,ek,e0,hS0]at Rr0 Rr3 Rr66 Rb1 Rb6 Ro200010 Ro200012;(try clear hc);intro K hc;simp only[go_sem,hw1,hw2,pc_susB,c1,c2,ek,e0,hS0,Rr0,Rr3,Rr66,Rb1,Rb6,Ro200010,Ro200012,hB,V8,q0K,V6,q0G]at hc ⊢;simp only[go_sem,hw1,hw2,pc_susB,c1,c2,ek,e0,hS0,Rr0,Rr3,Rr66,Rb1,Rb6,Ro200010,Ro200012,hB,A7u,A7y,A6L,A6K,A7t,A6J,nf_put_sub,A7w,A7v,nf_put_susK,nf_put_dip,nf_put_put,A7x,A7s,A6M,j8,j6,j4,j5,j7,nf_sub_sub]at hc ⊢;(first|(simp only[hc,q0R,q0I];done)|((repeat' first|exact hc|apply V1);done)))));all_goals try exact om'
  ·exact hq
  ·exact hq
  ·exact a1e hq 7
  ·have hx:=(a1V _).ok (a1e hq 7);exact⟨hx,hx.1.1⟩
  ·exact(a1V _).ok (a1e hq 7)
  ·rename_i hcd hcf;have hon:=a8S hq (a:=a) (by simpa using hcd);rw[c3O (by simpa using hcf),show isS (v7 (l9 q 7)).1 (v7 (l9 q 7)).1.i a0s=false from hc,W6]at hon;rw[hb,<-hqe,hon];exact⟨⟨⟨⟨rfl,rfl⟩,rfl⟩,rfl⟩,rfl⟩
  ·rename_i hcd hcf;have hon:=a8S hq (a:=a) (by simpa using hcd);have hlt2:=(a0G hc).2;rw[c3O (by simpa using hcf),show isS (v7 (l9 q 7)).1 (v7 (l9 q 7)).1.i a0s=true from hc,W4]at hon;have hkk:=(a1V _).ok (a1e hq 7);have hst:=a0m hkk hlt2;have had:Adv q (v7 (l9 q 7)).1:=by have:=(a6i q a.length).trans (a1V _);rw[c3O (by simpa using hcf)]at this;exact this
   have hw3:=a9Q hkk;have h00:=hq.1.1
   (refine lpK_n2 (⟨(v5 (v7 (l9 q 7)).1,a++[(v7 (l9 q 7)).2]),hst,had.t.trans hqt,by show((a++[_]).length:Int)<=(v7 (l9 q 7)).1.i+1;rw[W5];have:=had.i;simp only[V5,q0X];omega,hon.symm.trans hqe⟩) _ (by simp only[go_sem,hw1,hw2,pc_susB,c1,c2,ek,e0];try rfl) ?_;simp only[go_sem,hw1,hw2,pc_susB,c1,c2,ek,e0,hS0]<;>repeat' first|apply V1|exact on'|fail)
   ·show h.1.toks.length-((v7 (l9 q 7)).1.i+1).toNat<h.1.toks.length-q.i.toNat
    have h1:=had.i;rw[had.t,hqt]at hlt2;omega
   ·exact hw3
  ·exact hq
  ·have hx:=(a1V _).ok hq;exact⟨hx,hx.1.1⟩
  ·exact(a1V _).ok hq
  ·rename_i hcd hcf;have hon:=a8S hq (a:=a) (by simpa using hcd);rw[c3N hcf,show isS (v7 q).1 (v7 q).1.i a0s=false from hc,W6]at hon;rw[hb,<-hqe,hon];exact⟨⟨⟨⟨rfl,rfl⟩,rfl⟩,rfl⟩,rfl⟩
  ·rename_i hcd hcf;have hon:=a8S hq (a:=a) (by simpa using hcd);have hlt2:=(a0G hc).2;rw[c3N hcf,show isS (v7 q).1 (v7 q).1.i a0s=true from hc,W4]at hon;have hkk:=(a1V _).ok hq;have hst:=a0m hkk hlt2;have had:Adv q (v7 q).1:=by have:=(a6i q a.length).trans (a1V _);rw[c3N hcf]at this;exact this
   have hw3:=a9Q hkk;have h00:=hq.1.1
   (refine lpK_n2 (⟨(v5 (v7 q).1,a++[(v7 q).2]),hst,had.t.trans hqt,by show((a++[_]).length:Int)<=(v7 q).1.i+1;rw[W5];have:=had.i;simp only[V5,q0X];omega,hon.symm.trans hqe⟩) _ (by simp only[go_sem,hw1,hw2,pc_susB,c1,c2,ek,e0];try rfl) ?_;simp only[go_sem,hw1,hw2,pc_susB,c1,c2,ek,e0,hS0]<;>repeat' first|apply V1|exact on'|fail)
   ·show h.1.toks.length-((v7 q).1.i+1).toNat<h.1.toks.length-q.i.toNat
    have h1:=had.i;rw[had.t,hqt]at hlt2;omega
   ·exact hw3
  ·exact hq
  ·rw[hb,<-hqe,c6y (by simpa using hc)];exact⟨⟨⟨⟨rfl,rfl⟩,rfl⟩,rfl⟩,rfl⟩
  all_goals trace_state)
noncomputable def a6I:CT:=p6 (fun(x:c8) h=>b5s x h)
@[go_sem] def c4Y:=fun x0 x1 x2 x3 x4=>nm' (fP' a6I rfl ⟨x0,x1,x2,x3,x4⟩)
def digN(n:Int):UInt8:=UInt8.ofNat (IntKind.u8.wrap (IntKind.i64.wrap (48+n))).toNat
def b2Y(n:Int):Int:=IntKind.i64.wrap (n.tdiv 10)
def b0Y:Nat->Int->List UInt8
 | 0,n=>[digN n]
 | k+1,n=>bif decide (n<10)then[digN n]else b0Y k (b2Y n)++[digN (n.tmod 10)]
def a9E(n:Int):List UInt8:=b0Y 15 n
def a7r{n:Int}(h:0<=n/\n<=281474976710655):b2Y n=n/10:=by rw[b2Y,Int.tdiv_eq_ediv_of_nonneg h.1];exact IntWalk.i64_in _ ⟨by omega,by omega⟩
def b8b:∀(k m:Nat) (n:Int),0<=n/\n<=281474976710655->n<10^(k+1)->k<=m->b0Y k n=b0Y m n
 | 0,0,n,_,_,_=>rfl
 | 0,m+1,n,_,h,_=>by rw[b0Y,b0Y,V0 (by omega)];rfl
 | k+1,0,n,_,_,h=>by omega
 | k+1,m+1,n,h,h1,h2=>by
   rw[b0Y,b0Y];by_cases hn:n<10
   ·rw[V0 hn];rfl
   ·rw[V3 hn,W6,W6,b8b k m (b2Y n) (by rw[a7r h];omega) (by
     rw[a7r h];have e:(10:Int)^(k+1+1)=10^(k+1)*10:=Int.pow_succ ..;rw[e]at h1;omega) (by omega)]
def numA_lo{n:Int}(h:n<10):a9E n=[digN n]:=by rw[a9E,b0Y,V0 h];rfl
def numA_hi{n:Int}(h:0<=n/\n<=281474976710655)(h2:¬n<10):a9E n=a9E (b2Y n)++[digN (n.tmod 10)]:=by
 rw[a9E,b0Y,V3 h2,W6,a9E,<-b8b 14 15 (b2Y n) (by rw[a7r h];omega) (by rw[a7r h];omega) (by omega)]
def c1C{H:Int->Prop}(step:∀n:Int,(0<=n/\n<=281474976710655)/\(10<=n->H (b2Y n))->H n):∀(k:Nat) (n:Int),n.toNat<=k->0<=n/\n<=281474976710655->H n
 | 0,n,hk,h=>step n ⟨h,fun g=>by omega⟩
 | k+1,n,hk,h=>step n ⟨h,fun g=>c1C step k (b2Y n) (by rw[a7r h];omega) (by rw[a7r h];omega)⟩
def c1E:∀(k:Nat) (n:Int),(b0Y k n).length<=k+1
 | 0,n=>by rw[b0Y];simp
 | k+1,n=>by
   rw[b0Y];cases decide (n<10)with
   | true=>simp
   | false=>rw[W6,W5];have:=c1E k (b2Y n);simp only[V5,q0X];omega
def c1D(n:Int):(a9E n).length<=16:=c1E 15 n
def NumH(n:Int):Prop:=A0p Tryz.prog 60 [(false,[.i .i64 n])] [] (.one (false,[.s (a9E n)]))
def b0G(n:Int)(hpre:NumH n):spZ 60 [(false,[.i .i64 n])] [] (.one (false,[.s (a9E n)])):=by
 exact hpre
noncomputable def a4K:CT:=p6 (fun(x:Int) h=>b0G x h)
@[go_sem] def c2n:=fun n=>nm' (fP' a4K rfl n)
def a4T(n:Int)(hpre:(0<=n/\n<=281474976710655)/\(10<=n->NumH (b2Y n))):spZ 60 [(false,[.i .i64 n])] [] (.one (false,[.s (a9E n)])):=by
 refine sy' Tryz.func60 (q' 2 [ao (.mov (.k (.v false [.c (.s [])])))] (.seq (q' 3 [am 0,ac 126 [3],aO 4] (ci 5 (q' 2 [ao (.mov (.k (.v false [.c (.s [])])))] .ret))) (.seq (q' 6 [am 0,aC .lss 6 10] (ci 7 (q' 8 [am 0,ao (.bin .add (k' 48) (.t 8)),ao (.cv .u8 (.t 9)),ao (.bsl 1 1 [.i .u8] [(0,.t 10)]),ao (.bs2s (.t 11)),aV 2] .ret))) (.seq (rm' [(true,0,m' 13 0),(true,1,o' 14 (.bin .quo (.t 13) (k' 10))),(true,3,m' 16 0),(true,4,o' 17 (.bin .rem (.t 16) (k' 10))),(true,5,o' 18 (.bin .add (k' 48) (.t 17))),(true,6,o' 19 (.cv .u8 (.t 18))),(false,2,c' 15 60 [14]),(false,7,o' 20 (.bsl 1 1 [.i .u8] [(0,.t 19)])),(false,8,o' 21 (.bs2s (.t 20))),(false,9,o' 22 (.bin .add (.t 15) (.t 21))),(false,10,m' 2 22)] [[0,1,2,3,4,5,7,6,8,9,10],[0,1,2,3,4,5,7,8,6,9, 10]] []) .ret)))) [.t 2] [(126,[],a2C),(60,[],a4K)] ?_;intro hb hE;obtain⟨⟨h0,h1⟩,hr⟩:=hpre;have hy:a0x n=true:=by rw[a0x,V0 h0,V0 h1];rfl
 simp only[go_sem];(repeat' first|apply cj'|intro hc|apply z6);(all_goals(try((first|refine u1 6 rfl ?_);intro S hS B0 hB;simp only[go_sem,V7,q0O]at hS hB;(repeat(first|replace hS:=And.right hS|replace hS:=CJ.r hS));have Rr14:=congrArg (fun s:St=>s.sl 14) hS;have Rr19:=congrArg (fun s:St=>s.sl 19) hS;clear hS;simp only[go_sem]at Rr14 Rr19;(try clear hc);intro K hc;simp only[go_sem,Rr14,Rr19,hB,V8,q0K,V6,q0G]at hc ⊢;simp only[go_sem,Rr14,Rr19,hB,A7u,A7y,A6L,A6K,A7t,A6J,nf_put_sub,A7w,A7v,nf_put_susK,nf_put_dip,nf_put_put,A7x,A7s,A6M,j8,j6,j4,j5,j7,nf_sub_sub]at hc ⊢;(first|(simp only[hc,q0R,q0I];done)|((repeat' first|exact hc|apply V1);done)))));all_goals try exact om'
 ·rw[hy]at hc;cases hc
 ·rw[numA_lo hc];rfl
 ·exact hr (by omega)
 ·have:=c1D (b2Y n);rw[b2Y]at this;omega
 ·rw[numA_hi ⟨h0,h1⟩ hc];exact rfl
noncomputable def b0p:CT:=p6 (fun(x:Int) h=>a4T x h)
@[go_sem] def c2o:=fun n=>nm' (fP' b0p rfl n)
def b5a(n:Int)(hpre:0<=n/\n<=281474976710655):spZ 60 [(false,[.i .i64 n])] [] (.one (false,[.s (a9E n)])):=by
 exact c1C (H:=NumH) (fun n h=>a4T n h) n.toNat n (q0A _) hpre
noncomputable def a3q:CT:=p6 (fun(x:Int) h=>b5a x h)
@[go_sem] def c4G:=fun n=>nm' (fP' a3q rfl n)
def b2Z(s:List UInt8):Int:=s.foldl (fun n b=>n*10+((b.toNat:Int)-48)) 0
def b4n(b:UInt8):Bool:=decide (48<=b.toNat)&&decide (b.toNat<=57)
def a5d(s:List UInt8):Bool:=(decide (1<=s.length)&&decide (s.length<=15))&&(s.all b4n&&(a0x (b2Z s)&&a9E (b2Z s)==s))
def b5X(s:List UInt8):Int:=bif a5d s then b2Z s else 0
def c8b(s:List UInt8)(b:UInt8):b2Z (s++[b])=b2Z s*10+((b.toNat:Int)-48):=by simp[b2Z]
def c5s:∀(s:List UInt8) (a:Int),0<=a->s.all b4n=true->0<=s.foldl (fun n b=>n*10+((b.toNat:Int)-48)) a/\s.foldl (fun n b=>n*10+((b.toNat:Int)-48)) a<(a+1)*10^s.length
 | [],a,h,_=>by simp;omega
 | b::s,a,h,hs=>by
   simp only[q2E,W7,b4n,q0B]at hs;have ih:=c5s s (a*10+((b.toNat:Int)-48)) (by omega) (by simpa using hs.2);refine⟨ih.1,Int.lt_of_lt_of_le ih.2 ?_⟩;rw[V5,Int.pow_succ,Int.mul_comm (10^s.length) 10,<-Int.mul_assoc];exact Int.mul_le_mul_of_nonneg_right (by omega) (Int.pow_nonneg (by decide))
def valD_lt(s:List UInt8)(h:s.all b4n=true):0<=b2Z s/\b2Z s<10^s.length:=by
 have:=c5s s 0 (by decide) h;rw[Int.zero_add,Int.one_mul]at this;exact this
def pow_le(k:Nat)(h:k<=15):(10:Int)^k<=1000000000000000:=by
 have h2:(10:Nat)^k<=10^15:=Nat.pow_le_pow_right (by decide) h;have h3:((10^k:Nat):Int)<=((10^15:Nat):Int):=Int.ofNat_le.2 h2;rw[Int.natCast_pow]at h3;exact h3
def c7Y{s:List UInt8}{i:Nat}(h:i<s.length):s.take (i+1)=s.take i++[s.getD i 0]:=by
 rw[List.take_succ,List.getD,V4 h];rfl
def b9Q{s:List UInt8}(h:a5d s=false):b5X s=0:=by rw[b5X,h];rfl
def c2e{s:List UInt8}(h:(s.length:Int)<1\/15<(s.length:Int)):a5d s=false:=by
 rw[a5d];rcases h with h|h
 ·rw[V3 (show¬1<=s.length by omega)];rfl
 ·rw[V3 (show¬s.length<=15 by omega)];simp
def d0K{s:List UInt8}{i:Nat}(h:i<s.length)(h2:b4n (s.getD i 0)=false):a5d s=false:=by
 have:s.all b4n=false:=by
  rw[List.all_eq_false];exact⟨s.getD i 0,by rw[List.getD,V4 h];exact q0T h,by rw[h2];decide⟩
 rw[a5d,this];simp
def c2d{s:List UInt8}(h:¬(s.length:Int)<1/\¬15<(s.length:Int))(h2:s.all b4n=true):a5d s=(a0x (b2Z s)&&a9E (b2Z s)==s):=by
 rw[a5d,h2,V0 (show 1<=s.length by omega),V0 (show s.length<=15 by omega)];rfl
def b5d(s:List UInt8):spZ 182 [(false,[.s s])] [] (.tup [(false,[.i .i64 ((b5X s,a5d s).1)]),(false,[.b ((b5X s,a5d s).2)])]):=by
 refine sy' Tryz.func182 (q' 2 [aK 0,aU false] (.seq (q' 6 [am 0,ao (.lens (.t 6)),aC .lss 7 1,am 8,aH 9 false [bm 0,bo (.lens (.t 10)),bC .gtr 11 15],aQ 9 12] (ci 13 (q' 2 [aK 0,aU false] .ret))) (q' 4 [aK 0] (.seq (q' 5 [aK 0] (fo 0 14 [aM [5,0],ao (.lens (.t 15)),ar 14 16] 17 1 (.seq (q' 20 [aM [0,5],ao (.ixs (.t 20) (.t 21)),ao (.bin .lss (.t 22) (bu 48)),am 23,aH 24 false [bm 0,bm 5,bo (.ixs (.t 25) (.t 26)),bo (.bin .gtr (.t 27) (bu 57))],aQ 24 28] (ci 29 (q' 2 [aK 0,aU false] .ret))) (g' 30 [am 4,aC .mul 30 10,aM [0,5],ao (.ixs (.t 32) (.t 33)),ao (.bin .sub (.t 34) (bu 48)),ao (.cv .i64 (.t 35)),aD .add 31 36,aV 4])) (g' 18 [aB 5]))) (.seq (q' 38 [am 4,ac 126 [38],aO 39,am 40,aH 41 false [bm 4,bc 60 [42],bm 0,bD .neq 43 44],aQ 41 45] (ci 46 (q' 2 [aK 0,aU false] .ret))) (q' 47 [am 4,aV 2,ab 3 true] .ret)))))) [.t 2,.t 3] [(126,[],a2C),(60,[],a3q)] ?_;intro hb hE;simp only[go_sem];repeat' first|apply cj'|intro hc|exact om'|fail
 ·rw[b9Q (c2e hc),c2e hc];exact⟨rfl,rfl⟩
 have hlen:=hc;refine lq' false [0] [] [] (fun i:{i:Nat // i<=s.length/\(s.take i).all b4n=true}=>[(4,slV (.i .i64 (b2Z (s.take i.1)))),(5,slV (.i .i64 i.1))]) nl' nl' (fun i=>s.length-i.1) (⟨0,by omega,rfl⟩) ?_;intro S0 hS0 i;obtain⟨i,hi,hd⟩:=i;have hv:=valD_lt (s.take i) hd;have hp:=pow_le (s.take i).length (by rw[V9];omega);simp only[go_sem,hS0];repeat' first|apply cj'|intro hc|exact om'|fail
 ·rename_i hlt;have hb:=d0K (s:=s) (i:=i) (by omega) (by
   rw[b4n];rcases hc with hc|hc
   ·rw[V3 (by omega)];rfl
   ·rw[V3 (show¬(s.getD i 0).toNat<=57 by omega)];simp)
  rw[b9Q hb,hb];exact⟨rfl,rfl⟩
 ·rename_i hlt;have hil:i<s.length:=by omega
  have ht:=c7Y hil;have hdb:b4n (s.getD i 0)=true:=by rw[b4n,V0 (by omega),V0 (by omega)];rfl
  have hb8:(s.getD i 0).toNat<256:=UInt8.toNat_lt _
  (refine lpK_n2 (⟨i+1,by omega,by rw[ht,List.all_append,hd,q2E,hdb];rfl⟩) _ rfl ?_;simp only[go_sem,hS0]<;>repeat' first|apply V1|exact on'|fail)
  rw[ht,c8b,IntWalk.u8_in _ ⟨by omega,by omega⟩,IntWalk.i64_in (b2Z (List.take i s)*10) ⟨by omega,by omega⟩,IntWalk.i64_in ((s.getD i 0).toNat-48:Int) ⟨by omega,by omega⟩,IntWalk.i64_in _ ⟨by omega,by omega⟩]
 ·simp only[a0x,W7,q0B]at hc;exact hc
 ·rename_i hge;have ee:s.take i=s:=q1S (by omega);rw[ee]at hc hd;have hy:a5d s=false:=by
   rw[c2d hlen hd];rcases hc with hc|hc
   ·rw[hc];rfl
   ·rw[hc,q2T]
  rw[b9Q hy,hy];exact⟨rfl,rfl⟩
 ·rename_i hge;have ee:s.take i=s:=q1S (by omega);rw[ee]at hc hd ⊢;have hy:a5d s=true:=by rw[c2d hlen hd,hc.1,hc.2];rfl
  rw[b5X,hy];exact⟨rfl,rfl⟩
noncomputable def a6A:CT:=o9 (fun(x:(List UInt8))=>b5d x)
@[go_sem] def c4J:=fun s=>nm' (fQ' a6A rfl s)
def a1h:List (List UInt8):=[[40],[41],[44],[46],[61],[60],[43],[45],[47]]
def a8z(k:Nat):([[C.s [40]],[C.s [41]],[C.s [44]],[C.s [46]],[C.s [61]],[C.s [60]],[C.s [43]],[C.s [45]],[C.s [47]]]:List (List C)).getD k [C.s []]=[C.s (a1h.getD k [])]:=a1M a1h k
def a8y:∀k,k<9->a1h.getD k []=[(a1h.getD k []).getD 0 0]:=by decide
def twoB(t:List UInt8):Bool:=t==[58,45]||(t==[33,61]||t==[60,61])
def a8e(s:List UInt8)(i:Nat):Bool:=decide (i+1<s.length)&&twoB (cut s i (i+2))
def a0T(s:List UInt8)(i:Nat):List UInt8:=
 bif a8e s i then cut s i (i+2)
 else bif a1h.any (fun t=>t==[s.getD i 0])then[s.getD i 0]else[]
def d0O(a b:UInt8):((a.toNat:Int)==(b.toNat:Int))=(a==b):=by
 by_cases h:a=b
 ·subst h;rw[beq_self_eq_true,beq_self_eq_true]
 ·have h2:¬(a.toNat:Int)=b.toNat:=fun e=>h (UInt8.toNat_inj.1 (Int.ofNat.inj e))
  rw[beq_eq_false_iff_ne.2 h,beq_eq_false_iff_ne.2 h2]
def d0F{s:List UInt8}{i j:Nat}(ha:a8e s i=false)(hj:j<9)(h:((a1h.getD j []).getD 0 0==s.getD i 0)=true):a1h.getD j []=a0T s i:=by
 have e:a1h.getD j []=[s.getD i 0]:=by rw[a8y j hj,beq_iff_eq.1 h]
 have hm:a1h.any (fun t=>t==[s.getD i 0])=true:=by
  rw[q3T];refine⟨a1h.getD j [], ?_,by rw[e];exact beq_self_eq_true _⟩;rw[List.getD,V4 (show j<a1h.length from hj)];exact q0T _
 rw[a0T,ha,hm,e];rfl
def c7T{s:List UInt8}{i:Nat}(ha:a8e s i=false)(h:∀j,j<9->((a1h.getD j []).getD 0 0==s.getD i 0)=false):a0T s i=[]:=by
 have hm:a1h.any (fun t=>t==[s.getD i 0])=false:=by
  rw[q4R];intro t ht;obtain⟨j,hj,e⟩:=List.mem_iff_getElem.1 ht;have h9:j<9:=hj;have h1:=a8y j h9;have h2:=h j h9;have e2:a1h.getD j []=t:=by rw[List.getD,V4 hj,e];rfl
  intro h3;rw[e2,beq_iff_eq.1 h3]at h2;simp at h2
 rw[a0T,ha,hm];rfl
def b5m(s:List UInt8)(i:Int)(hpre:0<=i/\i<s.length/\s.length<=1000000):spZ 181 [(false,[.s s]),(false,[.i .i64 i])] [] (.one (false,[.s (a0T s i.toNat)])):=by
 refine sy' Tryz.func181 (q' 4 [ao (.mov (.k (.v false [.c (.s [])])))] (.seq (q' 9 [am 1,aC .add 9 1,am 0,ao (.lens (.t 11)),ar 10 12] (ci 13 (q' 14 [aM [0,1,1],aC .add 16 2,ao (.slcs (.t 14) (some (.t 15)) (some (.t 17))),aV 5] (q' 19 [am 5,aY .eql 19 [58,45],am 20,aH 21 false [bm 5,bY .eql 22 [33,61]],aQ 21 23,am 24,aH 25 false [bm 5,bY .eql 26 [60,61]],aQ 25 27] (ci 28 (q' 29 [am 5,aV 4] .ret)))))) (q' 30 [aM [0,1],ao (.ixs (.t 30) (.t 31)),aV 6] (.seq (q' 33 [ao (.bsl 1 9 [.s] [(0,.k (.v false [.c (.s [40])])),(1,.k (.v false [.c (.s [41])])),(2,.k (.v false [.c (.s [44])])),(3,.k (.v false [.c (.s [46])])),(4,.k (.v false [.c (.s [61])])),(5,.k (.v false [.c (.s [60])])),(6,.k (.v false [.c (.s [43])])),(7,.k (.v false [.c (.s [45])])),(8,.k (.v false [.c (.s [47])]))]),aN,aK 0] (fO 0 36 [ar 35 34] 36 1 (q' 37 [ai 1 33 35,aL,aV 8] (q' 39 [am 8,ao (.ixs (.t 39) (k' 0)),am 6,aD .eql 40 41] (ci 42 (q' 43 [am 8,aV 4] .ret)))) (g' 44 [aA 35]))) (q' 4 [ao (.mov (.k (.v false [.c (.s [])])))] .ret))))) [.t 4] [] ?_;intro hb hE;obtain⟨h0,h1,h2⟩:=hpre;have w1:IntKind.i64.wrap (i+1)=i+1:=IntWalk.i64_in _ ⟨by omega,by omega⟩;have w2:IntKind.i64.wrap (i+2)=i+2:=IntWalk.i64_in _ ⟨by omega,by omega⟩;have w3:(i+2).toNat=i.toNat+2:=by omega
 simp only[go_sem,w1,w2,w3,a8z];repeat' first|apply cj'|intro hc|exact om'|fail
 ·rename_i hl;rw[a0T,show a8e s i.toNat=true by
   rw[a8e,twoB,V0 (by omega)];rcases hc with(hc|hc)|hc
   ·rw[hc];rfl
   ·rw[hc,Bool.true_or,q5P];rfl
   ·rw[hc,q5P,q5P];rfl];rfl
 all_goals(
  have ha:a8e s i.toNat=false:=by
   first
    | (rw[a8e,V3 (by omega)];rfl)
    | (rw[a8e,twoB,hc.1.1,hc.1.2,hc.2,Bool.or_self,Bool.or_self,q2T])
  refine a1v 4224 ?_;refine lq' false [6,33,34] [] [] (fun i:{j:Nat // j<=9/\∀k,k<j->((a1h.getD k []).getD 0 0==s.getD i.toNat 0)=false}=>[(35,slV (.i .i64 i.1))]) nl' nl' (fun i=>9-i.1) (⟨0,by omega,by omega⟩) ?_;intro S0 hS0 i;obtain⟨j,hj,hn⟩:=i;simp only[go_sem,w1,w2,w3,a8z,hS0];repeat' first|apply cj'|intro hc|exact om'|fail
  ·rw[a8y j (by omega)];exact⟨by decide,by simp⟩
  ·rename_i hlt;rw[d0O]at hc;exact d0F ha (by omega) hc
  ·rw[d0O]at hc;have hn2:∀k,k<j+1->((a1h.getD k []).getD 0 0==s.getD i.toNat 0)=false:=by
    intro k hk;rcases q2U.1 hk with h|rfl
    ·exact hn k h
    ·exact hc
   (refine lpK_n2 (⟨j+1,by omega,hn2⟩) _ rfl ?_;simp only[go_sem,w1,w2,w3,a8z,hS0]<;>repeat' first|apply V1|exact on'|fail)
  ·rw[c7T ha fun k hk=>hn k (by omega)]
  all_goals trace_state)
noncomputable def a6E:CT:=p6 (fun(x:(List UInt8)×Int) h=>b5m x.1 x.2 h)
@[go_sem] def c4S:=fun s i=>nm' (fP' a6E rfl (s,i))
def a1J(b:UInt8):Bool:=(b.toNat:Int)==9||(b.toNat:Int)==10||(b.toNat:Int)==13||(b.toNat:Int)==32
def a0B(f:UInt8->Bool)(s:List UInt8)(i:Nat):Nat:=i+((s.drop i).takeWhile f).length
def a4Z{f:UInt8->Bool}{s:List UInt8}{i:Nat}(h:i<s.length->f (s.getD i 0)=false):a0B f s i=i:=by
 rw[a0B];by_cases hi:i<s.length
 ·rw[q2R hi,q2C];have:=h hi;rw[List.getD,V4 hi]at this;simp only[Option.getD_some]at this;rw[this];rfl
 ·rw[List.drop_of_length_le (by omega)];rfl
def a3h{f:UInt8->Bool}{s:List UInt8}{i:Nat}(hi:i<s.length)(h:f (s.getD i 0)=true):a0B f s i=a0B f s (i+1):=by
 rw[a0B,a0B,q2R hi,q2C];rw[List.getD,V4 hi]at h;simp only[Option.getD_some]at h;rw[h,if_pos rfl,V5];omega
def a4b{f:UInt8->Bool}{s:List UInt8}{i:Nat}(h:i<=s.length):i<=a0B f s i/\a0B f s i<=s.length:=by
 have h1:=(List.takeWhile_sublist f (l:=s.drop i)).length_le;rw[q1O]at h1;rw[a0B];omega
def a4z(b:UInt8):Bool:=(b.toNat:Int)!=10
def a1l(b:UInt8):Bool:=decide (0<a2U b.toNat)
def a4h(s:List UInt8)(i:Nat):Int×f9:=
 let w:=cut s i (a0B a1l s i)
 bif a2U (s.getD i 0).toNat==3 then(bif a5d w then(0,⟨3,b5X w,[],i⟩)else(3,default))
 else bif a0X w then(0,⟨1,0,w,i⟩)else bif a4e w then(0,⟨2,0,w,i⟩)else(4,default)
def a5V(s:List UInt8):Nat->Nat->List f9->List f9×Int×Int
 | 0,i,out=>(out,0,0)
 | n+1,i,out=>
   bif decide (i<s.length)then
    (bif a1J (s.getD i 0)then a5V s n (i+1) out
     else bif ((s.getD i 0).toNat:Int)==35 then a5V s n (a0B a4z s i) out
     else bif a2U (s.getD i 0).toNat==0 then
      (bif a0T s i==[]then([],2,i)else a5V s n (i+(a0T s i).length) (out++[⟨4,0,a0T s i,i⟩]))
     else bif (a4h s i).1==0 then a5V s n (a0B a1l s i) (out++[(a4h s i).2])else([],(a4h s i).1,i))
   else(out,0,0)
def b5U{s:List UInt8}{i:Nat}(h:i<s.length):i+(a0T s i).length<=s.length:=by
 rw[a0T];cases ha:a8e s i with
 | true=>
   simp only[a8e,W7,q0B]at ha;rw[W4,cut,V9];omega
 | false=>
   rw[W6];cases a1h.any (fun t=>t==[s.getD i 0])with
   | true=>rw[W4,q0P];omega
   | false=>rw[W6,q0X];omega
def a1P(s:List UInt8):∀(n m i:Nat) (out:List f9),s.length<n+i->s.length<m+i->a5V s n i out=a5V s m i out
 | 0,0,i,out,_,_=>rfl
 | 0,m+1,i,out,h,_=>by rw[a5V,a5V,V3 (by omega)];rfl
 | n+1,0,i,out,_,h=>by rw[a5V,a5V,V3 (by omega)];rfl
 | n+1,m+1,i,out,h1,h2=>by
   rw[a5V,a5V];by_cases hi:i<s.length
   ·rw[V0 hi,W4,W4];cases a1J (s.getD i 0)with
    | true=>exact a1P s n m _ _ (by omega) (by omega)
    | false=>
      rw[W6,W6];cases h35:((s.getD i 0).toNat:Int)==35 with
      | true=>
        have hr:a0B a4z s i=a0B a4z s (i+1):=a3h hi (by rw[a4z,beq_iff_eq.1 h35];decide);have:=a4b (f:=a4z) (s:=s) (i:=i+1) (by omega);exact a1P s n m _ _ (by omega) (by omega)
      | false=>
        rw[W6,W6];cases hc:a2U (s.getD i 0).toNat==0 with
        | true=>
          rw[W4,W4];cases hs:a0T s i==[]with
          | true=>rfl
          | false=>
            have:(a0T s i).length≠0:=fun e=>by rw[q2Z e]at hs;exact absurd hs (by decide)
            exact a1P s n m _ _ (by omega) (by omega)
        | false=>
          rw[W6,W6];cases(a4h s i).1==0 with
          | false=>rfl
          | true=>
            have hr:a0B a1l s i=a0B a1l s (i+1):=a3h hi (by
             rw[a1l,q0B];have h0:a2U (s.getD i 0).toNat≠0:=by simpa using hc
             have:0<=a2U (s.getD i 0).toNat:=by unfold a2U;repeat' split<;>omega
             omega)
            have:=a4b (f:=a1l) (s:=s) (i:=i+1) (by omega);exact a1P s n m _ _ (by omega) (by omega)
   ·rw[V3 hi];rfl
def b0Q(s:List UInt8)(i:Nat)(out:List f9):List f9×Int×Int:=a5V s (s.length+1-i) i out
def a4u(s:List UInt8):List f9×Int×Int:=bif decide (6000<s.length)then([],1,0)else b0Q s 0 []
def a9C{s:List UInt8}{i:Nat}(out:List f9)(h:i<s.length):b0Q s i out =
   (bif a1J (s.getD i 0)then b0Q s (i+1) out
    else bif ((s.getD i 0).toNat:Int)==35 then b0Q s (a0B a4z s i) out
    else bif a2U (s.getD i 0).toNat==0 then
     (bif a0T s i==[]then([],2,(i:Int))else b0Q s (i+(a0T s i).length) (out++[⟨4,0,a0T s i,i⟩]))
    else bif (a4h s i).1==0 then b0Q s (a0B a1l s i) (out++[(a4h s i).2])else([],(a4h s i).1,(i:Int))):=by
 have e:s.length+1-i=(s.length-i)+1:=by omega
 rw[b0Q,e,a5V,V0 h,W4];cases a1J (s.getD i 0)with
 | true=>exact a1P s _ _ _ _ (by omega) (by omega)
 | false=>
   rw[W6,W6];cases h35:((s.getD i 0).toNat:Int)==35 with
   | true=>
     have hr:a0B a4z s i=a0B a4z s (i+1):=a3h h (by rw[a4z,beq_iff_eq.1 h35];decide);have:=a4b (f:=a4z) (s:=s) (i:=i+1) (by omega);exact a1P s _ _ _ _ (by omega) (by omega)
   | false=>
     rw[W6,W6];cases hc:a2U (s.getD i 0).toNat==0 with
     | true=>
       rw[W4,W4];cases hs:a0T s i==[]with
       | true=>rfl
       | false=>
         have:(a0T s i).length≠0:=fun e=>by rw[q2Z e]at hs;exact absurd hs (by decide)
         have:=b5U h;exact a1P s _ _ _ _ (by omega) (by omega)
     | false=>
       rw[W6,W6];cases(a4h s i).1==0 with
       | false=>rfl
       | true=>
         have hr:a0B a1l s i=a0B a1l s (i+1):=a3h h (by
          rw[a1l,q0B];have h0:a2U (s.getD i 0).toNat≠0:=by simpa using hc
          have:0<=a2U (s.getD i 0).toNat:=by unfold a2U;repeat' split<;>omega
          omega)
         have:=a4b (f:=a1l) (s:=s) (i:=i+1) (by omega);exact a1P s _ _ _ _ (by omega) (by omega)
def d0f{s:List UInt8}{i:Nat}(out:List f9)(h:¬i<s.length):b0Q s i out=(out,0,0):=by
 rw[b0Q];cases s.length+1-i with
 | zero=>rfl
 | succ n=>rw[a5V,V3 h];rfl
def c3Y(s:List UInt8):spZ 92 [(false,[.s s])] [] (.tup [(false,[y8 ((a4u s).1)]),(false,[.i .i64 ((a4u s).2.1)]),(false,[.i .i64 ((a4u s).2.2)])]):=by
 refine sx' false true none Tryz.func92 (q' 2 [ao (.mov (.k (.v false [.nl a2G]))),aK 0,aK 0] (.seq (q' 13 [am 0,ao (.lens (.t 13)),aC .gtr 14 6000] (ci 15 (q' 2 [ao (.mov (.k (.v false [.nl a2G]))),aK 1,aK 0] .ret))) (q' 16 [ao (.bsl 4 0 [.i .i64,.i .i64,.s,.i .i64] []),aV 5] (.seq (q' 6 [aK 0] (lO 0 (.seq (q' 17 [aM [6,0],ao (.lens (.t 18)),ar 17 19] (cd 20 .skip (.exit 0))) (.block 1 (q' 21 [aM [0,6],ao (.ixs (.t 21) (.t 22)),aV 7] (.seq (q' 24 [am 7,ao (.bin .eql (.t 24) (bu 9)),am 25,aH 26 false [bm 7,bo (.bin .eql (.t 27) (bu 10))],aQ 26 28,am 29,aH 30 false [bm 7,bo (.bin .eql (.t 31) (bu 13))],aQ 30 32,am 33,aH 34 false [bm 7,bo (.bin .eql (.t 35) (bu 32))],aQ 34 36] (ci 37 (q' 38 [aB 6] (.exit 1)))) (.seq (q' 40 [am 7,ao (.bin .eql (.t 40) (bu 35))] (ci 41 (.seq (lO 2 (.seq (q' 42 [aM [6,0],ao (.lens (.t 43)),ar 42 44,am 45,aH 46 true [bm 0,bm 6,bo (.ixs (.t 47) (.t 48)),bo (.bin .neq (.t 49) (bu 10))],aP 46 50] (cd 51 .skip (.exit 2))) (.block 3 (g' 52 [aB 6])))) (.exit 1)))) (.seq (q' 54 [am 7,ac 180 [54],aC .eql 55 0] (ci 56 (q' 57 [aM [0,6],ac 181 [57,58],aV 8] (.seq (q' 60 [am 8,aY .eql 60 []] (ci 61 (q' 2 [av 62 6,ao (.mov (.k (.v false [.nl a2G]))),aK 2,am 62] .ret))) (q' 63 [aM [5,8,6],ao (.bld [.i .i64,.i .i64,.s,.i .i64] [(0,1,.k (.v false [.c (.i .i64 4)])),(2,1,.t 64),(3,1,.t 65)]),ao (.bsl 4 1 [.i .i64,.i .i64,.s,.i .i64] [(0,.t 66)]),ao (.app 4 40 [.i .i64,.i .i64,.s,.i .i64] (.t 63) (.t 67)),aV 5] (q' 69 [aM [6,8],ao (.lens (.t 70)),aD .add 69 71,aV 6] (.exit 1))))))) (q' 73 [am 6,aV 9] (.seq (lO 4 (.seq (q' 74 [aM [9,0],ao (.lens (.t 75)),ar 74 76,am 77,aH 78 true [bm 0,bm 9,bo (.ixs (.t 79) (.t 80)),bc 180 [81],bC .gtr 82 0],aP 78 83] (cd 84 .skip (.exit 4))) (.block 5 (g' 85 [aB 9])))) (q' 87 [aM [0,6,9],ao (.slcs (.t 87) (some (.t 88)) (some (.t 89))),aV 10] (.seq (q' 91 [am 7,ac 180 [91],aC .eql 92 3] (cd 93 (q' 95 [am 10,ac 182 [95],aV 94,aZ 94 0,aZ 94 1,av 11 97,aV 12] (.seq (q' 99 [am 12,aO 99] (ci 100 (q' 2 [av 101 6,ao (.mov (.k (.v false [.nl a2G]))),aK 3,am 101] .ret))) (g' 102 [aM [5,11,6],ao (.bld [.i .i64,.i .i64,.s,.i .i64] [(0,1,.k (.v false [.c (.i .i64 3)])),(1,1,.t 103),(3,1,.t 104)]),ao (.bsl 4 1 [.i .i64,.i .i64,.s,.i .i64] [(0,.t 105)]),ao (.app 4 40 [.i .i64,.i .i64,.s,.i .i64] (.t 102) (.t 106)),aV 5]))) (q' 108 [am 10,ac 160 [108]] (cd 109 (g' 110 [aM [5,10,6],ao (.bld [.i .i64, .i .i64,.s,.i .i64] [(0,1,.k (.v false [.c (.i .i64 1)])),(2,1,.t 111),(3,1,.t 112)]),ao (.bsl 4 1 [.i .i64,.i .i64,.s,.i .i64] [(0,.t 113)]),ao (.app 4 40 [.i .i64,.i .i64,.s,.i .i64] (.t 110) (.t 114)),aV 5]) (q' 116 [am 10,ac 183 [116]] (cd 117 (g' 118 [aM [5,10,6],ao (.bld [.i .i64,.i .i64,.s, .i .i64] [(0,1,.k (.v false [.c (.i .i64 2)])),(2,1,.t 119),(3,1,.t 120)]),ao (.bsl 4 1 [.i .i64,.i .i64,.s,.i .i64] [(0,.t 121)]),ao (.app 4 40 [.i .i64,.i .i64,.s,.i .i64] (.t 118) (.t 122)),aV 5]) (q' 2 [av 124 6,ao (.mov (.k (.v false [.nl a2G]))),aK 4,am 124] .ret))))))) (g' 125 [am 9,aV 6]))))))))))))) (q' 2 [av 126 5,am 126,aK 0,aK 0] .ret))))) [.t 2,.t 3,.t 4] [(180,[],a2T),(181,[],a6E),(182,[],a6A),(160,[],a0V),(183,[],a5n)] ?_;intro hb hE;simp only[go_sem];repeat' first|apply cj'|intro hc|exact om'|fail
 ·rw[a4u,V0 (by omega)];exact⟨⟨rfl,rfl⟩,rfl⟩
 have hm:¬6000<s.length:=by omega
 have hlx:a4u s=b0Q s 0 []:=by rw[a4u,V3 hm];rfl
 refine lk' false [(false,5,0,100010)] [0] [] [] (fun i:{q:Nat×List f9 // q.1<=s.length/\q.2.length<=q.1/\b0Q s q.1 q.2=b0Q s 0 []}=>[(5,.v false [.ow 100010]),(6,slV (.i .i64 i.1.1))]) nl' (fun i=>[(100010,a2G,i.1.2.map f9.cells)]) (fun i=>s.length-i.1.1) (⟨(0,[]),by omega,by simp,rfl⟩) ?_;intro S0 hS0 i;obtain⟨⟨i,a⟩,hi,hal,hle⟩:=i;simp only at hi hal hle;simp only[go_sem,hS0];repeat' first|apply cj'|intro hc|exact om'|fail
 ·rename_i hlt;have hs:a1J (s.getD i 0)=true:=by
   rw[a1J];rcases hc with((hc|hc)|hc)|hc<;>rw[hc]<;>simp
  have hn:=a9C a (show i<s.length by omega);rw[hs,W4]at hn;have w:IntKind.i64.wrap (i+1)=((i+1:Nat):Int):=IntWalk.i64_in _ ⟨by omega,by omega⟩;exact nk0 ⟨(i+1,a),by show i+1<=s.length;omega,by show a.length<=i+1;omega,by rw[<-hn];exact hle⟩
 ·rename_i hlt hsp;have hs:a1J (s.getD i 0)=false:=by
   rw[a1J,hsp.1.1.1,hsp.1.1.2,hsp.1.2,hsp.2];rfl
  have hn:=a9C a (show i<s.length by omega);rw[hs,W6,hc,W4]at hn;have hr0:a0B a4z s i=a0B a4z s (i+1):=a3h (by omega) (by rw[a4z,beq_iff_eq.1 hc];decide);have hr1:=a4b (f:=a4z) (s:=s) (i:=i+1) (by omega);refine lq' false [0,5] [] [] (fun i:{j:Nat // j<=s.length/\a0B a4z s j=a0B a4z s i}=>[(6,slV (.i .i64 i.1))]) nl' (fun i=>[(100010,a2G,a.map f9.cells)]) (fun i=>s.length-i.1) (⟨i,hi,rfl⟩) ?_;intro S1 hS1 i;obtain⟨j,hj,hrj⟩:=i;simp only[go_sem,hS0,hS1];repeat' first|apply cj'|intro hc|exact om'|fail
  ·have hjx:a0B a4z s (j+1)=a0B a4z s i:=(a3h (by omega) hc.2).symm.trans hrj;exact nx1 ⟨j+1,by omega,hjx⟩
  ·have hjj:a0B a4z s j=j:=a4Z fun h=>by
    rw[V0 (show(j:Int)<s.length by omega),q0N]at hc;exact hc
   have hj2:a0B a4z s i=j:=hrj.symm.trans hjj;rw[hj2]at hn;exact nk1 ⟨(j,a),hj,by show a.length<=j;omega,by rw[<-hn];exact hle⟩
 ·rename_i hlt hsp h35 h0;have hs:a1J (s.getD i 0)=false:=by
   rw[a1J,hsp.1.1.1,hsp.1.1.2,hsp.1.2,hsp.2];rfl
  have hn:=a9C a (show i<s.length by omega);rw[hs,W6,h35,W6,h0,W4,hc,W4]at hn;rw[hlx,<-hle,hn];exact⟨⟨rfl,rfl⟩,rfl⟩
 ·rename_i hlt hsp h35 h0;have hs:a1J (s.getD i 0)=false:=by
   rw[a1J,hsp.1.1.1,hsp.1.1.2,hsp.1.2,hsp.2];rfl
  have hn:=a9C a (show i<s.length by omega);rw[hs,W6,h35,W6,h0,W4,hc,W6]at hn;have hl:=b5U (show i<s.length by omega);have hz:(a0T s i).length≠0:=fun e=>by rw[q2Z e]at hc;exact absurd hc (by decide)
  have w:IntKind.i64.wrap (i+(a0T s i).length)=((i+(a0T s i).length:Nat):Int):=IntWalk.i64_in _ ⟨by omega,by omega⟩;exact nk0 (⟨(i+(a0T s i).length,a++[⟨4,0,a0T s i,i⟩]),hl,by show(a++[_]).length<=_;rw[W5,q0P];omega,by rw[<-hn];exact hle⟩)
 ·rename_i hlt hsp h35;have hs:a1J (s.getD i 0)=false:=by
   rw[a1J,hsp.1.1.1,hsp.1.1.2,hsp.1.2,hsp.2];rfl
  have hn:=a9C a (show i<s.length by omega);rw[hs,W6,h35,W6,hc,W6]at hn;have hcl:0<=a2U (s.getD i 0).toNat:=by unfold a2U;repeat' split<;>omega
  have h0:a2U (s.getD i 0).toNat≠0:=by simpa using hc
  have hr0:a0B a1l s i=a0B a1l s (i+1):=a3h (by omega) (by rw[a1l,q0B];omega);have hr1:=a4b (f:=a1l) (s:=s) (i:=i+1) (by omega);refine lq' false [0,5,6,7] [] [] (fun i:{j:Nat // i<=j/\j<=s.length/\a0B a1l s j=a0B a1l s i}=>[(9,slV (.i .i64 i.1))]) nl' (fun i=>[(100010,a2G,a.map f9.cells)]) (fun i=>s.length-i.1) (⟨i,by omega,hi,rfl⟩) ?_;intro S2 hS2 i;obtain⟨k,hik,hj,hrj⟩:=i;simp only[go_sem,hS0,hS2];repeat' first|apply cj'|intro hc|exact om'|fail
  ·have hjx:a0B a1l s (k+1)=a0B a1l s i:=(a3h (by omega) (by rw[a1l,q0B];exact hc.2)).symm.trans hrj
   (refine lpK_n2 (⟨k+1,by omega,by omega,hjx⟩) _ rfl ?_;simp only[go_sem,hS0,hS2]<;>repeat' first|apply V1|exact on'|fail)
  ·rename_i hkx h3;have hk2:a0B a1l s i=k:=by
    rw[<-hrj];exact a4Z fun h=>by
     rw[V0 (show(k:Int)<s.length by omega),q0N]at hkx;rw[a1l];exact hkx
   rw[a4h,hk2]at hn;simp only[h3,hc,W4,W6,beq_self_eq_true]at hn;rw[hlx,<-hle,hn];exact⟨⟨rfl,rfl⟩,rfl⟩
  ·rename_i hkx h3;have hk2:a0B a1l s i=k:=by
    rw[<-hrj];exact a4Z fun h=>by
     rw[V0 (show(k:Int)<s.length by omega),q0N]at hkx;rw[a1l];exact hkx
   rw[a4h,hk2]at hn;simp only[h3,hc,W4,W6,beq_self_eq_true]at hn
   (refine lpK_n2 (⟨(k,a++[⟨3,b5X (cut s i k),[],i⟩]),hj,by show(a++[_]).length<=_;rw[W5,q0P];omega,hn.symm.trans hle⟩) _ (by simp only[go_sem,hS0,hS2];try rfl) ?_;simp only[go_sem,hS0,hS2]<;>repeat' first|apply V1|exact on'|fail)
  ·rename_i hkx h3;have hk2:a0B a1l s i=k:=by
    rw[<-hrj];exact a4Z fun h=>by
     rw[V0 (show(k:Int)<s.length by omega),q0N]at hkx;rw[a1l];exact hkx
   rw[a4h,hk2]at hn;simp only[h3,hc,W4,W6,beq_self_eq_true]at hn
   (refine lpK_n2 (⟨(k,a++[⟨1,0,cut s i k,i⟩]),hj,by show(a++[_]).length<=_;rw[W5,q0P];omega,hn.symm.trans hle⟩) _ (by simp only[go_sem,hS0,hS2];try rfl) ?_;simp only[go_sem,hS0,hS2]<;>repeat' first|apply V1|exact on'|fail)
  ·rename_i hkx h3 hw;have hk2:a0B a1l s i=k:=by
    rw[<-hrj];exact a4Z fun h=>by
     rw[V0 (show(k:Int)<s.length by omega),q0N]at hkx;rw[a1l];exact hkx
   rw[a4h,hk2]at hn;simp only[h3,hw,hc,W4,W6,beq_self_eq_true]at hn
   (refine lpK_n2 (⟨(k,a++[⟨2,0,cut s i k,i⟩]),hj,by show(a++[_]).length<=_;rw[W5,q0P];omega,hn.symm.trans hle⟩) _ (by simp only[go_sem,hS0,hS2];try rfl) ?_;simp only[go_sem,hS0,hS2]<;>repeat' first|apply V1|exact on'|fail)
  ·rename_i hkx h3 hw;have hk2:a0B a1l s i=k:=by
    rw[<-hrj];exact a4Z fun h=>by
     rw[V0 (show(k:Int)<s.length by omega),q0N]at hkx;rw[a1l];exact hkx
   rw[a4h,hk2]at hn;simp only[h3,hw,hc,W4,W6,beq_self_eq_true]at hn;rw[hlx,<-hle,hn];exact⟨⟨rfl,rfl⟩,rfl⟩
 ·rw[hlx,<-hle,d0f a (by omega)];exact⟨⟨rfl,rfl⟩,rfl⟩
noncomputable def b4l:CT:=o9 (fun(x:(List UInt8))=>c3Y x)
@[go_sem] def d1d:=fun s=>nm' (fQ' b4l rfl s)
def a2l(r:c8)(n:Int):c8:=bif n==16 then l9 r 7 else r
def a5Q(r:c8)(n:Int):c8:=bif begY r&&n==24 then l9 r 7 else r
def a1q(r:c8)(p:d9):c8×d9:=
 bif decide (0<a2m (l8 r r.i))then((a0E (v5 (a2l r p.Decls.length)) (a2m (l8 r r.i))).1,⟨p.Decls++[(a0E (v5 (a2l r p.Decls.length)) (a2m (l8 r r.i))).2],p.Rules⟩)
 else((a1R (a5Q r p.Rules.length)).1,⟨p.Decls,p.Rules++[(a1R (a5Q r p.Rules.length)).2]⟩)
def a4t(r:c8):Bool:=r.code==0&&decide (r.i<r.toks.length)
def a2x:Nat->c8->d9->c8×d9
 | 0,r,p=>(r,p)
 | n+1,r,p=>bif a4t r then a2x n (a1q r p).1 (a1q r p).2 else(r,p)
def a0A(r:c8)(p:d9):c8×d9:=a2x (r.toks.length+1-r.i.toNat) r p
def a0Z(s:List UInt8):c8:=⟨(a4u s).1,0,s.length,0,0⟩
def z8(s:List UInt8):d9×Int×Int:=
 bif (a4u s).2.1 != 0 then(default,(a4u s).2.1,(a4u s).2.2)
 else bif (a0A (a0Z s) default).1.code != 0 then(default,(a0A (a0Z s) default).1.code,(a0A (a0Z s) default).1.p)
 else((a0A (a0Z s) default).2,0,0)
def c6v(r:c8)(n:Int):Adv r (a2l r n):=by
 rw[a2l];cases n==16 with
 | true=>exact a0U r 7
 | false=>exact Adv.rfl'
def b7A(r:c8)(n:Int):Adv r (a5Q r n):=by
 rw[a5Q];cases begY r&&n==24 with
 | true=>exact a0U r 7
 | false=>exact Adv.rfl'
def b9i(r:c8)(n:Int):(a2l r n).i=r.i/\(a2l r n).toks=r.toks:=by
 rw[a2l];cases n==16 with
 | true=>exact⟨(a2f r 7).2,(a2f r 7).1⟩
 | false=>exact⟨rfl,rfl⟩
def fullU_i(r:c8)(n:Int):(a5Q r n).i=r.i:=by
 rw[a5Q];cases begY r&&n==24 with
 | true=>exact(a2f r 7).2
 | false=>rfl
def c6w{r:c8}(n:Int)(h:r.i<r.toks.length):Adv r (v5 (a2l r n)):=
 (c6v r n).trans (a0Q (by rw[(b9i r n).1,(b9i r n).2];exact h))
def a8P{r:c8}(p:d9)(h:r.i<r.toks.length):Adv r (a1q r p).1:=by
 rw[a1q];cases decide (0<a2m (l8 r r.i))with
 | true=>exact(c6w _ h).trans (c0t _ _)
 | false=>exact(b7A r _).trans (c8U _)
def b9l{r:c8}(p:d9)(h:r.i<r.toks.length)(hc:(a1q r p).1.code=0):r.i<(a1q r p).1.i:=by
 rw[a1q]at hc ⊢;cases hk:decide (0<a2m (l8 r r.i))with
 | true=>
   have h1:=(c0t (v5 (a2l r p.Decls.length)) (a2m (l8 r r.i))).i;have h2:=(b9i r p.Decls.length).1;have h3:(a2l r p.Decls.length).i+1<=(a0E (v5 (a2l r p.Decls.length)) (a2m (l8 r r.i))).1.i:=h1;show r.i<(a0E (v5 (a2l r p.Decls.length)) (a2m (l8 r r.i))).1.i;omega
 | false=>
   rw[hk]at hc;have h1:=rule_on hc;rw[fullU_i]at h1;exact h1
def a5r{n:Nat}{r:c8}{p:d9}(h:a4t r=false):a2x n r p=(r,p):=by
 cases n with
 | zero=>rfl
 | succ n=>rw[a2x,h];rfl
def a9m{r:c8}(h:a4t r=true):r.code=0/\r.i<r.toks.length:=by
 simpa only[a4t,W7,beq_iff_eq,q0B]using h
def b1s:∀(n m:Nat) {r:c8} {p:d9},p7 r->r.toks.length<n+r.i.toNat->r.toks.length<m+r.i.toNat->a2x n r p=a2x m r p
 | 0,_,r,p,h,h1,_=>by obtain⟨⟨h0,h2⟩,_⟩:=h;omega
 | _,0,r,p,h,_,h1=>by obtain⟨⟨h0,h2⟩,_⟩:=h;omega
 | n+1,m+1,r,p,h,h1,h2=>by
   rw[a2x,a2x];cases hg:a4t r with
   | false=>rfl
   | true=>
     rw[W4,W4];have hlt:=(a9m hg).2;have ha:=a8P p hlt;have hok:=ha.ok h;cases hc:(a1q r p).1.code==0 with
     | false=>
       have:a4t (a1q r p).1=false:=by rw[a4t,hc];rfl
       rw[a5r this,a5r this]
     | true=>
       have h3:=b9l p hlt (by simpa using hc);have h0:=h.1.1;refine b1s n m hok ?_ ?_<;>(rw[ha.t];omega)
def a8t{r:c8}{p:d9}(h:a4t r=false):a0A r p=(r,p):=a5r h
def c7z{r:c8}{p:d9}(h:p7 r)(hg:a4t r=true):a0A r p=a0A (a1q r p).1 (a1q r p).2:=by
 have hlt:=(a9m hg).2;have h0:=h.1;have e:r.toks.length+1-r.i.toNat=(r.toks.length-r.i.toNat)+1:=by omega
 have ha:=a8P p hlt;have hok:=ha.ok h;rw[a0A,e,a2x,hg,W4];cases hc:(a1q r p).1.code==0 with
 | false=>
   have:a4t (a1q r p).1=false:=by rw[a4t,hc];rfl
   rw[a5r this,a8t this]
 | true=>
   have h3:=b9l p hlt (by simpa using hc);have h4:=hok.1;rw[a0A];have h5:=ha.t;rw[h5]at h4;refine b1s _ _ hok ?_ ?_<;>(rw[h5];omega)
def a7b(s:List UInt8):∀(n i:Nat) (out:List f9),out.length<=i->i<=s.length->(a5V s n i out).1.length<=s.length
 | 0,i,out,h,h2=>by rw[a5V];show out.length<=s.length;omega
 | n+1,i,out,h,h2=>by
   rw[a5V];cases hd:decide (i<s.length)with
   | false=>show out.length<=s.length;omega
   | true=>
     rw[W4];have hi:i<s.length:=of_decide_eq_true hd;cases a1J (s.getD i 0)with
     | true=>exact a7b s n _ _ (by omega) (by omega)
     | false=>
       rw[W6];cases h35:((s.getD i 0).toNat:Int)==35 with
       | true=>
         have:=a4b (f:=a4z) (s:=s) (i:=i) (by omega);exact a7b s n _ _ (by omega) (by omega)
       | false=>
         rw[W6];cases hc:a2U (s.getD i 0).toNat==0 with
         | true=>
           rw[W4];cases hs:a0T s i==[]with
           | true=>simp
           | false=>
             have:(a0T s i).length≠0:=fun e=>by rw[q2Z e]at hs;exact absurd hs (by decide)
             have:=b5U hi;exact a7b s n _ _ (by rw[W5,q0P];omega) (by omega)
         | false=>
           rw[W6];cases(a4h s i).1==0 with
           | false=>simp
           | true=>
             have hr:a0B a1l s i=a0B a1l s (i+1):=a3h hi (by
              rw[a1l,q0B];have h0:a2U (s.getD i 0).toNat≠0:=by simpa using hc
              have:0<=a2U (s.getD i 0).toNat:=by unfold a2U;repeat' split<;>omega
              omega)
             have:=a4b (f:=a1l) (s:=s) (i:=i+1) (by omega);exact a7b s n _ _ (by rw[W5,q0P];omega) (by omega)
def d0g(s:List UInt8):(a4u s).1.length<=6000:=by
 rw[a4u];cases hd:decide (6000<s.length)with
 | true=>simp
 | false=>
   have h:¬6000<s.length:=of_decide_eq_false hd;have:=a7b s (s.length+1-0) 0 [] (by simp) (by omega);rw[W6,b0Q];omega
def b5J(s:List UInt8):p7 (a0Z s):=⟨⟨by show(0:Int)<=0;omega,by show(0:Int)<=_;omega⟩,d0g s⟩
def parse_1{s:List UInt8}(h:((a4u s).2.1 != 0)=true):z8 s=(default,(a4u s).2.1,(a4u s).2.2):=by rw[z8,h];rfl
def parse_2{s:List UInt8}{q:c8×d9}(h:((a4u s).2.1 != 0)=false)(hq:a0A q.1 q.2=a0A (a0Z s) default)(hg:a4t q.1=false)(hc:(q.1.code != 0)=true):z8 s=(default,q.1.code,q.1.p):=by
 rw[z8,h,<-hq,a8t hg];simp only[W6,hc,W4]
def parse_3{s:List UInt8}{q:c8×d9}(h:((a4u s).2.1 != 0)=false)(hq:a0A q.1 q.2=a0A (a0Z s) default)(hg:a4t q.1=false)(hc:(q.1.code != 0)=false):z8 s=(q.2,0,0):=by
 rw[z8,h,<-hq,a8t hg];simp only[W6,hc]
def a8u(q:c8):Nat:=bif q.code==0 then q.toks.length+1-q.i.toNat else 0
def c7K{q r:c8}(hg:a4t q=true)(h0:0<=q.i)(ht:r.toks=q.toks)(hs:r.code=0->q.i<r.i):a8u r<a8u q:=by
 obtain⟨hc,hl⟩:=a9m hg;rw[a8u,a8u,hc,ht];cases h:r.code==0 with
 | true=>
   have:=hs (by simpa using h);show q.toks.length+1-r.i.toNat<q.toks.length+1-q.i.toNat
   omega
 | false=>show 0<q.toks.length+1-q.i.toNat;omega
structure Item(s:List UInt8)(q r:c8)(u:d9):Prop where
 ok:p7 r
 t:r.toks=(a4u s).1
 l:r.code=0->((u.Decls.length+u.Rules.length:Nat):Int)<=r.i
 e:a0A r u=a0A (a0Z s) default
 m:a8u r<a8u q
def b3c{s:List UInt8}{q r:c8}{p t:d9}(hq:p7 q)(hqt:q.toks=(a4u s).1)(hal:q.code=0->((p.Decls.length+p.Rules.length:Nat):Int)<=q.i)(hqe:a0A q p=a0A (a0Z s) default)(hg:a4t q=true)(e:a1q q p=(r,t))(hn:t.Decls.length+t.Rules.length=p.Decls.length+p.Rules.length+1):Item s q r t:=by
 obtain⟨hc,hlt⟩:=a9m hg;have hon:=c7z (p:=p) hq hg;have had:=a8P p hlt;have hst:=b9l p hlt;rw[e]at hon had hst;refine⟨had.ok hq,had.t.trans hqt,fun h=>?_,hon.symm.trans hqe,c7K hg hq.1.1 had.t hst⟩;have h1:=hst h;have h2:=hal hc;simp only at h1;omega
def c9Q{q:c8}{ds:List i3}{rs:List c6}(hk:0<a2m (q.toks.getD q.i.toNat default)):a1q q ⟨ds,rs⟩=((a0E (v5 (a2l q ds.length)) (a2m (q.toks.getD q.i.toNat default))).1,⟨ds++[(a0E (v5 (a2l q ds.length)) (a2m (q.toks.getD q.i.toNat default))).2],rs⟩):=by
 rw[a1q,l8,V0 hk];rfl
def c9R{q:c8}{ds:List i3}{rs:List c6}(hk:¬0<a2m (q.toks.getD q.i.toNat default)):a1q q ⟨ds,rs⟩=((a1R (a5Q q rs.length)).1,⟨ds,rs++[(a1R (a5Q q rs.length)).2]⟩):=by
 rw[a1q,l8,V3 hk];rfl
def fullD_1{q:c8}{n:Int}(h:(n==16)=true):a2l q n=l9 q 7:=by rw[a2l,h];rfl
def fullD_0{q:c8}{n:Int}(h:(n==16)=false):a2l q n=q:=by rw[a2l,h];rfl
def fullU_1{q:c8}{n:Int}(h:((((q.toks.getD q.i.toNat default).Kind==1)=true/\a4U (q.toks.getD q.i.toNat default).S=false\/isS q q.i [43]=true)\/isS q q.i [45]=true)/\(n==24)=true):a5Q q n=l9 q 7:=by
 have hb:begY q=true:=by
  rw[begY,l8,a5u,a4c];rcases h.1 with(h|h)|h
  ·rw[h.1,h.2];rfl
  ·rw[h];simp
  ·rw[h];simp
 rw[a5Q,hb,h.2];rfl
def fullU_0{q:c8}{n:Int}(h:(((q.toks.getD q.i.toNat default).Kind==1&&!a4U (q.toks.getD q.i.toNat default).S||isS q q.i [43]||isS q q.i [45])&&n==24)=false):a5Q q n=q:=by
 have hb:begY q=((q.toks.getD q.i.toNat default).Kind==1&&!a4U (q.toks.getD q.i.toNat default).S||isS q q.i [43]||isS q q.i [45]):=by rw[begY,l8,a5u,a4c,Bool.or_assoc]
 rw[a5Q,hb,h];rfl
def go_no{q:c8}(h:(q.code==0&&decide (q.i<q.toks.length))=false):a4t q=false:=h
def a9v(s:List UInt8):spZ 35 [(false,[.s s])] [] (.tup [(true,[c9V (((z8 s).1).Decls),c9S (((z8 s).1).Rules)]),(false,[.i .i64 ((z8 s).2.1)]),(false,[.i .i64 ((z8 s).2.2)])]):=by
 refine sx' true false none Tryz.func35 (q' 2 [aw [.sl a1y,.sl a1K],aK 0,aK 0] (q' 14 [am 0,ac 92 [14],aV 13,aZ 13 0,aZ 13 1,aZ 13 2,av 5 16,av 6 17,aV 7] (.seq (q' 19 [am 6,aC .neq 19 0] (ci 20 (q' 21 [ao (.bld [.sl a1y,.sl a1K] []),aM [6,7],aS 2 2 21,av 3 22,aV 4] .ret))) (q' 24 [aM [5,0],ao (.lens (.t 25)),ao (.bld [.sl a2G,.i .i64,.i .i64,.i .i64, .i .i64] [(0,1,.t 24),(2,1,.t 26)]),aX 5 27,aV 8] (q' 9 [ax (o' 29 (.bld [.sl a1y,.sl a1K] [])),aw [.sl a1y,.sl a1K],aS 2 9 29] (.seq (lO 0 (.seq (q' 30 [am 8,ao (.nck (.t 30)),aG 3 31,aC .eql 33 0,am 34,aH 35 true [bm 8,bo (.nck (.t 36)),bF 1,bL,bm 5,bN,bD .lss 39 41],aP 35 42] (cd 43 .skip (.exit 0))) (.block 1 (q' 44 [aM [5,8],ao (.nck (.t 45)),aG 1 46,ai 4 44 48,aE 4,ac 93 [50],aV 10] (.seq (q' 52 [am 10,aC .gtr 52 0] (ci 53 (.seq (q' 54 [aG 0 9,aN,aC .eql 56 16] (ci 57 (g' 58 [am 8,ao (.call 94 [.t 58,.k (.v false [.c (.i .i64 7)])])]))) (q' 60 [am 8,ao (.nck (.t 60)),aG 1 61,aC .add 63 1,ao (.nck (.t 60)),aF 1,aS 1 66 64] (.seq (rm' [(true,2, m' 69 8),(true,3,m' 70 10),(false,0,f' 67 0 9),(false,1,l' 68 67),(false,4,c' 71 95 [69,70]),(false,5,o' 72 (.bsl 3 1 [.i .i64,.s,.i .i64] [(0,.t 71)])),(false,6,o' 73 (.app 3 32 [.i .i64,.s,.i .i64] (.t 68) (.t 72))),(false,7,f' 74 0 9),(false,8,s' 1 74 73)] [[0,1,2,4,3,5,6,7, 8],[0,1,2,4,5,3,6,7,8],[0,1,4,2,3,5,6,7,8],[0,1,4,2,5,3,6,7,8],[0,1,4,5,2,3,6,7,8]] []) (.exit 1)))))) (q' 75 [aM [5,8],ao (.nck (.t 76)),aG 1 77,ai 4 75 79,aE 4,ax (w' 11 [.i .i64,.i .i64,.s,.i .i64]),aS 4 11 81] (q' 82 [aG 0 11,aC .eql 83 1,am 84,aH 85 true [bf 2 11,bL,bc 96 [87],bO 88],aP 85 89,am 90,aH 91 false [bm 8,bm 8,bo (.nck (.t 93)),bF 1,bL,bo (.call 97 [.t 92,.t 96,.k (.v false [.c (.s [43])])])],aQ 91 97,am 98,aH 99 false [bm 8,bm 8,bo (.nck (.t 101)),bF 1,bL,bo (.call 97 [.t 100,.t 104,.k (.v false [.c (.s [45])])])],aQ 99 105,aV 12] (.seq (q' 107 [aM [12,107],aH 108 true [bf 1 9,bL,bN,bC .eql 111 24],aP 108 112] (ci 113 (g' 114 [am 8,ao (.call 94 [.t 114,.k (.v false [.c (.i .i64 7)])])]))) (rm' [(true,2,m' 118 8), (false,0,f' 116 1 9),(false,1,l' 117 116),(false,3,c' 119 98 [118]),(false,4,o' 120 (.bsl 4 1 [.i .i64,.s,.sl j3,.sl a1u] [(0,.t 119)])),(false,5,o' 121 (.app 4 72 [.i .i64,.s,.sl j3,.sl a1u] (.t 117) (.t 120))),(false,6,f' 122 1 9),(false,7,s' 1 122 121)] [[0,1,3,2,4,5,6,7],[0,1,3,4,2,5,6,7],[0,3,1,2,4,5, 6,7],[0,3,1,4,2,5,6,7],[0,3,4,1,2,5,6,7]] []))))))))) (.seq (q' 123 [am 8,ao (.nck (.t 123)),aG 3 124,aC .neq 126 0] (ci 127 (.seq (.rego [(true,0,o' 128 (.bld [.sl a1y,.sl a1K] [])),(true,1,m' 129 8),(true,2,o' 130 (.nck (.t 129))),(true,3,f' 131 3 130),(true,4,l' 132 131),(true,5,m' 133 8),(true,6,o' 134 (.nck (.t 133))),(true,7,f' 135 4 134),(true,8,l' 136 135),(false,9,s' 2 2 128),(false,10,m' 3 132),(false,11,m' 4 136)] [16,17,1000016]) .ret))) (q' 137 [ae 2 9,aS 2 2 137,az 3 0,az 4 0] .ret)))))))) [.c 2 true 2,.t 3,.t 4] [(92,[],b4l),(93,[],a6G),(94,[0],z7),(95,[0],a6F),(96,[],a0K),(97,[],a0O),(98,[0],a6I)] ?_;intro hb hE;have hro:=b5J s;simp only[go_sem,pc_susB];(repeat' first|apply cj'|intro hc|apply z6);(all_goals(try(refine(show A3U _ _ _ _ _ _ from ?_);simp only[go_sem,pc_susB]at hc ⊢;simp only[go_sem,pc_susB,A7u,A7y,A6L,A6K,A7t,A6J,nf_put_sub,A7w,A7v,nf_put_susK,nf_put_dip,nf_put_put,A7x,A7s,A6M,j8,j6,j4,j5,j7,nf_sub_sub]at hc ⊢;simp only[hc,q0R,q0I];done)));all_goals try exact om'
 ·rw[parse_1 hc];exact⟨⟨⟨rfl,rfl⟩,rfl⟩,rfl⟩
 have hlx:=hc;refine c9c 8 1000016 ?_;refine lk' true [(true,18,0,200036),(true,18,1,200038)] [2,5,8,9] [4,56] [] (fun i:{q:c8×d9 // p7 q.1/\q.1.toks=(a4u s).1/\(q.1.code=0->((q.2.Decls.length+q.2.Rules.length:Nat):Int)<=q.1.i)/\a0A q.1 q.2=a0A (a0Z s) default}=>[]) (fun i=>[(18,[.ow 200036,.ow 200038]),(1000016,[.c (y8 i.1.1.toks),.c (.i .i64 i.1.1.i),.c (.i .i64 i.1.1.e),.c (.i .i64 i.1.1.code),.c (.i .i64 i.1.1.p)])]) (fun i=>[(200036,a1y,i.1.2.Decls.map i3.cells),(200038,c4j,i.1.2.Rules.map (c6.cells true true))]) (fun i=>a8u i.1.1) (⟨(a0Z s,default),hro,rfl,fun _=>Int.le_refl _,rfl⟩) ?_;intro S0 hS0 i;obtain⟨⟨q,ds,rs⟩,hq,hqt,hal,hqe⟩:=i;simp only at hq hqt hal hqe;have hqt':=hqt.symm;have hwq:=a9Q hq;have hf7:=a1e hq 7;have hwf:=a9Q hf7;simp only[go_sem,pc_susB,hS0,hqt',hwq,hwf];(repeat' first|apply cj'|intro hc|apply z6);(all_goals(try((first|refine u1 1 rfl ?_|refine u1 2 rfl ?_);intro S hS B0 hB;simp only[go_sem,pc_susB,hS0,hqt',hwq,hwf,V7,q0O]at hS hB;(repeat(first|replace hS:=And.right hS|replace hS:=CJ.r hS));have Rr8:=congrArg (fun s:St=>s.sl 8) hS;have Rr9:=congrArg (fun s:St=>s.sl 9) hS;have Rr10:=congrArg (fun s:St=>s.sl 10) hS;have Rr69:=congrArg (fun s:St=>s.sl 69) hS;have Rr70:=congrArg (fun s:St=>s.sl 70) hS;have Rr118:=congrArg (fun s:St=>s.sl 118) hS;have Rb18:=congrArg (fun s:St=>s.bx 18) hS;have Rb1000016:=congrArg (fun s:St=>s.bx 1000016) hS;have Ro200036:=congrArg (fun s:St=>s.ow 200036) hS;have Ro200038:=congrArg (fun s:St=>s.ow 200038) hS;clear hS;simp only[go_sem,pc_susB,hS0,hqt',hwq,hwf]at Rr8 Rr9 Rr10 Rr69 Rr70 Rr118 Rb18 Rb1000016 Ro200036 Ro200038;(try clear hc);intro K hc;simp only[go_sem,pc_susB,hS0,hqt',hwq,hwf,Rr8,Rr9,Rr10,Rr69,Rr70,Rr118,Rb18,Rb1000016,Ro200036,Ro200038,hB,V8,q0K,V6,q0G]at hc ⊢;simp only[go_sem,pc_susB,hS0,hqt',hwq,hwf,Rr8,Rr9,Rr10,Rr69,Rr70,Rr118,Rb18,Rb1000016,Ro200036,Ro200038,hB,A7u,A7y,A6L,A6K,A7t,A6J,nf_put_sub,A7w,A7v,nf_put_susK,nf_put_dip,nf_put_put,A7x,A7s,A6M,j8,j6,j4,j5,j7,nf_sub_sub]at hc ⊢;(first|(simp only[hc,q0R,q0I];done)|((repeat' first|exact hc|apply V1);done)))));all_goals try exact om'
 ·exact⟨hq.1.1,hc.2⟩
 ·exact hq
 ·rename_i hg hk;have hlt:(l9 q 7).i<(l9 q 7).toks.length:=by rw[(a2f q 7).1,(a2f q 7).2];exact hg.2
  exact a0m hf7 hlt
 ·rename_i hg hk;have:=hal (by simpa using hg.1);have:=hq.1.2;have:=hq.2;omega
 ·rename_i hg hk;have e:=c9Q (rs:=rs) (ds:=ds) hk;rw[fullD_1 hc]at e;obtain⟨n1,n2,n3,n4,n5⟩:=b3c hq hqt hal hqe (by rw[a4t,hg.1,V0 hg.2];rfl) e (by simp only[W5,q0P];omega)
  (refine lpK_n2 (⟨(_,⟨_,_⟩),n1,n2,n3,n4⟩) _ (by simp only[go_sem,pc_susB];try rfl) ?_;simp only[go_sem,pc_susB,hS0,hqt',hwq,hwf]<;>repeat' first|apply V1|exact on'|fail)
 ·rename_i hg hk;exact a0m hq hg.2
 ·rename_i hg hk;have:=hal (by simpa using hg.1);have:=hq.1.2;have:=hq.2;omega
 ·rename_i hg hk;have e:=c9Q (rs:=rs) (ds:=ds) hk;rw[fullD_0 hc]at e;obtain⟨n1,n2,n3,n4,n5⟩:=b3c hq hqt hal hqe (by rw[a4t,hg.1,V0 hg.2];rfl) e (by simp only[W5,q0P];omega)
  (refine lpK_n2 (⟨(_,⟨_,_⟩),n1,n2,n3,n4⟩) _ (by simp only[go_sem,pc_susB];try rfl) ?_;simp only[go_sem,pc_susB,hS0,hqt',hwq,hwf]<;>repeat' first|apply V1|exact on'|fail)
 ·rename_i hg;exact⟨hq.1.1,hg.2⟩
 ·exact⟨hq,hq.1.1⟩
 ·exact⟨hq,hq.1.1⟩
 ·exact hq
 ·exact hf7
 ·rename_i hg hk;have:=hal (by simpa using hg.1);have:=hq.1.2;have:=hq.2;omega
 ·rename_i hg hk;have e:=c9R (rs:=rs) (ds:=ds) hk;rw[fullU_1 hc]at e;obtain⟨n1,n2,n3,n4,n5⟩:=b3c hq hqt hal hqe (by rw[a4t,hg.1,V0 hg.2];rfl) e (by simp only[W5,q0P];omega)
  (refine lpK_n2 (⟨(_,⟨_,_⟩),n1,n2,n3,n4⟩) _ (by simp only[go_sem,pc_susB];try rfl) ?_;simp only[go_sem,pc_susB,hS0,hqt',hwq,hwf]<;>repeat' first|apply V1|exact on'|fail)
 ·exact hq
 ·rename_i hg hk;have:=hal (by simpa using hg.1);have:=hq.1.2;have:=hq.2;omega
 ·rename_i hg hk;have e:=c9R (rs:=rs) (ds:=ds) hk;rw[fullU_0 hc]at e;obtain⟨n1,n2,n3,n4,n5⟩:=b3c hq hqt hal hqe (by rw[a4t,hg.1,V0 hg.2];rfl) e (by simp only[W5,q0P];omega)
  (refine lpK_n2 (⟨(_,⟨_,_⟩),n1,n2,n3,n4⟩) _ (by simp only[go_sem,pc_susB];try rfl) ?_;simp only[go_sem,pc_susB,hS0,hqt',hwq,hwf]<;>repeat' first|apply V1|exact on'|fail)
 ·rename_i hg;rw[parse_2 (q:=(q,⟨ds,rs⟩)) hlx hqe (go_no hg) hc];exact⟨⟨⟨rfl,rfl⟩,rfl⟩,rfl⟩
 ·rename_i hg;rw[parse_3 (q:=(q,⟨ds,rs⟩)) hlx hqe (go_no hg) hc];exact⟨⟨⟨rfl,rfl⟩,rfl⟩,rfl⟩
noncomputable def a9c:CT:=o9 (fun(x:(List UInt8))=>a9v x)
@[go_sem] def c8u:=fun s=>nm' (fQ' a9c rfl s)
def a9g:List (List UInt8):=[[115,116,97,116,101,32,112,111,114,116,47,50,46,10,102,111,114,119,97,114,100,40,79,41,32,58,45,32,112,97,99,107,101,116,40,83,44,32,73,44,32,65,44,32,66,41,44,32,112,111,114,116,40,83,44,32,79,41,44,32,79,32,33,61,32,73,46,10],[115,116,97,116,101,32,112,111,114,116,47,50,46,10,115,116,97,116,101,32,115,101,101,110,47,51,46,10,118,105,101,119,32,107,110,111,119,110,47,50,46,10,107,110,111,119,110,40,83,44,32,65,41,32,58,45,32,115,101,101,110,40,83,44,32,65,44,32,80,41,46,10,102,111,114,119,97,114,100,40,79,41,32,58,45,32,112,97,99,107,101,116,40,83,44,32,73,44,32,65,44,32,66,41,44,32,115,101,101,110,40,83,44,32,66,44,32,79,41,46,10,102,111,114,119,97,114,100,40,79,41,32,58,45,32,112,97,99,107,101,116,40,83,44,32,73,44,32,65,44,32,66,41,44,32,110,111,116,32,107,110,111,119,110,40,83,44,32,66,41,44,32,112,111,114,116,40,83,44,32,79,41,44,32,79,32,33,61,32,73,46,10,43,115,101,101,110,40,83,44,32,65,44,32,73,41,32,58,45,32,112,97,99,107,101,116,40,83,44,32,73,44,32,65,44,32,66,41,44,32,110,111,116,32,107,110,111,119,110,40,83,44,32,65,41,46,10],[115,116,97,116,101,32,112,111,114,116,47,50,46,10,115,116,97,116,101,32,100,101,110,121,47,50,46,10,101,118,101,110,116,32,98,108,111,99,107,47,50,46,10,101,118,101,110,116,32,97,108,108,111,119,47,50,46,10,43,100,101,110,121,40,65,44,32,66,41,32,58,45,32,98,108,111,99,107,40,65,44,32,66,41,46,10,45,100,101,110,121,40,65,44,32,66,41,32,58,45,32,97,108,108,111,119,40,65,44,32,66,41,46,10,102,111,114,119,97,114,100,40,79,41,32,58,45,32,112,97,99,107,101,116,40,83,44,32,73,44,32,65,44,32,66,41,44,32,110,111,116,32,100,101,110,121,40,65,44,32,66,41,44,32,112,111,114,116,40,83,44,32,79,41,44,32,79,32,33,61,32,73,46,10],[115,116,97,116,101,32,108,105,110,107,47,51,46,10,115,116,97,116,101,32,104,111,115,116,47,51,46,10,101,118,101,110,116,32,117,112,47,51,46,10,101,118,101,110,116,32,100,111,119,110,47,51,46,10,101,118,101,110,116,32,106,111,105,110,47,51,46,10,118,105,101,119,32,112,97,116,104,47,50,46,10,118,105,101,119,32,118,105,97,47,51,46,10,112,97,116,104,40,83,44,32,84,41,32,58,45,32,108,105,110,107,40,83,44,32,80,44,32,84,41,46,10,112,97,116,104,40,83,44,32,84,41,32,58,45,32,108,105,110,107,40,83,44,32,80,44,32,85,41,44,32,112,97,116,104,40,85,44,32,84,41,46,10,118,105,97,40,83,44,32,80,44,32,65,41,32,58,45,32,104,111,115,116,40,83,44,32,80,44,32,65,41,46,10,118,105,97,40,83,44,32,80,44,32,65,41,32,58,45,32,108,105,110,107,40,83,44,32,80,44,32,84,41,44,32,118,105,97,40,84,44,32,81,44,32,65,41,44,32,110,111,116,32,110,101,97,114,40,83,44,32,65,41,46,10,118,105,101,119,32,110,101,97,114,47,50,46,10,110,101,97,114,40,83,44,32,65,41,32,58,45,32,104,111,115,116,40,83,44,32,80,44,32,65,41,46,10,102,111,114,119,97,114,100,40,80,41,32,58,45,32,112,97,99,107,101,116,40,83,44,32,73,44,32,65,44,32,66,41,44,32,118,105,97,40,83,44,32,80,44,32,66,41,46,10,43,108,105,110,107,40,83,44,32,80,44,32,84,41,32,58,45,32,117,112,40,83,44,32,80,44,32,84,41,46,10,45,108,105,110,107,40,83,44,32,80,44,32,84,41,32,58,45,32,100,111,119,110,40,83,44,32,80,44,32,84,41,46,10,43,104,111,115,116,40,83,44,32,80,44,32,65,41,32,58,45,32,106,111,105,110,40,83,44,32,80,44,32,65,41,46,10],[115,116,97,116,101,32,109,111,100,101,47,49,46,10,101,118,101,110,116,32,115,101,116,47,49,46,10,43,109,111,100,101,40,77,41,32,58,45,32,115,101,116,40,77,41,46,10,45,109,111,100,101,40,78,41,32,58,45,32,115,101,116,40,77,41,44,32,109,111,100,101,40,78,41,44,32,78,32,33,61,32,77,46,10,102,111,114,119,97,114,100,40,49,41,32,58,45,32,112,97,99,107,101,116,40,83,44,32,73,44,32,65,44,32,66,41,44,32,109,111,100,101,40,111,110,41,44,32,73,32,33,61,32,49,46,10,102,111,114,119,97,114,100,40,50,41,32,58,45,32,112,97,99,107,101,116,40,83,44,32,73,44,32,65,44,32,66,41,44,32,110,111,116,32,109,111,100,101,40,111,110,41,44,32,66,32,33,61,32,55,46,10],[115,116,97,116,101,32,112,111,114,116,47,50,46,10,102,111,114,119,97,114,100,40,79,41,32,58,45,32,112,97,99,107,101,116,40,83,44,32,73,44,32,65,44,32,65,41,44,32,112,111,114,116,40,83,44,32,79,41,46,10,102,111,114,119,97,114,100,40,79,41,32,58,45,32,112,97,99,107,101,116,40,83,44,32,73,44,32,65,44,32,66,41,44,32,65,32,60,32,66,44,32,112,111,114,116,40,83,44,32,79,41,46,10],[115,116,97,116,101,32,97,47,49,46,10,115,116,97,116,101,32,98,47,49,46,10,101,118,101,110,116,32,116,105,99,107,47,48,46,10,118,105,101,119,32,99,47,49,46,10,118,105,101,119,32,100,47,49,46,10,99,40,88,41,32,58,45,32,97,40,88,41,44,32,110,111,116,32,98,40,88,41,46,10,100,40,88,41,32,58,45,32,97,40,88,41,44,32,110,111,116,32,99,40,88,41,44,32,88,32,60,61,32,51,46,10,43,98,40,88,41,32,58,45,32,116,105,99,107,40,41,44,32,99,40,88,41,46,10,45,98,40,88,41,32,58,45,32,116,105,99,107,40,41,44,32,100,40,88,41,46,10,102,111,114,119,97,114,100,40,88,41,32,58,45,32,112,97,99,107,101,116,40,83,44,32,73,44,32,65,44,32,66,41,44,32,99,40,88,41,46,10],[115,116,97,116,101,32,97,47,50,46,10,115,116,97,116,101,32,98,47,48,46,10,101,118,101,110,116,32,101,47,49,46,10,118,105,101,119,32,99,47,50,46,10,99,40,88,44,32,89,41,32,58,45,32,97,40,88,44,32,89,41,46,10,99,40,88,44,32,89,41,32,58,45,32,99,40,88,44,32,90,41,44,32,99,40,90,44,32,89,41,46,10,43,97,40,88,44,32,89,41,32,58,45,32,101,40,88,41,44,32,89,32,61,32,50,46,10,45,97,40,88,44,32,88,41,32,58,45,32,101,40,88,41,46,10,43,98,40,41,32,58,45,32,112,97,99,107,101,116,40,49,44,32,73,44,32,65,44,32,53,41,44,32,110,111,116,32,98,40,41,46,10,102,111,114,119,97,114,100,40,51,41,32,58,45,32,112,97,99,107,101,116,40,83,44,32,49,44,32,65,44,32,66,41,44,32,98,40,41,44,32,65,32,61,32,52,46,10]]
def c9y(k:Nat):([[C.s [115,116,97,116,101,32,112,111,114,116,47,50,46,10,102,111,114,119,97,114,100,40,79,41,32,58,45,32,112,97,99,107,101,116,40,83,44,32,73,44,32,65,44,32,66,41,44,32,112,111,114,116,40,83,44,32,79,41,44,32,79,32,33,61,32,73,46,10]],[C.s [115,116,97,116,101,32,112,111,114,116,47,50,46,10,115,116,97,116,101,32,115,101,101,110,47,51,46,10,118,105,101,119,32,107,110,111,119,110,47,50,46,10,107,110,111,119,110,40,83,44,32,65,41,32,58,45,32,115,101,101,110,40,83,44,32,65,44,32,80,41,46,10,102,111,114,119,97,114,100,40,79,41,32,58,45,32,112,97,99,107,101,116,40,83,44,32,73,44,32,65,44,32,66,41,44,32,115,101,101,110,40,83,44,32,66,44,32,79,41,46,10,102,111,114,119,97,114,100,40,79,41,32,58,45,32,112,97,99,107,101,116,40,83,44,32,73,44,32,65,44,32,66,41,44,32,110,111,116,32,107,110,111,119,110,40,83,44,32,66,41,44,32,112,111,114,116,40,83,44,32,79,41,44,32,79,32,33,61,32,73,46,10,43,115,101,101,110,40,83,44,32,65,44,32,73,41,32,58,45,32,112,97,99,107,101,116,40,83,44,32,73,44,32,65,44,32,66,41,44,32,110,111,116,32,107,110,111,119,110,40,83,44,32,65,41,46,10]],[C.s [115,116,97,116,101,32,112,111,114,116,47,50,46,10,115,116,97,116,101,32,100,101,110,121,47,50,46,10,101,118,101,110,116,32,98,108,111,99,107,47,50,46,10,101,118,101,110,116,32,97,108,108,111,119,47,50,46,10,43,100,101,110,121,40,65,44,32,66,41,32,58,45,32,98,108,111,99,107,40,65,44,32,66,41,46,10,45,100,101,110,121,40,65,44,32,66,41,32,58,45,32,97,108,108,111,119,40,65,44,32,66,41,46,10,102,111,114,119,97,114,100,40,79,41,32,58,45,32,112,97,99,107,101,116,40,83,44,32,73,44,32,65,44,32,66,41,44,32,110,111,116,32,100,101,110,121,40,65,44,32,66,41,44,32,112,111,114,116,40,83,44,32,79,41,44,32,79,32,33,61,32,73,46,10]],[C.s [115,116,97,116,101,32,108,105,110,107,47,51,46,10,115,116,97,116,101,32,104,111,115,116,47,51,46,10,101,118,101,110,116,32,117,112,47,51,46,10,101,118,101,110,116,32,100,111,119,110,47,51,46,10,101,118,101,110,116,32,106,111,105,110,47,51,46,10,118,105,101,119,32,112,97,116,104,47,50,46,10,118,105,101,119,32,118,105,97,47,51,46,10,112,97,116,104,40,83,44,32,84,41,32,58,45,32,108,105,110,107,40,83,44,32,80,44,32,84,41,46,10,112,97,116,104,40,83,44,32,84,41,32,58,45,32,108,105,110,107,40,83,44,32,80,44,32,85,41,44,32,112,97,116,104,40,85,44,32,84,41,46,10,118,105,97,40,83,44,32,80,44,32,65,41,32,58,45,32,104,111,115,116,40,83,44,32,80,44,32,65,41,46,10,118,105,97,40,83,44,32,80,44,32,65,41,32,58,45,32,108,105,110,107,40,83,44,32,80,44,32,84,41,44,32,118,105,97,40,84,44,32,81,44,32,65,41,44,32,110,111,116,32,110,101,97,114,40,83,44,32,65,41,46,10,118,105,101,119,32,110,101,97,114,47,50,46,10,110,101,97,114,40,83,44,32,65,41,32,58,45,32,104,111,115,116,40,83,44,32,80,44,32,65,41,46,10,102,111,114,119,97,114,100,40,80,41,32,58,45,32,112,97,99,107,101,116,40,83,44,32,73,44,32,65,44,32,66,41,44,32,118,105,97,40,83,44,32,80,44,32,66,41,46,10,43,108,105,110,107,40,83,44,32,80,44,32,84,41,32,58,45,32,117,112,40,83,44,32,80,44,32,84,41,46,10,45,108,105,110,107,40,83,44,32,80,44,32,84,41,32,58,45,32,100,111,119,110,40,83,44,32,80,44,32,84,41,46,10,43,104,111,115,116,40,83,44,32,80,44,32,65,41,32,58,45,32,106,111,105,110,40,83,44,32,80,44,32,65,41,46,10]],[C.s [115,116,97,116,101,32,109,111,100,101,47,49,46,10,101,118,101,110,116,32,115,101,116,47,49,46,10,43,109,111,100,101,40,77,41,32,58,45,32,115,101,116,40,77,41,46,10,45,109,111,100,101,40,78,41,32,58,45,32,115,101,116,40,77,41,44,32,109,111,100,101,40,78,41,44,32,78,32,33,61,32,77,46,10,102,111,114,119,97,114,100,40,49,41,32,58,45,32,112,97,99,107,101,116,40,83,44,32,73,44,32,65,44,32,66,41,44,32,109,111,100,101,40,111,110,41,44,32,73,32,33,61,32,49,46,10,102,111,114,119,97,114,100,40,50,41,32,58,45,32,112,97,99,107,101,116,40,83,44,32,73,44,32,65,44,32,66,41,44,32,110,111,116,32,109,111,100,101,40,111,110,41,44,32,66,32,33,61,32,55,46,10]],[C.s [115,116,97,116,101,32,112,111,114,116,47,50,46,10,102,111,114,119,97,114,100,40,79,41,32,58,45,32,112,97,99,107,101,116,40,83,44,32,73,44,32,65,44,32,65,41,44,32,112,111,114,116,40,83,44,32,79,41,46,10,102,111,114,119,97,114,100,40,79,41,32,58,45,32,112,97,99,107,101,116,40,83,44,32,73,44,32,65,44,32,66,41,44,32,65,32,60,32,66,44,32,112,111,114,116,40,83,44,32,79,41,46,10]],[C.s [115,116,97,116,101,32,97,47,49,46,10,115,116,97,116,101,32,98,47,49,46,10,101,118,101,110,116,32,116,105,99,107,47,48,46,10,118,105,101,119,32,99,47,49,46,10,118,105,101,119,32,100,47,49,46,10,99,40,88,41,32,58,45,32,97,40,88,41,44,32,110,111,116,32,98,40,88,41,46,10,100,40,88,41,32,58,45,32,97,40,88,41,44,32,110,111,116,32,99,40,88,41,44,32,88,32,60,61,32,51,46,10,43,98,40,88,41,32,58,45,32,116,105,99,107,40,41,44,32,99,40,88,41,46,10,45,98,40,88,41,32,58,45,32,116,105,99,107,40,41,44,32,100,40,88,41,46,10,102,111,114,119,97,114,100,40,88,41,32,58,45,32,112,97,99,107,101,116,40,83,44,32,73,44,32,65,44,32,66,41,44,32,99,40,88,41,46,10]],[C.s [115,116,97,116,101,32,97,47,50,46,10,115,116,97,116,101,32,98,47,48,46,10,101,118,101,110,116,32,101,47,49,46,10,118,105,101,119,32,99,47,50,46,10,99,40,88,44,32,89,41,32,58,45,32,97,40,88,44,32,89,41,46,10,99,40,88,44,32,89,41,32,58,45,32,99,40,88,44,32,90,41,44,32,99,40,90,44,32,89,41,46,10,43,97,40,88,44,32,89,41,32,58,45,32,101,40,88,41,44,32,89,32,61,32,50,46,10,45,97,40,88,44,32,88,41,32,58,45,32,101,40,88,41,46,10,43,98,40,41,32,58,45,32,112,97,99,107,101,116,40,49,44,32,73,44,32,65,44,32,53,41,44,32,110,111,116,32,98,40,41,46,10,102,111,114,119,97,114,100,40,51,41,32,58,45,32,112,97,99,107,101,116,40,83,44,32,49,44,32,65,44,32,66,41,44,32,98,40,41,44,32,65,32,61,32,52,46,10]]]:List (List C)).getD k [C.s []]=[C.s (a9g.getD k [])]:=a1M a9g k
def oddT:List (List UInt8):=[[32],[35],[110,111,116,32],[40],[41],[44],[46],[58,45],[88],[97,98,99],[48],[48,49],[33,61],[61],[60],[60,61],[43],[45],[47],[10],[63],[65,66,67,68,69,70,71,72,73,74,75,76,77],[97,98,99,100,101,102,103,104,105,106,107,108,109],[50,56,49,52,55,52,57,55,54,55,49,48,54,53,54],[57,97],[115,116,97,116,101,32],[112,97,99,107,101,116],[102,111,114,119,97,114,100],[195,169]]
def a1g(k:Nat):([[C.s [32]],[C.s [35]],[C.s [110,111,116,32]],[C.s [40]],[C.s [41]],[C.s [44]],[C.s [46]],[C.s [58,45]],[C.s [88]],[C.s [97,98,99]],[C.s [48]],[C.s [48,49]],[C.s [33,61]],[C.s [61]],[C.s [60]],[C.s [60,61]],[C.s [43]],[C.s [45]],[C.s [47]],[C.s [10]],[C.s [63]],[C.s [65,66,67,68,69,70,71,72,73,74,75,76,77]],[C.s [97,98,99,100,101,102,103,104,105,106,107,108,109]],[C.s [50,56,49,52,55,52,57,55,54,55,49,48,54,53,54]],[C.s [57,97]],[C.s [115,116,97,116,101,32]],[C.s [112,97,99,107,101,116]],[C.s [102,111,114,119,97,114,100]],[C.s [195,169]]]:List (List C)).getD k [C.s []]=[C.s (oddT.getD k [])]:=a1M oddT k
def a5T:List (List UInt8):=[[118,105,101,119,32,118,97,47,49,46,10,118,105,101,119,32,118,98,47,49,46,10,118,105,101,119,32,118,99,47,49,46,10],[118,97,40,88,41,32,58,45,32,118,98,40,88,41,46,10],[118,98,40,88,41,32,58,45,32,118,97,40,88,41,46,10],[118,98,40,88,41,32,58,45,32,118,99,40,88,41,44,32,110,111,116,32,118,97,40,88,41,46,10],[118,99,40,88,41,32,58,45,32,118,97,40,88,41,44,32,110,111,116,32,118,98,40,88,41,46,10],[118,97,40,49,41,46,10],[118,99,40,88,41,32,58,45,32,118,97,40,88,41,46,10],[118,97,40,88,41,32,58,45,32,110,111,116,32,118,99,40,88,41,44,32,88,32,61,32,49,46,10],[118,97,40,89,41,46,10]]
def b0V(k:Nat):([[C.s [118,105,101,119,32,118,97,47,49,46,10,118,105,101,119,32,118,98,47,49,46,10,118,105,101,119,32,118,99,47,49,46,10]],[C.s [118,97,40,88,41,32,58,45,32,118,98,40,88,41,46,10]],[C.s [118,98,40,88,41,32,58,45,32,118,97,40,88,41,46,10]],[C.s [118,98,40,88,41,32,58,45,32,118,99,40,88,41,44,32,110,111,116,32,118,97,40,88,41,46,10]],[C.s [118,99,40,88,41,32,58,45,32,118,97,40,88,41,44,32,110,111,116,32,118,98,40,88,41,46,10]],[C.s [118,97,40,49,41,46,10]],[C.s [118,99,40,88,41,32,58,45,32,118,97,40,88,41,46,10]],[C.s [118,97,40,88,41,32,58,45,32,110,111,116,32,118,99,40,88,41,44,32,88,32,61,32,49,46,10]],[C.s [118,97,40,89,41,46,10]]]:List (List C)).getD k [C.s []]=[C.s (a5T.getD k [])]:=a1M a5T k
def c0O(k:Nat):(a9g.getD k []).length<=1000:=by
 by_cases h:k<8
 ·have:∀k,k<8->(a9g.getD k []).length<=1000:=by decide
  exact this k h
 ·rw[List.getD,q3A (by show 8<=k;omega)];simp
def b5F(k:Nat):(oddT.getD k []).length<=20:=by
 by_cases h:k<29
 ·have:∀k,k<29->(oddT.getD k []).length<=20:=by decide
  exact this k h
 ·rw[List.getD,q3A (by show 29<=k;omega)];simp
def b0U(k:Nat):(a5T.getD k []).length<=50:=by
 by_cases h:k<9
 ·have:∀k,k<9->(a5T.getD k []).length<=50:=by decide
  exact this k h
 ·rw[List.getD,q3A (by show 9<=k;omega)];simp
def a9x(k:Int)(hpre:0<=k/\k<8):spZ 89 [(false,[.i .i64 k])] [] (.one (false,[.s (a9g.getD k.toNat [])])):=by
 refine sy' Tryz.func89 (q' 2 [ao (.mov (.k (.v false [.c (.s [])])))] (q' 4 [ao (.bsl 1 8 [.s] [(0,.k (.v false [.c (.s [115,116,97,116,101,32,112,111,114,116,47,50,46, 10,102,111,114,119,97,114,100,40,79,41,32,58,45,32,112,97,99,107,101,116,40,83,44,32,73,44,32,65,44,32,66,41,44,32,112, 111,114,116,40,83,44,32,79,41,44,32,79,32,33,61,32,73,46,10])])),(1,.k (.v false [.c (.s [115,116,97,116,101,32,112,111,114,116, 47,50,46,10,115,116,97,116,101,32,115,101,101,110,47,51,46,10,118,105,101,119,32,107,110,111,119,110,47,50,46,10,107,110, 111,119,110,40,83,44,32,65,41,32,58,45,32,115,101,101,110,40,83,44,32,65,44,32,80,41,46,10,102,111,114,119,97,114,100,40, 79,41,32,58,45,32,112,97,99,107,101,116,40,83,44,32,73,44,32,65,44,32,66,41,44,32,115,101,101,110,40,83,44,32,66,44,32, 79,41,46,10,102,111,114,119,97,114,100,40,79,41,32,58,45,32,112,97,99,107,101,116,40,83,44,32,73,44,32,65,44,32,66,41,44, 32,110,111,116,32,107,110,111,119,110,40,83,44,32,66,41,44,32,112,111,114,116,40,83,44,32,79,41,44,32,79,32,33,61,32,73, 46,10,43,115,101,101,110,40,83,44,32,65,44,32,73,41,32,58,45,32,112,97,99,107,101,116,40,83,44,32,73,44,32,65,44,32,66, 41,44,32,110,111,116,32,107,110,111,119,110,40,83,44,32,65,41,46,10])])),(2,.k (.v false [.c (.s [115,116,97,116,101,32,112,111, 114,116,47,50,46,10,115,116,97,116,101,32,100,101,110,121,47,50,46,10,101,118,101,110,116,32,98,108,111,99,107,47,50,46,10, 101,118,101,110,116,32,97,108,108,111,119,47,50,46,10,43,100,101,110,121,40,65,44,32,66,41,32,58,45,32,98,108,111,99,107, 40,65,44,32,66,41,46,10,45,100,101,110,121,40,65,44,32,66,41,32,58,45,32,97,108,108,111,119,40,65,44,32,66,41,46,10,102, 111,114,119,97,114,100,40,79,41,32,58,45,32,112,97,99,107,101,116,40,83,44,32,73,44,32,65,44,32,66,41,44,32,110,111,116, 32,100,101,110,121,40,65,44,32,66,41,44,32,112,111,114,116,40,83,44,32,79,41,44,32,79,32,33,61,32,73,46,10])])),(3,.k (.v false [.c (.s [115,116,97,116,101,32,108,105,110,107,47,51,46,10,115,116,97,116,101,32,104,111,115,116,47,51,46,10,101,118,101, 110,116,32,117,112,47,51,46,10,101,118,101,110,116,32,100,111,119,110,47,51,46,10,101,118,101,110,116,32,106,111,105,110,47, 51,46,10,118,105,101,119,32,112,97,116,104,47,50,46,10,118,105,101,119,32,118,105,97,47,51,46,10,112,97,116,104,40,83,44, 32,84,41,32,58,45,32,108,105,110,107,40,83,44,32,80,44,32,84,41,46,10,112,97,116,104,40,83,44,32,84,41,32,58,45,32,108, 105,110,107,40,83,44,32,80,44,32,85,41,44,32,112,97,116,104,40,85,44,32,84,41,46,10,118,105,97,40,83,44,32,80,44,32,65, 41,32,58,45,32,104,111,115,116,40,83,44,32,80,44,32,65,41,46,10,118,105,97,40,83,44,32,80,44,32,65,41,32,58,45,32,108, 105,110,107,40,83,44,32,80,44,32,84,41,44,32,118,105,97,40,84,44,32,81,44,32,65,41,44,32,110,111,116,32,110,101,97,114,40, 83,44,32,65,41,46,10,118,105,101,119,32,110,101,97,114,47,50,46,10,110,101,97,114,40,83,44,32,65,41,32,58,45,32,104,111, 115,116,40,83,44,32,80,44,32,65,41,46,10,102,111,114,119,97,114,100,40,80,41,32,58,45,32,112,97,99,107,101,116,40,83,44, 32,73,44,32,65,44,32,66,41,44,32,118,105,97,40,83,44,32,80,44,32,66,41,46,10,43,108,105,110,107,40,83,44,32,80,44,32,84, 41,32,58,45,32,117,112,40,83,44,32,80,44,32,84,41,46,10,45,108,105,110,107,40,83,44,32,80,44,32,84,41,32,58,45,32,100, 111,119,110,40,83,44,32,80,44,32,84,41,46,10,43,104,111,115,116,40,83,44,32,80,44,32,65,41,32,58,45,32,106,111,105,110,40, 83,44,32,80,44,32,65,41,46,10])])),(4,.k (.v false [.c (.s [115,116,97,116,101,32,109,111,100,101,47,49,46,10,101,118,101,110, 116,32,115,101,116,47,49,46,10,43,109,111,100,101,40,77,41,32,58,45,32,115,101,116,40,77,41,46,10,45,109,111,100,101,40,78, 41,32,58,45,32,115,101,116,40,77,41,44,32,109,111,100,101,40,78,41,44,32,78,32,33,61,32,77,46,10,102,111,114,119,97,114, 100,40,49,41,32,58,45,32,112,97,99,107,101,116,40,83,44,32,73,44,32,65,44,32,66,41,44,32,109,111,100,101,40,111,110,41,44, 32,73,32,33,61,32,49,46,10,102,111,114,119,97,114,100,40,50,41,32,58,45,32,112,97,99,107,101,116,40,83,44,32,73,44,32,65, 44,32,66,41,44,32,110,111,116,32,109,111,100,101,40,111,110,41,44,32,66,32,33,61,32,55,46,10])])),(5,.k (.v false [.c (.s [115, 116,97,116,101,32,112,111,114,116,47,50,46,10,102,111,114,119,97,114,100,40,79,41,32,58,45,32,112,97,99,107,101,116,40,83, 44,32,73,44,32,65,44,32,65,41,44,32,112,111,114,116,40,83,44,32,79,41,46,10,102,111,114,119,97,114,100,40,79,41,32,58,45, 32,112,97,99,107,101,116,40,83,44,32,73,44,32,65,44,32,66,41,44,32,65,32,60,32,66,44,32,112,111,114,116,40,83,44,32,79, 41,46,10])])),(6,.k (.v false [.c (.s [115,116,97,116,101,32,97,47,49,46,10,115,116,97,116,101,32,98,47,49,46,10,101,118,101,110, 116,32,116,105,99,107,47,48,46,10,118,105,101,119,32,99,47,49,46,10,118,105,101,119,32,100,47,49,46,10,99,40,88,41,32,58, 45,32,97,40,88,41,44,32,110,111,116,32,98,40,88,41,46,10,100,40,88,41,32,58,45,32,97,40,88,41,44,32,110,111,116,32,99,40, 88,41,44,32,88,32,60,61,32,51,46,10,43,98,40,88,41,32,58,45,32,116,105,99,107,40,41,44,32,99,40,88,41,46,10,45,98,40,88, 41,32,58,45,32,116,105,99,107,40,41,44,32,100,40,88,41,46,10,102,111,114,119,97,114,100,40,88,41,32,58,45,32,112,97,99, 107,101,116,40,83,44,32,73,44,32,65,44,32,66,41,44,32,99,40,88,41,46,10])])),(7,.k (.v false [.c (.s [115,116,97,116,101,32,97, 47,50,46,10,115,116,97,116,101,32,98,47,48,46,10,101,118,101,110,116,32,101,47,49,46,10,118,105,101,119,32,99,47,50,46,10, 99,40,88,44,32,89,41,32,58,45,32,97,40,88,44,32,89,41,46,10,99,40,88,44,32,89,41,32,58,45,32,99,40,88,44,32,90,41,44, 32,99,40,90,44,32,89,41,46,10,43,97,40,88,44,32,89,41,32,58,45,32,101,40,88,41,44,32,89,32,61,32,50,46,10,45,97,40,88, 44,32,88,41,32,58,45,32,101,40,88,41,46,10,43,98,40,41,32,58,45,32,112,97,99,107,101,116,40,49,44,32,73,44,32,65,44,32, 53,41,44,32,110,111,116,32,98,40,41,46,10,102,111,114,119,97,114,100,40,51,41,32,58,45,32,112,97,99,107,101,116,40,83,44, 32,49,44,32,65,44,32,66,41,44,32,98,40,41,44,32,65,32,61,32,52,46,10])]))]),aV 3] (q' 5 [aM [3,0,3],aN,aD .rem 6 8,ai 1 5 9,aL,aV 2] .ret))) [.t 2] [] ?_;intro hb hE;have hm:k.tmod ((8:Nat):Int)=k:=Int.tmod_eq_of_lt hpre.1 hpre.2;simp only[go_sem,c9y,hm];repeat' first|apply cj'|intro hc|exact om'|fail
noncomputable def a2c:CT:=p6 (fun(x:Int) h=>a9x x h)
@[go_sem] def c0I:=fun k=>nm' (fP' a2c rfl k)
def a0j(c:c7)(s:List UInt8):List UInt8×c7:=
 bif (s.length:Int)==0 then([120],c)else
 bif i7 (i6 c s.length) 4==0 then(cut s 0 (i7 c s.length).toNat++cut s ((i7 c s.length).toNat+1) s.length,i6 (i6 c s.length) 4)
 else bif i7 (i6 c s.length) 4==1 then(cut s 0 (i7 c s.length).toNat,i6 (i6 c s.length) 4)
 else(cut s 0 (i7 c s.length).toNat++oddT.getD (i7 (i6 (i6 c s.length) 4) 29).toNat []++cut s (i7 c s.length).toNat s.length,i6 (i6 (i6 c s.length) 4) 29)
def b0t(s:List UInt8)(i j:Nat):(cut s i j).length<=s.length:=by rw[cut];simp only[V9,q1O];omega
def b5Y{c:c7}(h:k7 c)(s:List UInt8):k7 (a0j c s).2/\(a0j c s).1.length<=2*s.length+20:=by
 have h1:=i8 h s.length;have h2:=i8 h1 4;have h3:=i8 h2 29;rw[a0j];cases(s.length:Int)==0 with
 | true=>exact⟨h,by simp⟩
 | false=>
   rw[W6];cases i7 (i6 c s.length) 4==0 with
   | true=>refine⟨h2, ?_⟩;have:=b0t s 0 (i7 c s.length).toNat;have:=b0t s ((i7 c s.length).toNat+1) s.length;simp only[W4,W5];omega
   | false=>
     rw[W6];cases i7 (i6 c s.length) 4==1 with
     | true=>refine⟨h2, ?_⟩;have:=b0t s 0 (i7 c s.length).toNat;simp only[W4];omega
     | false=>refine⟨h3, ?_⟩;have:=b0t s 0 (i7 c s.length).toNat;have:=b0t s (i7 c s.length).toNat s.length;have:=b5F (i7 (i6 (i6 c s.length) 4) 29).toNat;simp only[W6,W5];omega
def turn_e{c:c7}{s:List UInt8}(h:((s.length:Int)==0)=true):a0j c s=([120],c):=by rw[a0j,h];rfl
def turn_0{c:c7}{s:List UInt8}(h:((s.length:Int)==0)=false)(h2:(i7 (i6 c s.length) 4==0)=true):a0j c s=(cut s 0 (i7 c s.length).toNat++cut s ((i7 c s.length).toNat+1) s.length,i6 (i6 c s.length) 4):=by rw[a0j,h,h2];rfl
def turn_1{c:c7}{s:List UInt8}(h:((s.length:Int)==0)=false)(h2:(i7 (i6 c s.length) 4==0)=false)(h3:(i7 (i6 c s.length) 4==1)=true):a0j c s=(cut s 0 (i7 c s.length).toNat,i6 (i6 c s.length) 4):=by rw[a0j,h,h2,h3];rfl
def turn_2{c:c7}{s:List UInt8}(h:((s.length:Int)==0)=false)(h2:(i7 (i6 c s.length) 4==0)=false)(h3:(i7 (i6 c s.length) 4==1)=false):a0j c s=(cut s 0 (i7 c s.length).toNat++oddT.getD (i7 (i6 (i6 c s.length) 4) 29).toNat []++cut s (i7 c s.length).toNat s.length,i6 (i6 (i6 c s.length) 4) 29):=by rw[a0j,h,h2,h3];rfl
@[go_sem] def a5v:ACode:=q' 4 [ao (.mov (.k (.v false [.c (.s [])])))] (.seq (q' 8 [am 1,ao (.lens (.t 8)),aC .eql 9 0] (ci 10 (q' 4 [ao (.mov (.k (.v false [.c (.s [120])])))] .ret)))
 (q' 11 [aM [0,1],ao (.lens (.t 12)),ac 33 [11,13],aV 5] (q' 15 [am 0,ao (.call 33 [.t 15,.k (.v false [.c (.i .i64 4)])]),aV 6] (.seq (q' 17 [am 6,aC .eql 17
 0] (ci 18 (.seq (G' 19 [aM [1,5],ao (.slcs (.t 19) none (some (.t 20))),aM [1,5],aC .add 23 1,ao (.slcs (.t 22) (some (.t 24)) none),aD .add 21 25,aV 4])
 .ret))) (.seq (q' 27 [am 6,aC .eql 27 1] (ci 28 (q' 29 [aM [1,5],ao (.slcs (.t 29) none (some (.t 30))),aV 4] .ret))) (q' 32 [ao (.bsl 1 29 [.s] [(0,.k (.v
 false [.c (.s [32])])),(1,.k (.v false [.c (.s [35])])),(2,.k (.v false [.c (.s [110,111,116,32])])),(3,.k (.v false [.c (.s [40])])),(4,.k (.v
 false [.c (.s [41])])),(5,.k (.v false [.c (.s [44])])),(6,.k (.v false [.c (.s [46])])),(7,.k (.v false [.c (.s [58,45])])),(8,.k (.v false [.c (.s
 [88])])),(9,.k (.v false [.c (.s [97,98,99])])),(10,.k (.v false [.c (.s [48])])),(11,.k (.v false [.c (.s [48,49])])),(12,.k (.v false [.c (.s
 [33,61])])),(13,.k (.v false [.c (.s [61])])),(14,.k (.v false [.c (.s [60])])),(15,.k (.v false [.c (.s [60,61])])),(16,.k (.v false [.c (.s
 [43])])),(17,.k (.v false [.c (.s [45])])),(18,.k (.v false [.c (.s [47])])),(19,.k (.v false [.c (.s [10])])),(20,.k (.v false [.c (.s [63])])),(21,
 .k (.v false [.c (.s [65,66,67,68,69,70,71,72,73,74,75,76,77])])),(22,.k (.v false [.c (.s [97,98,99,100,101,102,103,104,105,106,107,
 108,109])])),(23,.k (.v false [.c (.s [50,56,49,52,55,52,57,55,54,55,49,48,54,53,54])])),(24,.k (.v false [.c (.s [57,97])])),(25,.k (.v
 false [.c (.s [115,116,97,116,101,32])])),(26,.k (.v false [.c (.s [112,97,99,107,101,116])])),(27,.k (.v false [.c (.s [102,111,114,119,97,
 114,100])])),(28,.k (.v false [.c (.s [195,169])]))]),aV 7] (.seq (.rego [(true,0,m' 33 1),(true,1,m' 34 5),(true,2,o' 35 (.slcs (.t 33) none
 (some (.t 34)))),(true,3,m' 36 7),(true,4,m' 37 0),(true,5,m' 38 7),(true,6,n' 39 38),(true,11,m' 44 1),(true,12,m' 45 5),(true,13,o' 46
 (.slcs (.t 44) (some (.t 45)) none)),(false,7,c' 40 33 [37,39]),(false,8,i' 41 1 36 40),(false,9,l' 42 41),(false,10,o' 43 (.bin .add (.t 35) (.t
 42))),(false,14,o' 47 (.bin .add (.t 43) (.t 46))),(false,15,m' 4 47)] []) .ret)))))))
def b2q:cmp Tryz.prog Tryz.f90=some a5v:=by kernel_rfl
def b5n(c:c7)(s:List UInt8)(hpre:k7 c/\s.length<=100000):spZ 90 [(false,[.mp [.sl false [.i .u8 0] (c.b.map cU8),.i .i64 c.i,.i .i64 c.h]]),(false,[.s s])] [(0,(false,[.mp [.sl false [.i .u8 0] ((((a0j c s).2).b).map cU8),.i .i64 (((a0j c s).2).i),.i .i64 (((a0j c s).2).h)]]))] (.one (false,[.s ((a0j c s).1)])):=by
 refine sq' false false (some 0) Tryz.func90 b2q [.t 4] [(33,[0],l5)] ?_;intro hb hE;simp only[go_sem]at hb;simp only[a5v,x'];obtain⟨hp,hl⟩:=hpre;have h1:=i8 hp s.length;have h2:=i8 h1 4;have hb3:0<=i7 (i6 (i6 c s.length) 4) ((29:Nat):Int)/\i7 (i6 (i6 c s.length) 4) ((29:Nat):Int)<((29:Nat):Int):=j9 _ (by decide);have hbs:(s.length:Int)≠0->0<=i7 c s.length/\i7 c s.length<s.length:=fun h=>j9 c (n:=s.length) (by omega)
 have hcl:=b0t s;refine aw_seq (A3s ?_);simp only[go_sem,a1g,pc_susB];refine aft_n (aw_seq (A3s ?_));simp only[go_sem,a1g,pc_susB];refine cj' (fun hc=>?_) (fun hc=>?_)
 ·refine aft_r ?_;simp only[go_sem,a1g,pc_susB];rw[turn_e hc];exact⟨rfl,rfl⟩
 have hbs:=hbs (by simpa using hc);have hw:IntKind.i64.wrap (i7 c s.length+1)=i7 c s.length+1:=IntWalk.i64_in _ ⟨by omega,by omega⟩;have hwn:(i7 c s.length+1).toNat=(i7 c s.length).toNat+1:=by omega
 refine aft_n (aw_seq (A3s ?_));simp only[go_sem,a1g,pc_susB,hw,hwn];refine cj' hp (aft_n (aw_seq (A3s ?_)));simp only[go_sem,a1g,pc_susB,hw,hwn];refine cj' h1 (aft_n (aw_seq (A3s ?_)));simp only[go_sem,a1g,pc_susB,hw,hwn];refine cj' (fun hk=>?_) (fun hk=>?_)
 ·refine cj' (by omega) (cj' (by omega) (cj' ?_ (aft_r ?_)))
  ·have:=hcl 0 (i7 c s.length).toNat;have:=hcl ((i7 c s.length).toNat+1) s.length;omega
  ·simp only[go_sem,a1g,pc_susB,hw,hwn];rw[turn_0 hc hk];exact⟨rfl,rfl⟩
 refine aft_n (aw_seq (A3s ?_));simp only[go_sem,a1g,pc_susB,hw,hwn];refine cj' (fun hk1=>?_) (fun hk1=>?_)
 ·refine cj' (by omega) (aft_r ?_);simp only[go_sem,a1g,pc_susB,hw,hwn];rw[turn_1 hc hk hk1];exact⟨rfl,rfl⟩
 refine aft_n (aw_seq (A3s ?_));simp only[go_sem,a1g,pc_susB,hw,hwn];refine aft_n (a1v 4096 ?_)
 (try refine A3s ?_);simp only[go_sem,a1g,pc_susB,hw,hwn,Option.toList,q1T,q0J];repeat' first|apply cj'|intro hc|exact om'|fail
 ·exact h2
 ·have h5:=hcl 0 (i7 c s.length).toNat;have h7:=b5F (i7 (i6 (i6 c s.length) 4) ((29:Nat):Int)).toNat
  exact q2J (Nat.add_le_add h5 h7) (by omega)
 ·have h5:=hcl 0 (i7 c s.length).toNat;have h6:=hcl (i7 c s.length).toNat s.length;have h7:=b5F (i7 (i6 (i6 c s.length) 4) ((29:Nat):Int)).toNat
  exact q2J (Nat.add_le_add (Nat.add_le_add h5 h7) h6) (by omega)
 ·rw[turn_2 hc hk hk1];exact⟨rfl,rfl⟩
noncomputable def a3u:CT:=p6 (fun(x:c7×(List UInt8)) h=>b5n x.1 x.2 h)
@[go_sem] def c4T:=fun x0 x1 x2 s=>nm' (fP' a3u rfl (⟨x0,x1,x2⟩,s))
def b0W:Nat->c7->List UInt8->List UInt8×c7
 | 0,c,s=>(s,c)
 | n+1,c,s=>b0W n (i6 c 8) (s++a5T.getD (1+i7 c 8).toNat [])
def c5B(c:c7):c7:=i6 (i6 c 8) 2
def a1Q(c:c7):List UInt8×c7:=
 bif i7 (i6 c 8) 2==0 then b0W (1+i7 (c5B c) 4).toNat (i6 (c5B c) 4) (a9g.getD (i7 c 8).toNat []++a5T.getD 0 [])
 else(a9g.getD (i7 c 8).toNat [],c5B c)
def a2W(c:c7):List UInt8×c7:=bif i7 (a1Q c).2 5==0 then a0j (i6 (a1Q c).2 5) (a1Q c).1 else((a1Q c).1,i6 (a1Q c).2 5)
def l19_y{c:c7}{q:List UInt8×c7}(h:a1Q c=q)(h2:(i7 q.2 5==0)=true):a2W c=a0j (i6 q.2 5) q.1:=by rw[a2W,h,h2];rfl
def l19_n{c:c7}{q:List UInt8×c7}(h:a1Q c=q)(h2:(i7 q.2 5==0)=false):a2W c=(q.1,i6 q.2 5):=by rw[a2W,h,h2];rfl
def b5y(c:c7)(hpre:k7 c):spZ 32 [(false,[.mp [.sl false [.i .u8 0] (c.b.map cU8),.i .i64 c.i,.i .i64 c.h]])] [(0,(false,[.mp [.sl false [.i .u8 0] ((((a2W c).2).b).map cU8),.i .i64 (((a2W c).2).i),.i .i64 (((a2W c).2).h)]]))] (.one (false,[.s ((a2W c).1)])):=by
 refine sx' false false (some 0) Tryz.func32 (q' 2 [ao (.mov (.k (.v false [.c (.s [])])))] (q' 6 [am 0,ao (.call 33 [.t 6,.k (.v false [.c (.i .i64 8)])]),ac 89 [7],aV 3] (q' 9 [ao (.bsl 1 9 [.s] [(0,.k (.v false [.c (.s [118,105,101,119,32,118,97,47,49,46,10,118,105,101,119,32,118,98,47,49,46,10,118,105,101,119,32,118,99,47,49, 46,10])])),(1,.k (.v false [.c (.s [118,97,40,88,41,32,58,45,32,118,98,40,88,41,46,10])])),(2,.k (.v false [.c (.s [118,98,40,88,41, 32,58,45,32,118,97,40,88,41,46,10])])),(3,.k (.v false [.c (.s [118,98,40,88,41,32,58,45,32,118,99,40,88,41,44,32,110,111,116, 32,118,97,40,88,41,46,10])])),(4,.k (.v false [.c (.s [118,99,40,88,41,32,58,45,32,118,97,40,88,41,44,32,110,111,116,32,118,98, 40,88,41,46,10])])),(5,.k (.v false [.c (.s [118,97,40,49,41,46,10])])),(6,.k (.v false [.c (.s [118,99,40,88,41,32,58,45,32,118,97, 40,88,41,46,10])])),(7,.k (.v false [.c (.s [118,97,40,88,41,32,58,45,32,110,111,116,32,118,99,40,88,41,44,32,88,32,61,32,49, 46,10])])),(8,.k (.v false [.c (.s [118,97,40,89,41,46,10])]))]),aV 4] (.seq (q' 10 [am 0,ao (.call 33 [.t 10,.k (.v false [.c (.i .i64 2)])]),aC .eql 11 0] (ci 12 (q' 13 [aM [3,4],ao (.ia 1 (.t 14) (k' 0)),aL,aD .add 13 16,aV 3] (q' 18 [am 0,ao (.call 33 [.t 18,.k (.v false [.c (.i .i64 4)])]),ao (.bin .add (k' 1) (.t 19)),aV 5] (fo 0 21 [am 5,aC .gtr 21 0] 22 1 (g' 25 [aM [3,4,0],ao (.call 33 [.t 27,.k (.v false [.c (.i .i64 8)])]),ao (.bin .add (k' 1) (.t 28)),ai 1 26 29,aL,aD .add 25 31,aV 3]) (g' 23 [am 5,aC .sub 23 1,aV 5])))))) (.seq (q' 33 [am 0,ao (.call 33 [.t 33,.k (.v false [.c (.i .i64 5)])]),aC .eql 34 0] (ci 35 (g' 36 [aM [0,3],ac 90 [36,37],aV 3]))) (q' 39 [am 3,aV 2] .ret)))))) [.t 2] [(33,[0],l5),(89,[],a2c),(90,[0],a3u)] ?_;intro hb hE;have h1:=i8 hpre 8;have h2:=i8 h1 2;have h3:=i8 h2 4;have hb8:=j9 c (n:=8) (by omega);have hb4:=j9 (i6 (i6 c 8) 2) (n:=4) (by omega);have hl0:=c0O (i7 c 8).toNat
 have hl1:=b0U 0;have hw:IntKind.i64.wrap (1+i7 (i6 (i6 c 8) 2) 4)=1+i7 (i6 (i6 c 8) 2) 4:=IntWalk.i64_in _ ⟨by omega,by omega⟩;simp only[go_sem,b0V,hw];repeat' first|apply cj'|intro hc|exact om'|fail
 ·exact hpre
 ·exact h1
 ·exact h2
 ·have hm:a1Q c=b0W (1+i7 (i6 (i6 c 8) 2) 4).toNat (i6 (i6 (i6 c 8) 2) 4) (a9g.getD (i7 c 8).toNat []++a5T.getD 0 []):=by rw[a1Q,hc];rfl
  refine a1v 1152 ?_;refine lq' false [0,4] [] [] (fun i:{q:Nat×c7×List UInt8 // (q.1<=4/\k7 q.2.1)/\q.2.2.length+50*q.1<=1300/\b0W q.1 q.2.1 q.2.2=a1Q c}=>[(3,slV (.s i.1.2.2)),(5,slV (.i .i64 i.1.1))]) (fun i=>[(1,[.c (.sl false [.i .u8 0] (i.1.2.1.b.map cU8)),.c (.i .i64 i.1.2.1.i),.c (.i .i64 i.1.2.1.h)])]) nl' (fun i=>i.1.1) (⟨((1+i7 (i6 (i6 c 8) 2) 4).toNat,i6 (i6 (i6 c 8) 2) 4,a9g.getD (i7 c 8).toNat []++a5T.getD 0 []),⟨by show(1+i7 (i6 (i6 c 8) 2) 4).toNat<=4;omega,h3⟩,by show(a9g.getD (i7 c 8).toNat []++a5T.getD 0 []).length+50*(1+i7 (i6 (i6 c 8) 2) 4).toNat<=1300;rw[W5];omega,hm.symm⟩) ?_;intro S0 hS0 i;obtain⟨⟨k,d,s⟩,⟨hk,hd⟩,hls,he⟩:=i;simp only at hk hd hls he;have hb8:=j9 d (n:=8) (by omega);have hw8:IntKind.i64.wrap (1+i7 d 8)=1+i7 d 8:=IntWalk.i64_in _ ⟨by omega,by omega⟩;simp only[go_sem,b0V,hw,hS0,hw8];repeat' first|apply cj'|intro hc|exact om'|fail
  ·exact hd
  ·have h5:=b0U (1+i7 d 8).toNat
   omega
  ·have h5:=i8 hd 8;have h7:=b0U (1+i7 d 8).toNat
   have hw:IntKind.i64.wrap ((k:Int)-1)=((k-1:Nat):Int):=by rw[IntWalk.i64_in _ ⟨by omega,by omega⟩];omega
   have he2:b0W (k-1) (i6 d 8) (s++a5T.getD (1+i7 d 8).toNat [])=a1Q c:=by rw[<-he,show k=k-1+1 by omega];rfl
   (refine lpK_n2 (⟨(k-1,i6 d 8,s++a5T.getD (1+i7 d 8).toNat []),⟨by show k-1<=4;omega,h5⟩,by show(s++a5T.getD (1+i7 d 8).toNat []).length+50*(k-1)<=1300;rw[W5];omega,he2⟩) _ rfl ?_;simp only[go_sem,b0V,hw,hS0,hw8]<;>repeat' first|apply V1|exact on'|fail)
  ·exact hd
  ·exact⟨i8 hd 5,by omega⟩
  ·have he3:a1Q c=(s,d):=by rw[<-he,show k=0 by omega];rfl
   rw[l19_y he3 hc];exact⟨rfl,rfl⟩
  ·have he3:a1Q c=(s,d):=by rw[<-he,show k=0 by omega];rfl
   rw[l19_n he3 hc];exact⟨rfl,rfl⟩
 ·exact h2
 ·exact⟨i8 h2 5,by omega⟩
 ·have hm:a1Q c=(a9g.getD (i7 c 8).toNat [],i6 (i6 c 8) 2):=by rename_i hx;rw[a1Q,hx];rfl
  rw[l19_y hm hc];exact⟨rfl,rfl⟩
 ·have hm:a1Q c=(a9g.getD (i7 c 8).toNat [],i6 (i6 c 8) 2):=by rename_i hx;rw[a1Q,hx];rfl
  rw[l19_n hm hc];exact⟨rfl,rfl⟩
noncomputable def a6M:CT:=p6 (fun(x:c7) h=>b5y x h)
@[go_sem] def c5e:=fun x0 x1 x2=>nm' (fP' a6M rfl ⟨x0,x1,x2⟩)
end Go.Aw
namespace Go.Aw
set_option maxHeartbeats 4000000
open Go.Proofs
attribute [local irreducible] aft blk lpK retK retE AW A0p
set_option linter.all false
set_option maxRecDepth 100000
attribute [local irreducible] RM
@[go_sem] def a6a:ACode:=q' 2 [ao (.mov (.k (.v false [.un])))] (q' 5 [am 0,aN,ao (.bin .add (k' 391785) (.t 6)),aV 3] (.seq (q' 4 [aK 0] (fo 0 8 [aM [4,0],aN,ar 8 10,am 11,aH 12 true
 [bm 4,bC .lss 13 4000],aP 12 14] 15 1 (g' 18 [am 3,aC .mul 18 131,aM [0,4],aI 1,aL,ao (.cv .i64 (.t 23)),aD .add 19 24,aC .add 25 7,aC .and 26 1073741823,aV
 3]) (g' 16 [aB 4]))) (q' 28 [aM [0,3],ao (.bld [.sl [.i .u8 0],.i .i64,.i .i64] [(0,1,.t 28),(2,1,.t 29)]),aX 3 30,aV 2] .ret)))
def b4z:cmp Tryz.prog Tryz.f31=some a6a:=by kernel_rfl
def b7d(code:List Int)(hpre:code.length<=1048576):spZ 31 [(false,[.sl false [.i .u8 0] (code.map cU8)])] [] (.one (false,[.mp [.sl false [.i .u8 0] (((newC code).b).map cU8),.i .i64 ((newC code).i),.i .i64 ((newC code).h)]])):=by
 refine d0H false Tryz.func31 b4z (s:=2) (hΓ:=A6E (deep:=false) (l:=[]) trivial) (h:=?_);intro hb hE;simp only[go_sem]at hb;simp only[a6a,x']
 (try refine A3s ?_);simp only[go_sem];repeat' first|apply cj'|intro hc|exact om'|fail
 refine lq' false [0] [] [] (fun i:{i:Nat // i<=min code.length 4000}=>[(3,slV (.i .i64 (newF code i.1))),(4,slV (.i .i64 i.1))]) nl' nl' (fun i=>4000-i.1) (⟨0,by omega⟩) ?_;intro S0 hS0 i;obtain⟨i,hi⟩:=i;simp only[go_sem,hS0];repeat' first|apply cj'|intro hc|exact om'|fail
 ·(refine lpK_n2 (⟨i+1,by omega⟩) _ rfl ?_;simp only[go_sem,hS0]<;>repeat' first|apply V1|exact on'|fail)
 all_goals(rw[show i=min code.length 4000 by simp at hc;omega];exact⟨⟨rfl,rfl⟩,rfl⟩)
noncomputable def a7N:CT:=p6 (fun(x:(List Int)) h=>b7d x h)
@[go_sem] def c6U:=fun x0=>nm' (fP' a7N rfl x0)
def newC_ok{code:List Int}(h:code.length<=1048576):k7 (newC code):=⟨⟨Int.le_refl _,by simp only[newC];omega⟩,h⟩
def b8a:∀(n:Nat) {c:c7} (s:List UInt8),k7 c->k7 (b0W n c s).2
 | 0,c,s,h=>h
 | n+1,c,s,h=>b8a n _ (i8 h 8)
def b9I{c:c7}(h:k7 c):k7 (a2W c).2:=by
 have h1:k7 (a1Q c).2:=by
  rw[a1Q];have h2:k7 (c5B c):=i8 (i8 h 8) 2;cases i7 (i6 c 8) 2==0 with
  | true=>exact b8a _ _ (i8 h2 4)
  | false=>exact h2
 rw[a2W];cases i7 (a1Q c).2 5==0 with
 | true=>exact(b5Y (i8 h1 5) _).1
 | false=>exact i8 h1 5
end Go.Aw
namespace Go.Aw
set_option linter.all false
set_option maxHeartbeats 4000000
open Go.Proofs
def c0x:∀(n:Nat) (r:c8) (a:List d4),(a8p n r a).2.length<=a.length+n
 | 0,_,_=>by simp[a8p]
 | n+1,r,a=>by
   rw[a8p];cases r.code==0 with
   | false=>simp only[W6];omega
   | true=>
     rw[W4];cases isS (o0 r ((a.length:Int)==6)) (o0 r ((a.length:Int)==6)).i a0s with
     | false=>simp only[W6,W5,q0P];omega
     | true=>
       rw[W4];have:=c0x n (v5 (o0 r ((a.length:Int)==6))) (a++[a2k r ((a.length:Int)==6)]);rw[W5,q0P]at this;omega
def b7G:∀(n:Nat) (r:c8) (a:List d7),(a3P n r a).2.length<=a.length+n
 | 0,_,_=>by simp[a3P]
 | n+1,r,a=>by
   rw[a3P];cases r.code==0 with
   | false=>simp only[W6];omega
   | true=>
     rw[W4];cases isS (v7 (y7 r a.length)).1 (v7 (y7 r a.length)).1.i a0s with
     | false=>simp only[W6,W5,q0P];omega
     | true=>
       rw[W4];have:=b7G n (v5 (v7 (y7 r a.length)).1) (a++[(v7 (y7 r a.length)).2]);rw[W5,q0P]at this;omega
def c5u{r:c8}(h:p7 r):a0R r<=6002:=by
 have:=h.2;rw[a0R];omega
def c9b{r:c8}(h:p7 r):(y3 r).2.Args.length<=6002:=by
 have hq:=b9P (b9W h) a0C;rw[y3];cases isS (t9 (w6 r) a0C) (t9 (w6 r) a0C).i a8x with
 | true=>simp
 | false=>
   have:=c0x (a0R (t9 (w6 r) a0C)) (t9 (w6 r) a0C) [];have h2:=c5u hq;simp only[W6,q0X]at this ⊢;omega
def b1d(r:c6):Prop:=r.Head.Args.length<=6010/\r.Body.length<=6010
def c7Q{r:c8}(h:p7 r):b1d (a1R r).2:=by
 have h1:=(a4F r).ok h;have h2:=(a4E (a0N r)).ok h1;rw[a7k];refine⟨by have:=c9b h1;show(y3 (a0N r)).2.Args.length<=6010;omega, ?_⟩;show(a7j (y3 (a0N r)).1).2.length<=6010;rw[a7j];cases hs:isS (y3 (a0N r)).1 (y3 (a0N r)).1.i sgIf with
 | false=>simp
 | true=>
   have h3:=c5u (a0m h2 (a0G hs).2);have:=b7G (a0R (v5 (y3 (a0N r)).1)) (v5 (y3 (a0N r)).1) [];rw[W4,a5x];simp only[q0X]at this;omega
def smallP(p:d9):Prop:=(p.Decls.length<=6010/\p.Rules.length<=6010)/\∀r∈p.Rules,b1d r
def b1t:∀(n:Nat) {r:c8} {p:d9} (m:Nat),p7 r->p.Decls.length+p.Rules.length<=m->(∀r∈p.Rules,b1d r)->(a2x n r p).2.Decls.length+(a2x n r p).2.Rules.length<=m+n/\∀u∈(a2x n r p).2.Rules,b1d u
 | 0,r,p,m,h,hm,hs=>⟨hm,hs⟩
 | n+1,r,p,m,h,hm,hs=>by
   rw[a2x];cases hg:a4t r with
   | false=>exact⟨by show p.Decls.length+p.Rules.length<=m+(n+1);omega,hs⟩
   | true=>
     have ha:=(a8P p (a9m hg).2).ok h;have hx:(a1q r p).2.Decls.length+(a1q r p).2.Rules.length<=m+1/\∀u∈(a1q r p).2.Rules,b1d u:=by
      rw[a1q];cases decide (0<a2m (l8 r r.i))with
      | true=>exact⟨by simp only[W4,W5,q0P];omega,hs⟩
      | false=>
        refine⟨by simp only[W6,W5,q0P];omega,fun u hu=>?_⟩;simp only[W6]at hu;rcases W9.1 hu with hu|hu
        ·exact hs u hu
        ·rw[q0D.1 hu];exact c7Q ((b7A r _).ok h)
     have:=b1t n (m+1) ha hx.1 hx.2;rw[W4];exact⟨by omega,this.2⟩
def a7f(s:List UInt8):smallP (z8 s).1:=by
 have h0:smallP (default:d9):=⟨⟨by show 0<=6010;omega,by show 0<=6010;omega⟩,fun u hu=>by cases hu⟩
 have hr:=b5J s;rw[z8];cases(a4u s).2.1 != 0 with
 | true=>exact h0
 | false=>
   rw[W6];cases(a0A (a0Z s) default).1.code != 0 with
   | true=>exact h0
   | false=>
     rw[W6,a0A];have h1:=b1t ((a0Z s).toks.length+1-(a0Z s).i.toNat) (p:=default) 0 hr (by show 0+0<=0;omega) (fun u hu=>by cases hu);have h2:=hr.2;simp only at h1 ⊢;exact⟨⟨by omega,by omega⟩,h1.2⟩
def smallP.at{p:d9}(h:smallP p){i:Nat}(hi:i<p.Rules.length):b1d (p.Rules.getD i default):=by
 rw[List.getD,V4 hi];exact h.2 _ (q0T hi)
end Go.Aw
