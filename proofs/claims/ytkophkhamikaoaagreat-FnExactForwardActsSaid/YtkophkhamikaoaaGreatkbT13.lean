/- The first rule with a variable that no literal binds. No condition. -/
import Derived.Test.YtkophkhamikaoaaGreatkbT8
import Derived.Test.YtkophkhamikaoaaGreatlBx10kb
import Derived.Test.YtkophkhamikaoaaGreatlBx8kb
namespace Go.Aw
set_option maxHeartbeats 4000000
open Go.Proofs
attribute [local irreducible] aft blk lpK retK AW A0e
set_option linter.all false
set_option maxRecDepth 100000
noncomputable def a4b(r:c8):Bool:=decide ((0:Int)<(a5E r).length)
noncomputable def a1Y(p:c4):Int:=bif a0g p then a0A a4b p.Rules else-2
def b1L(r:c8):spZ 150 [(true,[.i .i64 r.Kind,.s r.Head.Name,o6 r.Head.Args,a0s r.Body])] [] (.one (false,[.b (a4b r)])):=by
 refine sy' Tryz.func150 (q' 1 [aX 4 0,aU false] (q' 3 [ae 4 1,ac 151 [3],aN,aC .gtr 5 0,aV 2] .ret)) [.t 2] [(151,[],a6t)] ?_;intro hb hE;simp only[go_sem];repeat' first|apply cj'|intro hc|exact om'|fail
 all_goals(first|rfl)
noncomputable def a4F:CT:=l4 (fun(x:c8)=>b1L x)
@[go_sem] def c8C:=fun x0 x1 x2 x3=>nm' (fQ' a4F rfl ⟨x0,⟨x1,x2⟩,x3⟩)
def c7M(l:List c8):spZ 149 [(false,[o9 l]),(false,[.f 150 []])] [] (.one (false,[.i .i64 (a0A (fun y=>a4b y) l)])):=by
 refine sy' Tryz.func149 b9x [.t 4] [(150,[],a4F)] ?_;intro hb hE;simp only[go_sem];repeat' first|apply cj'|intro hc|exact om'|fail
 refine lq' false [0,1,7] [] [] (fun i:{i:Nat // i<=l.length/\(l.take i).any (fun y=>a4b y)=false}=>[(8,slV (.i .i64 i.1))]) nl' nl' (fun i=>l.length-i.1) (⟨0,z0E⟩) ?_;intro S0 hS0 i;obtain⟨i,hi,ha⟩:=i;simp only[go_sem,hS0];repeat' first|apply cj'|intro hc|exact om'|fail
 ·exact(y5 (p:=fun y=>a4b y) (d:=default) z0D ha z0F).symm
 ·exact nx0 ⟨i+1,z0D,u6 (p:=fun y=>a4b y) default z0D ha z0F⟩
 ·exact(w9 z0K).symm
noncomputable def b2H:CT:=l4 (fun(x:(List c8))=>c7M x)
@[go_sem] def d9D:=fun l=>nm' (fQ' b2H rfl l)
def b5y(p:c4):spZ 98 [(true,[p6 p.Decls,o9 p.Rules])] [] (.one (false,[.i .i64 (a1Y p)])):=by
 refine sy' Tryz.func98 (q' 1 [aX 2 0,aK 0] (.seq (q' 3 [ae 2 1,ac 148 [3],aO 4] (ci 5 (q' 2 [ao (.mov (.k (.v false [.c (.i .i64 (-2))])))] .ret))) (q' 6 [aG 1 1,ao (.call 149 [.t 7, .k (.v false [.c (.f 150 [])])]),aV 2] .ret))) [.t 2] [(148,[],a2Z),(149,[],b2H)] ?_;intro hb hE;simp only[go_sem];repeat' first|apply cj'|intro hc|exact om'|fail
 all_goals(have h9:a0g p=_:=hc;rw[a1Y,h9];first|rfl)
noncomputable def a6s:CT:=l4 (fun(x:c4)=>b5y x)
@[go_sem] def d1A:=fun x0 x1=>nm' (fQ' a6s rfl ⟨x0,x1⟩)
def b5L(p:c4):spZ 127 [(true,[p6 p.Decls,o9 p.Rules])] [] (.one (false,[.i .i64 (a1Y p)])):=by
 refine sy' Tryz.func127 (q' 1 [aX 2 0,aK 0] (.seq (q' 4 [ae 2 1,ac 130 [4],aO 5] (ci 6 (q' 2 [ao (.mov (.k (.v false [.c (.i .i64 (-2))])))] .ret))) (.seq (q' 7 [aG 1 1,aN,aK 0] (fO 0 11 [ar 10 9] 11 1 (q' 12 [am 10,aV 3] (q' 13 [aG 1 1,am 3,aI 4,aE 4,ac 179 [17],aN,aC .gtr 19 0] (ci 20 (q' 21 [am 3,aV 2] .ret)))) (g' 22 [aA 10]))) (q' 2 [ao (.mov (.k (.v false [.c (.i .i64 (-1))])))] .ret)))) [.t 2] [(130,[],a3b),(179,[],a6E)] ?_;intro hb hE;simp only[go_sem];repeat' first|apply cj'|intro hc|exact om'|fail
 ·rw[a1Y,hc];rfl
 have hB:a0g p=true:=hc;clear hc;refine lq' false [1,9] [2] [] (fun i:{i:Nat // i<=p.Rules.length/\(p.Rules.take i).any a4b=false}=>[(10,slV (.i .i64 i.1))]) nl' nl' (fun i=>p.Rules.length-i.1) (⟨0,z0E⟩) ?_;intro S0 hS0 i;obtain⟨i,hi,ha⟩:=i;simp only[go_sem,hS0];repeat' first|apply cj'|intro hc|exact om'|fail
 ·rw[a1Y,hB,W8,y5 (p:=a4b) (d:=default) (i:=i) z0D ha (V3 hc)]
 ·exact nx0 ⟨i+1,z0D,u6 (p:=a4b) default z0D ha (V5 hc)⟩
 ·rw[a1Y,hB,W8,w9 z0K]
noncomputable def a6D:CT:=l4 (fun(x:c4)=>b5L x)
@[go_sem] def d1N:=fun x0 x1=>nm' (fQ' a6D rfl ⟨x0,x1⟩)
set_option maxRecDepth 100000 in
def c5J(a b:ByteArray)(w:World):Calls Tryz.prog 197 #[.string a,.string b] w fun e w'=>e=.returned (.int .i64 (Lib.compareBytes a.data.toList b.data.toList))/\w'=w:=by
 go_enter Tryz.func197,Tryz.ntmps197
 go_wp2
 rw[run_callFunc_extern Tryz.func264 z0L z0L z0L (e:=Extern.BytealgCompare.compare) z0L,Lib.run_compareString];simp only[Result.andThen];rw[Oper.upon_value]
 go_wp2
 go_ret
 exact⟨rfl,rfl⟩
def a6R(a:List UInt8)(b:List UInt8):spZ 197 [(false,[.s a]),(false,[.s b])] [] (.one (false,[.i .i64 (Lib.compareBytes a b)])):=by
 unfold spZ A0e;refine⟨z0L, ?_⟩;intro F w vs fpa h _ _ hF;simp only[VsRd,VRd,C.RdVals,C.Rd]at h;obtain⟨_,_,_,_,rfl,rfl,⟨_,hc,hr⟩,_,_,_,_,rfl,rfl,⟨_,hc',hr'⟩,rfl,rfl⟩:=h;simp only[K8]at hc hc';subst hc;subst hc';simp only[C.Rd]at hr hr';obtain⟨rfl,h1,rfl⟩:=hr;obtain⟨rfl,h2,rfl⟩:=hr';refine(c5J ⟨a.toArray⟩ ⟨b.toArray⟩ w).mono ?_;rintro e w' ⟨rfl,rfl⟩;refine⟨F,_,[],[],rfl, ?_,rfl,⟨fun _ h=>h,fun _ h=>.inl h,hF,q0Z,z0E,fun _ _ _=>rfl,q0F _,rfl,Tp.of rfl rfl,rfl⟩⟩;simp only[RRd,VRd];refine⟨_,rfl, ?_⟩;unfold C.Rd;have hb:∀x y:List UInt8,-1<=Lib.compareBytes x y/\Lib.compareBytes x y<=1:=by
  intro x
  induction x with
  | nil=>intro y;cases y<;>simp[Lib.compareBytes]
  | cons a x ih=>
    intro y;cases y with
    | nil=>simp[Lib.compareBytes]
    | cons b y=>
      simp only[Lib.compareBytes];repeat' split
      all_goals first|exact ih y|decide
 have:=hb a b;refine⟨rfl, ?_,rfl⟩;rw[min_i64,max_i64];omega
noncomputable def a2s:CT:=l4 (fun(x:(List UInt8)×(List UInt8))=>a6R x.1 x.2)
@[go_sem] def c0E:=fun a b=>nm' (fQ' a2s rfl (a,b))
def b3Q(a:List UInt8)(b:List UInt8):spZ 142 [(false,[.s a]),(false,[.s b])] [] (.one (false,[.i .i64 (Lib.compareBytes a b)])):=by
 refine sy' Tryz.func142 (q' 4 [aK 0] (q' 5 [aM [0,1],ac 197 [5,6],aV 4] .ret)) [.t 4] [(197,[],a2s)] ?_;intro hb hE;simp only[go_sem];repeat' first|apply cj'|intro hc|exact om'|fail
noncomputable def a5A:CT:=l4 (fun(x:(List UInt8)×(List UInt8))=>b3Q x.1 x.2)
@[go_sem] def c9K:=fun a b=>nm' (fQ' a5A rfl (a,b))
def a0L(a b:d8):Int:=bif a.S==[]&&!(b.S==[])then-1 else bif !(a.S==[])&&b.S==[]then 1 else bif a.S==[]then IntKind.i64.wrap (a.N-b.N)else Lib.compareBytes a.S b.S
def a0h(a b:d8):Bool:=bif a.S==[]&&b.S==[]then decide (a.N<b.N)else Op.bytesLess a.S b.S
def a4z(a b:d8):Bool:=o8 a&&o8 b&&a0h a b
def vEq(a b:d8):Bool:=a.N==b.N&&a.S==b.S
def a0y(op:Int)(a b:d8):Bool:=o8 a&&o8 b&&(bif op==1 then vEq a b else bif op==2 then !vEq a b else bif op==3 then a0h a b else bif op==4 then a0h a b||vEq a b else false)
def c1J(a:d8)(b:d8):spZ 212 [(true,[.i .i64 a.N,.s a.S]),(true,[.i .i64 b.N,.s b.S])] [] (.one (false,[.i .i64 (a0L a b)])):=by
 refine sy' Tryz.func212 (q' 2 [aX 2 0,aX 2 1,aK 0] (.seq (.block 0 (q' 6 [aG 1 2,aY .eql 7 [],am 8,aH 9 true [bf 1 3,bL,bY .neq 11 []],aP 9 12,aV 5] (cd 5 (q' 4 [ao (.mov (.k (.v false [.c (.i .i64 (-1))])))] .ret) (q' 15 [aG 1 2,aY .neq 16 [],am 17,aH 18 true [bf 1 3,bL,bY .eql 20 []],aP 18 21,aV 14] (cd 14 (q' 4 [aK 1] .ret) (q' 24 [aG 1 2,aY .eql 25 [],aV 23] (ci 23 (q' 27 [aG 0 2,aG 0 3,aD .sub 28 30,aV 4] .ret)))))))) (q' 32 [aG 1 2,aG 1 3,ac 142 [33,35],aV 4] .ret))) [.t 4] [(142,[],a5A)] ?_;intro hb hE;simp only[go_sem];repeat' first|apply cj'|intro hc|exact om'|fail
 ·simp only[a0L,hc,q3K,q1V,W8]
 ·simp only[a0L,hc];rfl
 ·rename_i h1 h2;rcases q3A (b.S==[])with h|h<;>rw[hc,h]at h1 h2<;>simp only[a0L,hc,h]<;>first|rfl|contradiction
 ·rename_i h1 h2;rcases q3A (b.S==[])with h|h<;>rw[hc,h]at h1 h2<;>simp only[a0L,hc,h]<;>first|rfl|contradiction
noncomputable def a2F:CT:=l4 (fun(x:d8×d8)=>c1J x.1 x.2)
@[go_sem] def d4S:=fun x0 x1 x2 x3=>nm' (fQ' a2F rfl (⟨x0,x1⟩,⟨x2,x3⟩))
def b5O(a:d8)(b:d8):spZ 313 [(true,[.i .i64 a.N,.s a.S]),(true,[.i .i64 b.N,.s b.S])] [] (.one (false,[.b (a4z a b)])):=by
 refine sy' Tryz.func313 (q' 2 [aX 2 0,aX 2 1,aU false] (.seq (q' 5 [ae 2 2,ac 245 [5],aO 6,am 7,aH 8 false [be 2 3,bc 245 [9],bO 10],aQ 8 11] (ci 12 (q' 4 [aU false] .ret))) (.seq (q' 13 [aG 1 2,aY .eql 14 [],am 15,aH 16 true [bf 1 3,bL,bY .eql 18 []],aP 16 19] (ci 20 (q' 21 [aG 0 2,aG 0 3,ar 22 24,aV 4] .ret))) (q' 26 [aG 1 2,aG 1 3,ar 27 29,aV 4] .ret)))) [.t 4] [(245,[],a1G)] ?_;intro hb hE;simp only[go_sem];repeat' first|apply cj'|intro hc|exact om'|fail
 ·rcases hc with h|h<;>simp[a4z,h]
 ·simp only[a4z,a0h, *,q1V,q0P,W8]
 ·simp only[a4z,a0h, *,q1V,q0P,V2]
noncomputable def a6F:CT:=l4 (fun(x:d8×d8)=>b5O x.1 x.2)
@[go_sem] def d1Q:=fun x0 x1 x2 x3=>nm' (fQ' a6F rfl (⟨x0,x1⟩,⟨x2,x3⟩))
def e1k:∀x y:List UInt8,decide (Lib.compareBytes x y<0)=Op.bytesLess x y:=by
 intro x
 induction x with
 | nil=>intro y;cases y<;>simp[Lib.compareBytes,Op.bytesLess]
 | cons a x ih=>
   intro y;cases y with
   | nil=>simp[Lib.compareBytes,Op.bytesLess]
   | cons b y=>
     simp only[Lib.compareBytes,Op.bytesLess];by_cases h1:a<b
     ·simp[h1]
     ·by_cases h2:b<a
      ·have:(a==b)=false:=by simp;rintro rfl;exact h1 h2
       simp[h1,h2,this]
      ·have:a=b:=by
        apply UInt8.toNat_inj.1;simp only[UInt8.lt_iff_toNat_lt]at h1 h2;omega
       simp[this,ih]
def cmp_le:∀x y:List UInt8,decide (Lib.compareBytes x y<=0)=(Op.bytesLess x y||x==y):=by
 intro x
 induction x with
 | nil=>intro y;cases y<;>simp[Lib.compareBytes,Op.bytesLess]
 | cons a x ih=>
   intro y;cases y with
   | nil=>simp[Lib.compareBytes,Op.bytesLess]
   | cons b y=>
     simp only[Lib.compareBytes,Op.bytesLess];by_cases h1:a<b
     ·simp[h1]
     ·by_cases h2:b<a
      ·have:(a==b)=false:=by simp;rintro rfl;exact h1 h2
       simp[h1,h2,this]
      ·have:a=b:=by
        apply UInt8.toNat_inj.1;simp only[UInt8.lt_iff_toNat_lt]at h1 h2;omega
       simp[this,ih]
def c0D{a b:d8}(ha:o8 a=true)(hb:o8 b=true):decide (a0L a b<0)=a0h a b:=by
 simp only[a0L,a0h,o8]at*;rcases(q3A (a.S==[])).symm with h1|h1<;>rcases(q3A (b.S==[])).symm with h2|h2<;>simp only[h1,h2,z0C,q4M,q3K,q1G,q2B,q0P]at ha hb ⊢
 ·exact e1k _ _
 ·have:b.S=[]:=by simpa using h2
  rw[this];simp[Op.bytesLess]
 ·have:a.S=[]:=by simpa using h1
  rw[this];cases h:b.S with
  | nil=>simp[h]at h2
  | cons x l=>simp[Op.bytesLess]
 ·simp only[a0p,K7]at ha hb;rw[IntWalk.i64_in _ z0D];exact decide_eq_decide.2 z0D
def c0C{a b:d8}(ha:o8 a=true)(hb:o8 b=true):decide (a0L a b<=0)=(a0h a b||vEq a b):=by
 simp only[a0L,a0h,o8,vEq]at*;rcases(q3A (a.S==[])).symm with h1|h1<;>rcases(q3A (b.S==[])).symm with h2|h2<;>simp only[h1,h2,z0C,q4M,q3K,q1G,q2B,q0P,W3,beq_iff_eq]at ha hb ⊢
 ·rw[cmp_le,ha.1,hb.1];simp
 ·have e:b.S=[]:=by simpa using h2
  rw[e]at h2 ⊢;simp[Op.bytesLess,h1]
 ·have e:a.S=[]:=by simpa using h1
  rw[e];cases h:b.S with
  | nil=>simp[h]at h2
  | cons x l=>simp[Op.bytesLess]
 ·simp only[a0p,K7]at ha hb;have e1:(a.S==b.S)=true:=by rw[show a.S=[] by simpa using h1,show b.S=[] by simpa using h2];rfl
  have:(a.N==b.N)=decide (a.N=b.N):=rfl;rw[IntWalk.i64_in _ z0D,e1,this];simp only[q1G,<-Bool.decide_or];exact decide_eq_decide.2 z0D
def c2E:∀x y:List UInt8,Op.bytesLess y x=!(Op.bytesLess x y||x==y):=by
 intro x
 induction x with
 | nil=>intro y;cases y<;>simp[Op.bytesLess]
 | cons a x ih=>
   intro y;cases y with
   | nil=>simp[Op.bytesLess]
   | cons b y=>
     simp only[Op.bytesLess];by_cases h1:a<b
     ·have:¬b<a:=fun h=>by simp only[UInt8.lt_iff_toNat_lt]at*;omega
      have h3:(b==a)=false:=by simp;rintro rfl;exact this h1
      simp[h1,this,h3]
     ·by_cases h2:b<a
      ·have:(a==b)=false:=by simp;rintro rfl;exact h1 h2
       simp[h1,h2,this]
      ·have:a=b:=by
        apply UInt8.toNat_inj.1;simp only[UInt8.lt_iff_toNat_lt]at h1 h2;omega
       subst this;simp[h1,ih]
def b6m{a b:d8}(ha:o8 a=true)(hb:o8 b=true):a0h b a=!(a0h a b||vEq a b):=by
 simp only[a0h,o8,vEq]at*;rcases(q3A (a.S==[])).symm with h1|h1<;>rcases(q3A (b.S==[])).symm with h2|h2<;>simp only[h1,h2,z0C,q4M,q3K,q1G,q2B,q0P,W3,beq_iff_eq]at ha hb ⊢
 ·rw[c2E,ha.1,hb.1];simp
 ·rw[c2E];have:(a.S==b.S)=false:=by
   cases h:a.S==b.S with
   | false=>rfl
   | true=>rw[eq_of_beq h,h2]at h1;cases h1
  rw[this];simp
 ·rw[c2E];have:(a.S==b.S)=false:=by
   cases h:a.S==b.S with
   | false=>rfl
   | true=>rw[<-eq_of_beq h,h1]at h2;cases h2
  rw[this];simp
 ·have e1:(a.S==b.S)=true:=by rw[show a.S=[] by simpa using h1,show b.S=[] by simpa using h2];rfl
  have:(a.N==b.N)=decide (a.N=b.N):=rfl;rw[e1,this,q1G,<-Bool.decide_or,<-decide_not];exact decide_eq_decide.2 z0D
def a4a:Nat->(Nat->Int)->Int
 | 0,_=>0
 | n+1,f=>if a4a n f=0 then f n else a4a n f
def b5i{n:Nat}{f:Nat->Int}(h:∀i,i<n->f i=0):a4a n f=0:=by
 induction n with
 | zero=>rfl
 | succ n ih=>rw[a4a,if_pos (ih fun i hi=>h i z0D),h n z0D]
def b5j{i:Nat}{f:Nat->Int}(h:∀j,j<i->f j=0)(hp:f i≠0):∀{n:Nat},i<n->a4a n f=f i
 | 0,hn=>by omega
 | n+1,hn=>by
   by_cases e:i=n
   ·subst e;rw[a4a,if_pos (b5i h)]
   ·have:=b5j h hp (n:=n) z0D;rw[a4a,this,if_neg hp]
def sgn(x:Int):Int:=max (-1) (min x 1)
def c9N{f g:Nat->Int}:∀{n:Nat},(∀i,i<n->sgn (f i)=g i)->sgn (a4a n f)=a4a n g
 | 0,_=>by simp only[a4a];decide
 | n+1,h=>by
   have ih:=c9N (n:=n) fun i hi=>h i (by omega)
   have hn:=h n z0D;rw[a4a,a4a,<-ih,<-hn];unfold sgn;by_cases e:a4a n f=0
   ·rw[if_pos e,e,if_pos z02]
   ·rw[if_neg e,if_neg z0D]
def b0q(a b:d8):Int:=bif a0h a b then-1 else bif a0h b a then 1 else 0
def b6R{a b:d8}(ha:o8 a=true)(hb:o8 b=true):sgn (a0L a b)=b0q a b:=by
 have h1:=c0D ha hb;have h2:=c0C ha hb;have h3:=b6m ha hb;rw[<-h2]at h3;rw[b0q,h3,<-h1];unfold sgn;by_cases e:a0L a b<0
 ·rw[V3 e,W8];omega
 ·rw[V5 e,V2];by_cases e2:a0L a b<=0
  ·rw[V3 e2];simp only[q4M,V2];omega
  ·rw[V5 e2];simp only[q3K,W8];omega
def a4Y(a b:List d7):Int:=a4a a.length fun i=>b0q (a.getD i default).Val (b.getD i default).Val
def c7h(a b:List d7)(i:Nat):Int:=a0L (a.getD i default).Val (b.getD i default).Val
def c1I(x:d7)(y:d7):spZ 291 [(true,[.s x.Var,.i .i64 x.Val.N,.s x.Val.S]),(true,[.s y.Var,.i .i64 y.Val.N,.s y.Val.S])] [] (.one (false,[.i .i64 (a0L x.Val y.Val)])):=by
 refine sy' Tryz.func291 (q' 2 [aX 3 0,aX 3 1,aK 0] (q' 5 [af 1 2,aE 2,af 1 3,aE 2,ac 212 [6,8],aV 4] .ret)) [.t 4] [(212,[],a2F)] ?_;intro hb hE;simp only[go_sem];repeat' first|apply cj'|intro hc|exact om'|fail
noncomputable def a8M:CT:=l4 (fun(x:d7×d7)=>c1I x.1 x.2)
@[go_sem] def d4R:=fun x0 x1 x2 x3 x4 x5=>nm' (fQ' a8M rfl (⟨x0,⟨x1,x2⟩⟩,⟨x3,⟨x4,x5⟩⟩))
def d4g(a:List d7)(b:List d7)(hpre:a.length=b.length):spZ 290 [(false,[a0b a]),(false,[a0b b]),(false,[.f 291 []])] [] (.one (false,[.i .i64 (a4a a.length (c7h a b))])):=by
 refine sy' Tryz.func290 (q' 6 [aK 0] (.seq (q' 11 [am 0,aN,aK 0] (fO 0 14 [ar 13 12] 14 1 (q' 15 [am 13,ai 3 11 13,aE 3,ax (w' 8 [.s,.i .i64,.s]),av 7 15,aS 3 8 17] (.seq (q' 18 [aM [7,1],aN,aD .geq 18 20] (ci 21 (q' 6 [aK 1] .ret))) (q' 22 [aM [1,7],aI 3,aE 3,ax (w' 9 [.s,.i .i64,.s]),aS 3 9 25] (q' 26 [am 2,ae 3 8,ae 3 9,ao (.callv (.t 26) [.t 27,.t 28]),aV 10] (q' 30 [am 10,aC .neq 30 0] (ci 31 (q' 32 [am 10,aV 6] .ret))))))) (g' 33 [aA 13]))) (.seq (q' 34 [am 0,aN,am 1,aN,ar 35 37] (ci 38 (q' 6 [ao (.mov (.k (.v false [.c (.i .i64 (-1))])))] .ret))) (q' 6 [aK 0] .ret)))) [.t 6] [(291,[],a8M)] ?_;intro hb hE;simp only[go_sem];repeat' first|apply cj'|intro hc|exact om'|fail
 refine lq' false [0,1,2,11,12] [] [] (fun i:{i:Nat // i<=a.length/\∀j,j<i->c7h a b j=0}=>[(13,slV (.i .i64 i.1))]) nl' nl' (fun i=>a.length-i.1) (⟨0,z0E⟩) ?_;intro S0 hS0 i;obtain⟨i,hi,ha⟩:=i;simp only[go_sem,hS0];repeat' first|apply cj'|intro hc|exact om'|fail
 ·rw[b5j ha (by simpa[c7h]using hc) z0D];rfl
 ·exact nx0 ⟨i+1,z0D,fun j hj=>(q3T.1 hj).elim (ha j) (fun q=>by subst q;simpa[c7h]using hc)⟩
 ·rw[b5i fun j hj=>ha j z0D]
noncomputable def c0G:CT:=n9 (fun(x:(List d7)×(List d7)) h=>d4g x.1 x.2 h)
@[go_sem] def e2O:=fun a b=>nm' (fP' c0G rfl (a,b))
def b3A(a:e7)(b:e7)(hpre:a.Binds.length=b.Binds.length):spZ 222 [(true,[a0b a.Binds]),(true,[a0b b.Binds])] [] (.one (false,[.i .i64 (a4a a.Binds.length (c7h a.Binds b.Binds))])):=by
 refine sy' Tryz.func222 (q' 2 [aX 1 0,aX 1 1,aK 0] (q' 5 [aG 0 2,aG 0 3,ao (.call 290 [.t 6,.t 8,.k (.v false [.c (.f 291 [])])]),aV 4] .ret)) [.t 4] [(290,[],c0G)] ?_;intro hb hE;simp only[go_sem];repeat' first|apply cj'|intro hc|exact om'|fail
noncomputable def c7f:CT:=n9 (fun(x:e7×e7) h=>b3A x.1 x.2 h)
@[go_sem] def d9I:=fun x0 x1=>nm' (fP' c7f rfl (⟨x0⟩,⟨x1⟩))
variable{v:List UInt8}{i k:Nat}{α:Type}
def b6H{a b:List d7}(h:∀j,j<i->b0q (a.getD j default).Val (b.getD j default).Val=0)(hp:b0q (a.getD i default).Val (b.getD i default).Val≠0)(hi:i<a.length):a4Y a b=b0q (a.getD i default).Val (b.getD i default).Val:=b5j (f:=fun i=>b0q (a.getD i default).Val (b.getD i default).Val) h hp hi
def c9X{a b:List d7}(h:∀j,j<a.length->b0q (a.getD j default).Val (b.getD j default).Val=0):a4Y a b=0:=b5i h
set_option maxRecDepth 100000
def pkB:List UInt8:=[112,97,99,107,101,116]
def fwB:List UInt8:=[102,111,114,119,97,114,100]
def z9(p:c4)(name:List UInt8):Int:=bif name==pkB then 4 else bif name==fwB then 1 else bif a0H p name then(a0O p name).Arity else-1
def a0P(p:c4)(name:List UInt8):Int:=(a0O p name).Kind
def movB(p:c4)(name:List UInt8):Bool:=name==pkB||a0P p name==2
def y7(r:c8):List f9:=r.Head::(r.Body.filter fun l=>!(l.Kind==3)).map e8.Atom
def b0p(p:c4)(l:e8):Bool:=!(l.Kind==3)&&movB p l.Atom.Name
def d0f(p:c4)(r:c8):Bool:=decide ((0:Int)<r.Body.length)&&(r.Body.getD 0 default).Kind==1&&(movB p (r.Body.getD 0 default).Atom.Name&&(!(r.Kind==1)||(r.Body.getD 0 default).Atom.Name==pkB))
def b8f(p:c4)(r:c8):Bool:=bif !(r.Kind==1)||r.Head.Name==fwB then d0f p r&&!(r.Body.drop 1).any (b0p p)else !r.Body.any (b0p p)
def a4D(p:c4)(a:f9):Bool:=decide (z9 p a.Name<0)
def a4e(p:c4)(a:f9):Bool:=!(z9 p a.Name==(a.Args.length:Int))
def b8g(a:f9):Bool:=a.Name==fwB
def a3y(p:c4)(r:c8):Bool:=bif r.Kind==1 then !(a0P p r.Head.Name==3)&&!(r.Head.Name==fwB)else !(a0P p r.Head.Name==1)
def a0d(p:c4)(r:c8):Int:=bif (y7 r).any (a4D p)then 3 else bif (y7 r).any (a4e p)then 4 else bif a3y p r then 5 else bif ((y7 r).drop 1).any b8g then 6 else bif !b8f p r then 7 else 0
def z5(p:c4)(i:Nat):Bool:=(p.Decls.getD i default).Name==pkB||(p.Decls.getD i default).Name==fwB||(p.Decls.take i).any fun x=>x.Name==(p.Decls.getD i default).Name
def a0w(p:c4)(i:Nat):Bool:=!(a0d p (p.Rules.getD i default)==0)
def p7(p:c4):Int×Int:=
 bif !a0g p then(1,0)else
 if a2O p.Decls.length (z5 p)<p.Decls.length then(2,(a2O p.Decls.length (z5 p):Int))else
 if a2O p.Rules.length (a0w p)<p.Rules.length then(a0d p (p.Rules.getD (a2O p.Rules.length (a0w p)) default),(a2O p.Rules.length (a0w p):Int))else(0,0)
def atB(l:e8):Bool:=!(l.Kind==3)
def d2P(r:c8):(y7 r).length<=r.Body.length+1:=by
 have:=b5o (fun l:e8=>!(l.Kind==3)) e8.Atom r.Body;simp only[y7,V9];omega
def b6t(r:c8):1<=(y7 r).length:=by simp[y7]
def c0A(r:c8):y7 r=r.Head::(r.Body.filter atB).map e8.Atom:=rfl
def c1G(p:c4)(name:List UInt8):spZ 163 [(true,[p6 p.Decls,o9 p.Rules]),(false,[.s name])] [] (.one (false,[.i .i64 (z9 p name)])):=by
 refine sy' Tryz.func163 (q' 2 [aX 2 0,az 4 0] (.seq (q' 7 [am 1] (.block 0 (q' 9 [aY .eql 7 [112,97,99,107,101,116],aV 8] (cd 8 (q' 4 [aK 4] .ret) (q' 11 [aY .eql 7 [102,111,114,119,97,114,100],aV 10] (ci 10 (q' 4 [aK 1] .ret))))))) (q' 13 [ae 2 2,am 1,ac 198 [13,14],aV 12,aZ 12 0,aZ 12 1,ax (w' 5 [.i .i64,.s,.i .i64]),aS 3 5 16,aV 6] (.seq (q' 18 [am 6,aO 18] (ci 19 (q' 4 [ao (.mov (.k (.v false [.c (.i .i64 (-1))])))] .ret))) (q' 20 [aG 2 5,aV 4] .ret))))) [.t 4] [(198,[],a5O)] ?_;intro hb hE;simp only[go_sem];repeat' first|apply cj'|intro hc|exact om'|fail
 all_goals simp only[z9,pkB,fwB, *,z0C]
noncomputable def a2E:CT:=l4 (fun(x:c4×(List UInt8))=>c1G x.1 x.2)
@[go_sem] def d4P:=fun x0 x1 x2=>nm' (fQ' a2E rfl (⟨x0,x1⟩,x2))
def c4v(p:c4)(name:List UInt8):spZ 146 [(true,[p6 p.Decls,o9 p.Rules]),(false,[.s name])] [] (.one (false,[.i .i64 (a0P p name)])):=by
 refine sy' Tryz.func146 (q' 2 [aX 2 0,az 4 0] (q' 8 [ae 2 2,am 1,ac 198 [8,9],aV 7,aZ 7 0,aZ 7 1,ax (w' 5 [.i .i64,.s,.i .i64]),aS 3 5 11,aV 6] (q' 13 [aG 0 5,aV 4] .ret))) [.t 4] [(198,[],a5O)] ?_;intro hb hE;simp only[go_sem];repeat' first|apply cj'|intro hc|exact om'|fail
 all_goals(first|rfl)
noncomputable def a1x:CT:=l4 (fun(x:c4×(List UInt8))=>c4v x.1 x.2)
@[go_sem] def d7H:=fun x0 x1 x2=>nm' (fQ' a1x rfl (⟨x0,x1⟩,x2))
def b5d:OkC Tryz.prog 146 a1x:=a7m _
def c1P(p:c4)(name:List UInt8):spZ 323 [(true,[p6 p.Decls,o9 p.Rules]),(false,[.s name])] [] (.one (false,[.b (movB p name)])):=by
 refine sy' Tryz.func323 (q' 2 [aX 2 0,ab 4 false] (q' 5 [am 1,aY .eql 5 [112,97,99,107,101,116],am 6,aH 7 false [be 2 2,bm 1,bc 146 [8,9],bC .eql 10 2],aQ 7 11,aV 4] .ret)) [.t 4] [(146,[],a1x)] ?_;intro hb hE;simp only[go_sem];repeat' first|apply cj'|intro hc|exact om'|fail
 all_goals(first|rfl)
noncomputable def a4K:CT:=l4 (fun(x:c4×(List UInt8))=>c1P x.1 x.2)
@[go_sem] def d5a:=fun x0 x1 x2=>nm' (fQ' a4K rfl (⟨x0,x1⟩,x2))
def c1H(r:c8)(hpre:r.Body.length<=8):spZ 279 [(true,[.i .i64 r.Kind,.s r.Head.Name,o6 r.Head.Args,a0s r.Body])] [] (.one (false,[e1K (y7 r)])):=by
 refine sy' Tryz.func279 (q' 1 [aX 4 0,ao (.mov (.k (.v false [.nl b6o])))] (q' 6 [af 1 1,aE 2,ao (.bsl 2 1 [.s,.sl k9] [(0,.t 7)]),aV 3] (.seq (q' 9 [aG 3 1,aN,aK 0] (fO 0 13 [ar 12 11] 13 1 (q' 14 [ai 10 10 12,aE 10,ax (w' 5 [.i .i64,.s,.sl k9, .i .i64,.s,.i .i64,.s,.s,.i .i64,.s]),aS 10 5 15] (q' 16 [aG 0 5,aC .neq 17 3] (ci 18 (g' 19 [am 3,af 1 5,aE 2,ao (.bsl 2 1 [.s,.sl k9] [(0,.t 21)]),ao (.app 2 40 [.s,.sl k9] (.t 19) (.t 22)),aV 3])))) (g' 24 [aA 12]))) (q' 25 [am 3,aV 2] .ret)))) [.t 2] [] ?_;intro hb hE;simp only[go_sem];repeat' first|apply cj'|intro hc|exact om'|fail
 refine lk' false [(false,3,0,100006)] [10,11] [] [] (fun i:{i:Nat // i<=r.Body.length}=>[(3,.v false [.ow 100006]),(12,slV (.i .i64 i.1))]) nl' (fun i=>[(100006,b6o,(r.Head::((r.Body.take i.1).filter atB).map e8.Atom).map (f9.cells false false))]) (fun i=>r.Body.length-i.1) (⟨0,z0E⟩) ?_;intro S0 hS0 i;obtain⟨i,hi⟩:=i;simp only[go_sem,hS0];repeat' first|apply cj'|intro hc|exact om'|fail
 ·have:=b5o atB e8.Atom (r.Body.take i);simp at this;omega
 ·have hp:atB (r.Body.getD i default)=true:=hc
  (refine lpK_n2 (⟨i+1,z0D⟩) _ z0H ?_;simp only[go_sem,hS0]<;>repeat' first|apply W6|exact on'|fail)
  all_goals(rw[a7n e8.Atom default z0D hp]<;>rfl)
 ·have hp:atB (r.Body.getD i default)=false:=hc
  (refine lpK_n2 (⟨i+1,z0D⟩) _ z0H ?_;simp only[go_sem,hS0]<;>repeat' first|apply W6|exact on'|fail)
  all_goals(rw[b3r e8.Atom default z0D hp]<;>rfl)
 ·rw[j5 z0D,c0A];rfl
noncomputable def a4I:CT:=n9 (fun(x:c8) h=>c1H x h)
@[go_sem] def d4Q:=fun x0 x1 x2 x3=>nm' (fP' a4I rfl ⟨x0,⟨x1,x2⟩,x3⟩)
def b2L:OkC Tryz.prog 279 a4I:=a4p _
def b8N(p:c4)(name:List UInt8)(hpre:a0g p=true):spZ 185 [(true,[p6 p.Decls,o9 p.Rules]),(false,[.s name])] [] (.one (false,[.i .i64 (z9 p name)])):=by
 refine sy' Tryz.func185 (q' 2 [aX 2 0,az 4 0] (.seq (q' 6 [am 1,aY .eql 6 [112,97,99,107,101,116]] (ci 7 (q' 4 [aK 4] .ret))) (.seq (q' 8 [am 1,aY .eql 8 [102,111,114,119,97,114,100]] (ci 9 (q' 4 [aK 1] .ret))) (q' 10 [ae 2 2,am 1,ac 90 [10,11],ax (w' 5 [.i .i64,.s,.i .i64]),aS 3 5 12] (.seq (q' 13 [aG 0 5,aC .eql 14 0] (ci 15 (q' 4 [ao (.mov (.k (.v false [.c (.i .i64 (-1))])))] .ret))) (q' 16 [aG 2 5,aV 4] .ret)))))) [.t 4] [(90,[],a1I)] ?_;intro hb hE;simp only[go_sem];repeat' first|apply cj'|intro hc|exact om'|fail
 ·simp only[z9,pkB,fwB, *,z0C]
 ·simp only[z9,pkB,fwB, *,z0C]
 all_goals rw[c7w hpre]at hc
 ·rw[q0W]at hc;simp only[z9,pkB,fwB, *,z0C]
 ·rw[q0T]at hc;simp only[z9,pkB,fwB, *,z0C]
noncomputable def a7Z:CT:=n9 (fun(x:c4×(List UInt8)) h=>b8N x.1 x.2 h)
@[go_sem] def d3A:=fun x0 x1 x2=>nm' (fP' a7Z rfl (⟨x0,x1⟩,x2))
def b5U(p:c4)(name:List UInt8):spZ 186 [(true,[p6 p.Decls,o9 p.Rules]),(false,[.s name])] [] (.one (false,[.b (movB p name)])):=by
 refine sy' Tryz.func186 (q' 2 [aX 2 0,ab 4 false] (q' 5 [am 1,aY .eql 5 [112,97,99,107,101,116],am 6,aH 7 false [be 2 2,bm 1,bc 90 [8,9],bo (.fl false 0 1 (.t 10)),bC .eql 11 2],aQ 7 12,aV 4] .ret)) [.t 4] [(90,[],a1I)] ?_;intro hb hE;simp only[go_sem];repeat' first|apply cj'|intro hc|exact om'|fail
 all_goals(first|rfl)
noncomputable def a6I:CT:=l4 (fun(x:c4×(List UInt8))=>b5U x.1 x.2)
@[go_sem] def d1W:=fun x0 x1 x2=>nm' (fQ' a6I rfl (⟨x0,x1⟩,x2))
def b8O(r:c8)(hpre:r.Body.length<=8):spZ 184 [(true,[.i .i64 r.Kind,.s r.Head.Name,o6 r.Head.Args,a0s r.Body])] [] (.one (false,[e1K (y7 r)])):=by
 refine sy' Tryz.func184 (q' 1 [aX 4 0,ao (.mov (.k (.v false [.nl b6o])))] (q' 5 [af 1 1,aE 2,ao (.bsl 2 1 [.s,.sl k9] [(0,.t 6)]),aV 3] (.seq (q' 8 [aG 3 1,aN,aK 0] (fO 0 12 [ar 11 10] 12 1 (q' 13 [am 11,aV 4] (q' 14 [aG 3 1,am 4,aI 10,aG 0 17,aC .neq 19 3] (ci 20 (g' 21 [am 3,aG 3 1,am 4,aI 10,aF 1,aE 2,ao (.bsl 2 1 [.s,.sl k9] [(0,.t 27)]),ao (.app 2 40 [.s,.sl k9] (.t 21) (.t 28)),aV 3])))) (g' 30 [aA 11]))) (q' 31 [am 3,aV 2] .ret)))) [.t 2] [] ?_;intro hb hE;simp only[go_sem];repeat' first|apply cj'|intro hc|exact om'|fail
 refine lk' false [(false,3,0,100006)] [1,10] [2] [] (fun i:{i:Nat // i<=r.Body.length}=>[(3,.v false [.ow 100006]),(11,slV (.i .i64 i.1))]) nl' (fun i=>[(100006,b6o,(r.Head::((r.Body.take i.1).filter atB).map e8.Atom).map (f9.cells false false))]) (fun i=>r.Body.length-i.1) (⟨0,z0E⟩) ?_;intro S0 hS0 i;obtain⟨i,hi⟩:=i;simp only[go_sem,hS0];repeat' first|apply cj'|intro hc|exact om'|fail
 ·have:=b5o atB e8.Atom (r.Body.take i);simp at this;omega
 ·have hp:atB (r.Body.getD i default)=true:=hc
  (refine lpK_n2 (⟨i+1,z0D⟩) _ z0H ?_;simp only[go_sem,hS0]<;>repeat' first|apply W6|exact on'|fail)
  all_goals(rw[a7n e8.Atom default z0D hp]<;>rfl)
 ·have hp:atB (r.Body.getD i default)=false:=hc
  (refine lpK_n2 (⟨i+1,z0D⟩) _ z0H ?_;simp only[go_sem,hS0]<;>repeat' first|apply W6|exact on'|fail)
  all_goals(rw[b3r e8.Atom default z0D hp]<;>rfl)
 ·rw[j5 z0D,c0A];rfl
noncomputable def a8a:CT:=n9 (fun(x:c8) h=>b8O x h)
@[go_sem] def d3B:=fun x0 x1 x2 x3=>nm' (fP' a8a rfl ⟨x0,⟨x1,x2⟩,x3⟩)
def d0k{p:c4}(h:a0g p=true){r:c8}(hr:r∈p.Rules):r.Body.length<=8:=by
 simp only[a0g,W3,q0I]at h;have:=h.2 r hr;simp only[l8,K7]at this;omega
def a9A(l:e8)(p:c4):spZ 324 [(true,[.i .i64 l.Kind,.s l.Atom.Name,o6 l.Atom.Args,.i .i64 l.Op,.s l.A.Var,.i .i64 l.A.Val.N,.s l.A.Val.S,.s l.B.Var,.i .i64 l.B.Val.N,.s l.B.Val.S]),(false,[.p [p6 p.Decls,o9 p.Rules]])] [] (.one (false,[.b (b0p p l)])):=by
 refine sy' Tryz.func324 (q' 2 [aX 10 0,aU false] (q' 4 [aG 0 2,aC .neq 5 3,am 6,aH 7 true [be 2 1,bf 1 2,bF 0,bL,bc 323 [8,11]],aP 7 12,aV 3] .ret)) [.t 3] [(323,[],a4K)] ?_;intro hb hE;simp only[go_sem];repeat' first|apply cj'|intro hc|exact om'|fail
 all_goals(first|rfl)
noncomputable def a3D:CT:=l4 (fun(x:e8×c4)=>a9A x.1 x.2)
@[go_sem] def c5D:=fun x0 x1 x2 x3 x4 x5 x6 x7 x8 x9 x10 x11=>nm' (fQ' a3D rfl (⟨x0,⟨x1,x2⟩,x3,⟨x4,⟨x5,x6⟩⟩,⟨x7,⟨x8,x9⟩⟩⟩,⟨x10,x11⟩))
def c7K(l:List e8)(p:c4):spZ 320 [(false,[a0s l]),(false,[.f 324 [.p [p6 p.Decls,o9 p.Rules]]])] [] (.one (false,[.i .i64 (a0A (fun y=>b0p p y) l)])):=by
 refine sy' Tryz.func320 c5t [.t 4] [(324,[],a3D)] ?_;intro hb hE;simp only[go_sem];repeat' first|apply cj'|intro hc|exact om'|fail
 refine lq' false [0,1,7] [] [] (fun i:{i:Nat // i<=l.length/\(l.take i).any (fun y=>b0p p y)=false}=>[(8,slV (.i .i64 i.1))]) nl' nl' (fun i=>l.length-i.1) (⟨0,z0E⟩) ?_;intro S0 hS0 i;obtain⟨i,hi,ha⟩:=i;simp only[go_sem,hS0];repeat' first|apply cj'|intro hc|exact om'|fail
 ·exact(y5 (p:=fun y=>b0p p y) (d:=default) z0D ha z0F).symm
 ·exact nx0 ⟨i+1,z0D,u6 (p:=fun y=>b0p p y) default z0D ha z0F⟩
 ·exact(w9 z0K).symm
noncomputable def b2G:CT:=l4 (fun(x:(List e8)×c4)=>c7K x.1 x.2)
@[go_sem] def d9B:=fun l x0 x1=>nm' (fQ' b2G rfl (l,⟨x0,x1⟩))
def c7H(l:List e8)(p:c4):spZ 267 [(false,[a0s l]),(false,[.f 324 [.p [p6 p.Decls,o9 p.Rules]]])] [] (.one (false,[.b (l.any (fun y=>b0p p y))])):=by
 refine sy' Tryz.func267 c5s [.t 4] [(320,[],b2G)] ?_;intro hb hE;simp only[go_sem];repeat' first|apply cj'|intro hc|exact om'|fail
 ·exact a0Z _ _
noncomputable def b2D:CT:=l4 (fun(x:(List e8)×c4)=>c7H x.1 x.2)
@[go_sem] def d9y:=fun l x0 x1=>nm' (fQ' b2D rfl (l,⟨x0,x1⟩))
def b1O(p:c4)(r:c8):spZ 284 [(true,[p6 p.Decls,o9 p.Rules]),(true,[.i .i64 r.Kind,.s r.Head.Name,o6 r.Head.Args,a0s r.Body])] [] (.one (false,[.b (b8f p r)])):=by
 refine sy' Tryz.func284 (q' 2 [aX 2 0,aX 4 1,aU false] (q' 7 [aG 3 3,aV 5] (.seq (q' 9 [aG 0 3,aC .neq 10 1,am 11,aH 12 false [bf 1 3,bF 0,bL,bY .eql 15 [102,111,114,119,97,114,100]],aQ 12 16] (ci 17 (.seq (q' 18 [am 5,aN,aC .eql 19 0,am 20,aH 21 false [bm 5,bo (.ia 10 (.t 22) (k' 0)),bF 0,bL,bC .neq 25 1],aQ 21 26] (ci 27 (q' 4 [aU false] .ret))) (q' 28 [am 5,ao (.ia 10 (.t 28) (k' 0)),aF 1,aG 0 30,aV 6] (.seq (q' 33 [am 6,aY .neq 33 [112,97,99,107,101,116],am 34,aH 35 true [bf 0 3,bL,bC .eql 37 1,bm 38],aH 39 false [be 2 2,bm 6,bc 323 [40,41],bO 42],aH 35 true [bQ 39 43],aP 35 44] (ci 45 (q' 4 [aU false] .ret))) (g' 46 [am 5,ao (.slc 10 (.t 46) (some (k' 1)) none none),aV 5])))))) (q' 48 [am 5,ao (.mf 324 [.t 2]),ac 267 [48,49],aO 50,aV 4] .ret)))) [.t 4] [(323,[],a4K),(267,[],b2D)] ?_;intro hb hE;simp only[go_sem];repeat' first|apply cj'|intro hc|exact om'|fail
 all_goals(try simp only[a1Z]at*)
 all_goals(clear hb)
 all_goals(first|(simp at hc;omega)|grind [b8f,d0f,pkB,fwB,movB])
noncomputable def a2m:CT:=l4 (fun(x:c4×c8)=>b1O x.1 x.2)
@[go_sem] def c8F:=fun x0 x1 x2 x3 x4 x5=>nm' (fQ' a2m rfl (⟨x0,x1⟩,⟨x2,⟨x3,x4⟩,x5⟩))
def a8o:OkC Tryz.prog 284 a2m:=a7m _
def b3H(a:f9)(p:c4):spZ 281 [(true,[.s a.Name,o6 a.Args]),(false,[.p [p6 p.Decls,o9 p.Rules]])] [] (.one (false,[.b (a4D p a)])):=by
 refine sy' Tryz.func281 (q' 2 [aX 2 0,aU false] (q' 4 [ae 2 1,aG 0 2,ac 163 [4,6],aC .lss 7 0,aV 3] .ret)) [.t 3] [(163,[],a2E)] ?_;intro hb hE;simp only[go_sem];repeat' first|apply cj'|intro hc|exact om'|fail
 all_goals(first|rfl)
noncomputable def a5u:CT:=l4 (fun(x:f9×c4)=>b3H x.1 x.2)
@[go_sem] def c9C:=fun x0 x1 x2 x3=>nm' (fQ' a5u rfl (⟨x0,x1⟩,⟨x2,x3⟩))
def b3I(a:f9)(p:c4):spZ 282 [(true,[.s a.Name,o6 a.Args]),(false,[.p [p6 p.Decls,o9 p.Rules]])] [] (.one (false,[.b (a4e p a)])):=by
 refine sy' Tryz.func282 (q' 2 [aX 2 0,aU false] (.seq (G' 4 [ae 2 1,aG 0 2,ac 163 [4,6],aG 1 2,aN,aD .neq 7 10,aV 3]) .ret)) [.t 3] [(163,[],a2E)] ?_;intro hb hE;simp only[go_sem];repeat' first|apply cj'|intro hc|exact om'|fail
 all_goals(first|rfl)
noncomputable def a5v:CT:=l4 (fun(x:f9×c4)=>b3I x.1 x.2)
@[go_sem] def c9D:=fun x0 x1 x2 x3=>nm' (fQ' a5v rfl (⟨x0,x1⟩,⟨x2,x3⟩))
def b3J(a:f9):spZ 283 [(true,[.s a.Name,o6 a.Args])] [] (.one (false,[.b (b8g a)])):=by
 refine sy' Tryz.func283 (q' 1 [aX 2 0,aU false] (q' 3 [aG 0 1,aY .eql 4 [102,111,114,119,97,114,100],aV 2] .ret)) [.t 2] [] ?_;intro hb hE;simp only[go_sem];repeat' first|apply cj'|intro hc|exact om'|fail
 all_goals(first|rfl)
noncomputable def a5w:CT:=l4 (fun(x:f9)=>b3J x)
@[go_sem] def c9E:=fun x0 x1=>nm' (fQ' a5w rfl ⟨x0,x1⟩)
@[go_sem] def b1l:ACode:=q' 4 [aK 0] (.seq (q' 6 [am 0,aN,aK 0] (fO 0 9 [ar 8 7] 9 1 (q' 10 [am 8,aV 5] (q' 11 [aM [1,0,5],aI 2,aE 2,ao (.callv (.t 11) [.t 15])] (ci 16 (q' 17 [am 5,aV
 4] .ret)))) (g' 18 [aA 8]))) (q' 4 [ao (.mov (.k (.v false [.c (.i .i64 (-1))])))] .ret))
def d0x(l:List f9)(p:c4):spZ 322 [(false,[a7q l]),(false,[.f 281 [.p [p6 p.Decls,o9 p.Rules]]])] [] (.one (false,[.i .i64 (a0A (fun y=>a4D p y) l)])):=by
 refine sy' Tryz.func322 b1l [.t 4] [(281,[],a5u)] ?_;intro hb hE;simp only[go_sem];repeat' first|apply cj'|intro hc|exact om'|fail
 refine lq' false [0,1,7] [] [] (fun i:{i:Nat // i<=l.length/\(l.take i).any (fun y=>a4D p y)=false}=>[(8,slV (.i .i64 i.1))]) nl' nl' (fun i=>l.length-i.1) (⟨0,z0E⟩) ?_;intro S0 hS0 i;obtain⟨i,hi,ha⟩:=i;simp only[go_sem,hS0];repeat' first|apply cj'|intro hc|exact om'|fail
 ·exact(y5 (p:=fun y=>a4D p y) (d:=default) z0D ha z0F).symm
 ·exact nx0 ⟨i+1,z0D,u6 (p:=fun y=>a4D p y) default z0D ha z0F⟩
 ·exact(w9 z0K).symm
noncomputable def b6w:CT:=l4 (fun(x:(List f9)×c4)=>d0x x.1 x.2)
@[go_sem] def e0W:=fun l x0 x1=>nm' (fQ' b6w rfl (l,⟨x0,x1⟩))
@[go_sem] def b1k:ACode:=q' 4 [aU false] (q' 5 [aM [0,1],ac 322 [5,6],aC .geq 7 0,aV 4] .ret)
def d0u(l:List f9)(p:c4):spZ 280 [(false,[a7q l]),(false,[.f 281 [.p [p6 p.Decls,o9 p.Rules]]])] [] (.one (false,[.b (l.any (fun y=>a4D p y))])):=by
 refine sy' Tryz.func280 b1k [.t 4] [(322,[],b6w)] ?_;intro hb hE;simp only[go_sem];repeat' first|apply cj'|intro hc|exact om'|fail
 ·exact a0Z _ _
noncomputable def a8A:CT:=l4 (fun(x:(List f9)×c4)=>d0u x.1 x.2)
@[go_sem] def c0I:=fun l x0 x1=>nm' (fQ' a8A rfl (l,⟨x0,x1⟩))
def c0J:OkC Tryz.prog 280 a8A:=a7m _
def d0y(l:List f9)(p:c4):spZ 322 [(false,[a7q l]),(false,[.f 282 [.p [p6 p.Decls,o9 p.Rules]]])] [] (.one (false,[.i .i64 (a0A (fun y=>a4e p y) l)])):=by
 refine sy' Tryz.func322 b1l [.t 4] [(282,[],a5v)] ?_;intro hb hE;simp only[go_sem];repeat' first|apply cj'|intro hc|exact om'|fail
 refine lq' false [0,1,7] [] [] (fun i:{i:Nat // i<=l.length/\(l.take i).any (fun y=>a4e p y)=false}=>[(8,slV (.i .i64 i.1))]) nl' nl' (fun i=>l.length-i.1) (⟨0,z0E⟩) ?_;intro S0 hS0 i;obtain⟨i,hi,ha⟩:=i;simp only[go_sem,hS0];repeat' first|apply cj'|intro hc|exact om'|fail
 ·exact(y5 (p:=fun y=>a4e p y) (d:=default) z0D ha z0F).symm
 ·exact nx0 ⟨i+1,z0D,u6 (p:=fun y=>a4e p y) default z0D ha z0F⟩
 ·exact(w9 z0K).symm
noncomputable def b6x:CT:=l4 (fun(x:(List f9)×c4)=>d0y x.1 x.2)
@[go_sem] def e0X:=fun l x0 x1=>nm' (fQ' b6x rfl (l,⟨x0,x1⟩))
def d0v(l:List f9)(p:c4):spZ 280 [(false,[a7q l]),(false,[.f 282 [.p [p6 p.Decls,o9 p.Rules]]])] [] (.one (false,[.b (l.any (fun y=>a4e p y))])):=by
 refine sy' Tryz.func280 b1k [.t 4] [(322,[],b6x)] ?_;intro hb hE;simp only[go_sem];repeat' first|apply cj'|intro hc|exact om'|fail
 ·exact a0Z _ _
noncomputable def a8B:CT:=l4 (fun(x:(List f9)×c4)=>d0v x.1 x.2)
@[go_sem] def c0K:=fun l x0 x1=>nm' (fQ' a8B rfl (l,⟨x0,x1⟩))
def c0L:OkC Tryz.prog 280 a8B:=a7m _
def d0z(l:List f9):spZ 322 [(false,[a7q l]),(false,[.f 283 []])] [] (.one (false,[.i .i64 (a0A (fun y=>b8g y) l)])):=by
 refine sy' Tryz.func322 b1l [.t 4] [(283,[],a5w)] ?_;intro hb hE;simp only[go_sem];repeat' first|apply cj'|intro hc|exact om'|fail
 refine lq' false [0,1,7] [] [] (fun i:{i:Nat // i<=l.length/\(l.take i).any (fun y=>b8g y)=false}=>[(8,slV (.i .i64 i.1))]) nl' nl' (fun i=>l.length-i.1) (⟨0,z0E⟩) ?_;intro S0 hS0 i;obtain⟨i,hi,ha⟩:=i;simp only[go_sem,hS0];repeat' first|apply cj'|intro hc|exact om'|fail
 ·exact(y5 (p:=fun y=>b8g y) (d:=default) z0D ha z0F).symm
 ·exact nx0 ⟨i+1,z0D,u6 (p:=fun y=>b8g y) default z0D ha z0F⟩
 ·exact(w9 z0K).symm
noncomputable def b6y:CT:=l4 (fun(x:(List f9))=>d0z x)
@[go_sem] def e0Y:=fun l=>nm' (fQ' b6y rfl l)
def d0w(l:List f9):spZ 280 [(false,[a7q l]),(false,[.f 283 []])] [] (.one (false,[.b (l.any (fun y=>b8g y))])):=by
 refine sy' Tryz.func280 b1k [.t 4] [(322,[],b6y)] ?_;intro hb hE;simp only[go_sem];repeat' first|apply cj'|intro hc|exact om'|fail
 ·exact a0Z _ _
noncomputable def a8C:CT:=l4 (fun(x:(List f9))=>d0w x)
@[go_sem] def c0M:=fun l=>nm' (fQ' a8C rfl l)
def c0N:OkC Tryz.prog 280 a8C:=a7m _
noncomputable def a0S:CT:=(ctO a8A (ctO a8B a8C))
@[go_sem] def c8H(l:List f9)(x0:List f7)(x1:List c8):a0S [(false,[a7q l]),(false,[.f 281 [.p [p6 x0,o9 x1]]])]=some (True,[],.one (false,[.b (l.any (fun y=>a4D (c4.mk x0 x1) y))])):=c0V (c0I l x0 x1)
@[go_sem] def c8I(l:List f9)(x0:List f7)(x1:List c8):a0S [(false,[a7q l]),(false,[.f 282 [.p [p6 x0,o9 x1]]])]=some (True,[],.one (false,[.b (l.any (fun y=>a4e (c4.mk x0 x1) y))])):=(b3o (b5k (fun x h=>z0J))).trans (c0V (c0K l x0 x1))
@[go_sem] def c8J(l:List f9):a0S [(false,[a7q l]),(false,[.f 283 []])]=some (True,[],.one (false,[.b (l.any (fun y=>b8g y))])):=(b3o (b5k (fun x h=>z0J))).trans ((b3o (b5k (fun x h=>z0J))).trans (c0M l))
def a8p:OkC Tryz.prog 280 a0S:=(d3S c0J (d3S c0L c0N))
def b8q(p:c4)(r:c8)(hpre:r.Body.length<=8):spZ 215 [(true,[p6 p.Decls,o9 p.Rules]),(true,[.i .i64 r.Kind,.s r.Head.Name,o6 r.Head.Args,a0s r.Body])] [] (.one (false,[.i .i64 (a0d p r)])):=by
 refine sy' Tryz.func215 (q' 2 [aX 2 0,aX 4 1,aK 0] (q' 8 [ae 4 3,ac 279 [8],aV 5] (.seq (q' 10 [am 5,ao (.mf 281 [.t 2]),ac 280 [10,11]] (ci 12 (q' 4 [aK 3] .ret))) (.seq (q' 13 [am 5,ao (.mf 282 [.t 2]),ac 280 [13,14]] (ci 15 (q' 4 [aK 4] .ret))) (q' 16 [ae 2 2,af 1 3,aG 0 17,ac 146 [16,19],aV 6] (q' 21 [am 6,aC .eql 21 3,am 22,aH 23 false [bf 1 3,bF 0,bL,bY .eql 26 [102,111,114,119,97,114,100]],aQ 23 27,aV 7] (.seq (.block 0 (q' 30 [aG 0 3,aC .eql 31 1,am 32,aH 33 true [bm 7,bO 34],aP 33 35,am 36,aH 37 false [bf 0 3,bL,bC .neq 39 1,bm 40],aH 41 true [bm 6,bC .neq 42 1],aH 37 false [bP 41 43],aQ 37 44,aV 29] (cd 29 (q' 4 [aK 5] .ret) (q' 47 [am 5,ao (.slc 2 (.t 47) (some (k' 1)) none none),ao (.call 280 [.t 48,.k (.v false [.c (.f 283 [])])]),aV 46] (cd 46 (q' 4 [aK 6] .ret) (q' 51 [ae 2 2,ae 4 3,ac 284 [51,52],aO 53,aV 50] (ci 50 (q' 4 [aK 7] .ret)))))))) (q' 4 [aK 0] .ret)))))))) [.t 4] [(279,[],a4I),(280,[],a0S),(146,[],a1x),(284,[],a2m)] ?_ (hΓ:=⟨b2L,a8p,b5d,a8o,trivial⟩);intro hb hE;simp only[go_sem];repeat' first|apply cj'|intro hc|exact om'|fail
 all_goals(try simp only[a1Z]at*)
 all_goals(clear hb)
 all_goals(first|(have:=b6t r;omega)|grind [a0d,a3y,fwB])
noncomputable def a7H:CT:=n9 (fun(x:c4×c8) h=>b8q x.1 x.2 h)
@[go_sem] def d3f:=fun x0 x1 x2 x3 x4 x5=>nm' (fP' a7H rfl (⟨x0,x1⟩,⟨x2,⟨x3,x4⟩,x5⟩))
def b2A{q:α->Bool}{l:List α}{i:Nat}(d:α)(h:i<l.length)(hp:q (l.getD i d)=true):l.any q=true:=by
 rw[q3E];exact⟨l.getD i d,by rw[k8 d h];exact q1M h,hp⟩
def d7s{q:α->Bool}{l:List α}(d:α)(hk:k<=i)(h:i<l.length)(ha:((l.take i).drop k).any q=false)(hp:q (l.getD i d)=false):((l.take (i+1)).drop k).any q=false:=by
 rw[j6 d h,q4T z1R,q2F,ha];simp only[q2P,List.any_nil,hp,q5D]
def e0K{q:α->Bool}{l:List α}{i:Nat}(d:α)(hk:k<=i)(h:i<l.length)(hp:q (l.getD i d)=true):(l.drop k).any q=true:=by
 rw[q3E];refine⟨l.getD i d, ?_,hp⟩;rw[k8 d h,List.mem_drop_iff_getElem];exact⟨i-k,z0D,by congr 1;omega⟩
def c2x(p:c4)(r:c8)(hpre:r.Body.length<=8/\a0g p=true):spZ 131 [(true,[p6 p.Decls,o9 p.Rules]),(true,[.i .i64 r.Kind,.s r.Head.Name,o6 r.Head.Args,a0s r.Body])] [] (.one (false,[.i .i64 (a0d p r)])):=by
 refine sy' Tryz.func131 (q' 2 [aX 2 0,aX 4 1,aK 0] (q' 15 [ae 4 3,ac 184 [15],aV 5] (.seq (q' 17 [am 5,aN,aK 0] (fO 0 20 [ar 19 18] 20 1 (q' 21 [ai 2 17 19,aE 2,ax (w' 7 [.s,.sl k9]),aS 2 7 22] (q' 23 [ae 2 2,aG 0 7,ac 185 [23,25],aC .lss 26 0] (ci 27 (q' 4 [aK 3] .ret)))) (g' 28 [aA 19]))) (.seq (q' 29 [am 5,aN,aK 0] (fO 2 32 [ar 31 30] 32 3 (q' 33 [ai 2 29 31,aE 2,ax (w' 9 [.s,.sl k9]),aS 2 9 34] (.seq (G' 35 [ae 2 2,aG 0 9,ac 185 [35,37],aG 1 9,aN,aD .neq 38 41]) (ci 42 (q' 4 [aK 4] .ret)))) (g' 43 [aA 31]))) (q' 44 [ae 2 2,af 1 3,aG 0 45,ac 90 [44,47],ao (.fl false 0 1 (.t 48)),aV 10] (.seq (q' 50 [aG 0 3,aC .eql 51 1,am 52,aH 53 true [bm 10,bC .neq 54 3],aP 53 55,am 56,aH 57 true [bf 1 3,bF 0,bL,bY .neq 60 [102,111,114,119,97,114,100]],aP 57 61,am 62,aH 63 false [bf 0 3,bL,bC .neq 65 1,bm 66],aH 67 true [bm 10,bC .neq 68 1],aH 63 false [bP 67 69],aQ 63 70] (ci 71 (q' 4 [aK 5] .ret))) (.seq (q' 72 [am 5,ao (.slc 2 (.t 72) (some (k' 1)) none none),aN,aK 0] (fO 4 76 [ar 75 74] 76 5 (q' 77 [ai 2 73 75,aE 2,ax (w' 12 [.s,.sl k9]),aS 2 12 78] (q' 79 [aG 0 12,aY .eql 80 [102,111,114,119,97,114,100]] (ci 81 (q' 4 [aK 6] .ret)))) (g' 82 [aA 75]))) (q' 13 [aK 0] (.seq (q' 83 [aG 0 3,aC .neq 84 1,am 85,aH 86 false [bf 1 3,bF 0,bL,bY .eql 89 [102,111,114,119,97,114,100]],aQ 86 90] (ci 91 (.seq (.seq (G' 92 [aG 3 3,aN,aC .eql 94 0,am 95,aH 96 false [bf 3 3,bL,bo (.ia 10 (.t 98) (k' 0)),bF 0,bL,bC .neq 101 1],aQ 96 102,am 103,aH 104 false [be 2 2,bf 3 3,bL,bo (.ia 10 (.t 107) (k' 0)),bF 1,bF 0,bL,bc 186 [105,111],bO 112],aQ 104 113]) (ci 114 (q' 4 [aK 7] .ret))) (.seq (q' 115 [aG 0 3,aC .eql 116 1,am 117,aH 118 true [bf 3 3,bL,bo (.ia 10 (.t 120) (k' 0)),bF 1,bF 0,bL,bY .neq 124 [112,97,99,107,101,116]],aP 118 125] (ci 126 (q' 4 [aK 7] .ret))) (g' 13 [aK 1]))))) (.seq (q' 127 [am 13,aV 14] (fo 6 128 [am 14,aG 3 3,aN,ar 128 131] 132 7 (.seq (G' 135 [aG 3 3,am 14,aI 10,aG 0 138,aC .neq 140 3,am 141,aH 142 true [be 2 2,bf 3 3,bL,bm 14,bI 10,bF 1,bF 0,bL,bc 186 [143,150]],aP 142 151]) (ci 152 (q' 4 [aK 7] .ret))) (g' 133 [aB 14]))) (q' 4 [aK 0] .ret))))))))))) [.t 4] [(184,[],a8a),(185,[],a7Z),(90,[],a1I),(186,[],a6I)] ?_;intro hb hE;obtain⟨hp8,hpB⟩:=hpre;have hA:=d2P r;have hA1:=b6t r;simp only[go_sem,a1Z];repeat' first|apply cj'|intro hc|exact om'|fail
 refine lq' false [2,3,5,17,18] [4,6] [2048] (fun i:{i:Nat // i<=(y7 r).length/\((y7 r).take i).any (a4D p)=false}=>[(19,slV (.i .i64 i.1))]) nl' nl' (fun i=>(y7 r).length-i.1) (⟨0,z0E⟩) ?_;intro S0 hS0 i;obtain⟨i,hi,ha⟩:=i;simp only[go_sem,a1Z,hS0];repeat' first|apply cj'|intro hc|exact om'|fail
 ·rw[a0d,b2A (q:=a4D p) default z0D (V3 hc)];rfl
 ·(refine lpK_n2 (⟨i+1,z0D,u6 (p:=a4D p) default z0D ha (V5 hc)⟩) _ rfl ?_;simp only[go_sem,a1Z,hS0]<;>repeat' first|apply W6|exact on'|fail)
 rw[j5 z0D]at ha;clear hc hi;refine lq' false [2,3,5,29,30] [4,6] [2048] (fun i:{i:Nat // i<=(y7 r).length/\((y7 r).take i).any (a4e p)=false}=>[(31,slV (.i .i64 i.1))]) nl' nl' (fun i=>(y7 r).length-i.1) (⟨0,z0E⟩) ?_;intro S1 hS1 i;obtain⟨i,hi,hb1⟩:=i;simp only[go_sem,a1Z,hS0,hS1];repeat' first|apply cj'|intro hc|exact om'|fail
 ·rw[a0d,ha,b2A (q:=a4e p) default z0D hc];rfl
 ·(refine lpK_n2 (⟨i+1,z0D,u6 (p:=a4e p) default z0D hb1 hc⟩) _ rfl ?_;simp only[go_sem,a1Z,hS0,hS1]<;>repeat' first|apply W6|exact on'|fail)
 ·rw[j5 z0D]at hb1;clear hb hS0 hS1
  grind [a0d,a3y,a0P,fwB]
 rw[j5 z0D]at hb1;have hk:a3y p r=false:=by
  clear hb hS0 hS1
  grind [a3y,a0P,fwB]
 clear hc hi;refine lq' false [2,3,73,74] [4,6] [9344] (fun i:{i:Nat // i<=((y7 r).drop 1).length/\(((y7 r).drop 1).take i).any b8g=false}=>[(75,slV (.i .i64 i.1))]) nl' nl' (fun i=>((y7 r).drop 1).length-i.1) (⟨0,z0E⟩) ?_;intro S2 hS2 i;obtain⟨i,hi,hf⟩:=i;have hD:((y7 r).drop 1).length<=8:=by rw[q2A];omega
 simp only[go_sem,a1Z,hS0,hS1,hS2];repeat' first|apply cj'|intro hc|exact om'|fail
 ·rw[a0d,ha,hb1,hk,b2A (q:=b8g) default z0D hc];rfl
 ·(refine lpK_n2 (⟨i+1,z0D,u6 (p:=b8g) default z0D hf hc⟩) _ rfl ?_;simp only[go_sem,a1Z,hS0,hS1,hS2]<;>repeat' first|apply W6|exact on'|fail)
 all_goals(rw[j5 z0D]at hf)
 ·clear hb hS0 hS1 hS2;grind
 ·clear hb hS0 hS1 hS2;grind
 ·clear hb hS0 hS1 hS2;grind [a0d,b8f,d0f,pkB,fwB]
 ·clear hb hS0 hS1 hS2;grind
 ·clear hb hS0 hS1 hS2;grind [a0d,b8f,d0f,pkB,fwB]
 ·have hg:b8f p r=!(r.Body.drop 1).any (b0p p):=by
   clear hb hS0 hS1 hS2;grind [b8f,d0f,pkB,fwB]
  have h1:1<=r.Body.length:=by
   clear hb hS0 hS1 hS2;grind
  clear hc;refine lq' false [2,3] [4,6] [] (fun i:{i:Nat // 1<=i/\i<=r.Body.length/\((r.Body.take i).drop 1).any (b0p p)=false}=>[(14,slV (.i .i64 i.1))]) nl' nl' (fun i=>r.Body.length-i.1) (⟨1,z0D,z0D,by cases r.Body<;>rfl⟩) ?_;intro S3 hS3 i;obtain⟨i,h1i,hi,hm⟩:=i;simp only[go_sem,a1Z,hS0,hS1,hS2,hS3];repeat' first|apply cj'|intro hc|exact om'|fail
  ·have:b8f p r=false:=by rw[hg,e0K (q:=b0p p) (i:=i) default z0D z0D (Bool.and_eq_true_iff.2 hc)];rfl
   rw[a0d,ha,hb1,hk,hf,this];rfl
  ·(refine lpK_n2 (⟨i+1,z0D,z0D,d7s (q:=b0p p) default z0D z0D hm hc⟩) _ rfl ?_;simp only[go_sem,a1Z,hS0,hS1,hS2,hS3]<;>repeat' first|apply W6|exact on'|fail)
  ·rw[j5 z0D]at hm;rw[hm]at hg;rw[a0d,ha,hb1,hk,hf,hg];rfl
 ·have hg:b8f p r=!r.Body.any (b0p p):=by
   clear hb hS0 hS1 hS2;grind [b8f,fwB]
  clear hc;refine lq' false [2,3] [4,6] [] (fun i:{i:Nat // i<=r.Body.length/\(r.Body.take i).any (b0p p)=false}=>[(14,slV (.i .i64 i.1))]) nl' nl' (fun i=>r.Body.length-i.1) (⟨0,z0D,z0E⟩) ?_;intro S3 hS3 i;obtain⟨i,hi,hm⟩:=i;simp only[go_sem,a1Z,hS0,hS1,hS2,hS3];repeat' first|apply cj'|intro hc|exact om'|fail
  ·have:b8f p r=false:=by rw[hg,b2A (q:=b0p p) (i:=i) default z0D (Bool.and_eq_true_iff.2 hc)];rfl
   rw[a0d,ha,hb1,hk,hf,this];rfl
  ·(refine lpK_n2 (⟨i+1,z0D,u6 (p:=b0p p) default z0D hm hc⟩) _ rfl ?_;simp only[go_sem,a1Z,hS0,hS1,hS2,hS3]<;>repeat' first|apply W6|exact on'|fail)
  ·rw[j5 z0D]at hm;rw[hm]at hg;rw[a0d,ha,hb1,hk,hf,hg];rfl
noncomputable def a9r:CT:=n9 (fun(x:c4×c8) h=>c2x x.1 x.2 h)
@[go_sem] def d5I:=fun x0 x1 x2 x3 x4 x5=>nm' (fP' a9r rfl (⟨x0,x1⟩,⟨x2,⟨x3,x4⟩,x5⟩))
def b6O(p:c4)(r:c8):0<=a0d p r:=by
 unfold a0d;cases(y7 r).any (a4D p)<;>cases(y7 r).any (a4e p)<;>cases a3y p r<;>cases((y7 r).drop 1).any b8g<;>cases b8f p r<;>decide
def a3x{p:c4}(h:a0g p=false):p7 p=(1,0):=by simp[p7,h]
def a2j{p:c4}(h:a0g p=true)(hi:i<p.Decls.length)(ha:∀j,j<i->z5 p j=false)(hq:z5 p i=true):p7 p=(2,(i:Int)):=by
 rw[p7,h,a2v ha hq hi,if_pos hi];rfl
def a3Z{p:c4}(h:a0g p=true)(hd:∀j,j<p.Decls.length->z5 p j=false)(hi:i<p.Rules.length)(ha:∀j,j<i->a0w p j=false)(hq:a0w p i=true):p7 p=(a0d p (p.Rules.getD i default),(i:Int)):=by
 rw[p7,h,a2u hd,if_neg z0D,a2v ha hq hi,if_pos hi];rfl
def b0W{p:c4}(h:a0g p=true)(hd:∀j,j<p.Decls.length->z5 p j=false)(ha:∀j,j<p.Rules.length->a0w p j=false):p7 p=(0,0):=by
 rw[p7,h,a2u hd,if_neg z0D,a2u ha,if_neg z0D];rfl
def b3S{q:Nat->Bool}(h:∀j,j<i->q j=false)(hi:q i=false):∀j,j<i+1->q j=false:=by
 intro j hj;rcases q3T.1 hj with h1|rfl
 ·exact h j h1
 ·exact hi
def d1k{p:c4}(h:a0g p=true)(hi:i<p.Rules.length):(p.Rules.getD i default).Body.length<=8:=by
 rw[k8 default hi];exact d0k h (q1M hi)
def b0o(y:f7)(d:f7):spZ 214 [(true,[.i .i64 y.Kind,.s y.Name,.i .i64 y.Arity]),(false,[.p [.i .i64 d.Kind,.s d.Name,.i .i64 d.Arity]])] [] (.one (false,[.b (y.Name==d.Name)])):=by
 refine sy' Tryz.func214 (q' 2 [aX 3 0,aU false] (q' 4 [aG 1 2,aG 1 1,aD .eql 5 7,aV 3] .ret)) [.t 3] [] ?_;intro hb hE;simp only[go_sem];repeat' first|apply cj'|intro hc|exact om'|fail
 all_goals(first|rfl)
noncomputable def a4f:CT:=l4 (fun(x:f7×f7)=>b0o x.1 x.2)
@[go_sem] def c7e:=fun x0 x1 x2 x3 x4 x5=>nm' (fQ' a4f rfl (⟨x0,x1,x2⟩,⟨x3,x4,x5⟩))
def c7I(l:List f7)(d:f7):spZ 278 [(false,[p6 l]),(false,[.f 214 [.p [.i .i64 d.Kind,.s d.Name,.i .i64 d.Arity]]])] [] (.one (false,[.i .i64 (a0A (fun y:f7=>y.Name==d.Name) l)])):=by
 refine sy' Tryz.func278 (q' 4 [aK 0] (.seq (q' 6 [am 0,aN,aK 0] (fO 0 9 [ar 8 7] 9 1 (q' 10 [am 8,aV 5] (q' 11 [aM [1,0,5],aI 3,aE 3,ao (.callv (.t 11) [.t 15])] (ci 16 (q' 17 [am 5,aV 4] .ret)))) (g' 18 [aA 8]))) (q' 4 [ao (.mov (.k (.v false [.c (.i .i64 (-1))])))] .ret))) [.t 4] [(214,[],a4f)] ?_;intro hb hE;simp only[go_sem];repeat' first|apply cj'|intro hc|exact om'|fail
 refine lq' false [0,1,7] [] [] (fun i:{i:Nat // i<=l.length/\(l.take i).any (fun y:f7=>y.Name==d.Name)=false}=>[(8,slV (.i .i64 i.1))]) nl' nl' (fun i=>l.length-i.1) (⟨0,z0E⟩) ?_;intro S0 hS0 i;obtain⟨i,hi,ha⟩:=i;simp only[go_sem,hS0];repeat' first|apply cj'|intro hc|exact om'|fail
 ·exact(y5 (p:=fun y:f7=>y.Name==d.Name) (d:=default) z0D ha z0F).symm
 ·exact nx0 ⟨i+1,z0D,u6 (p:=fun y:f7=>y.Name==d.Name) default z0D ha z0F⟩
 ·exact(w9 z0K).symm
noncomputable def b2E:CT:=l4 (fun(x:(List f7)×f7)=>c7I x.1 x.2)
@[go_sem] def d9z:=fun l x0 x1 x2=>nm' (fQ' b2E rfl (l,⟨x0,x1,x2⟩))
def c7G(l:List f7)(d:f7):spZ 213 [(false,[p6 l]),(false,[.f 214 [.p [.i .i64 d.Kind,.s d.Name,.i .i64 d.Arity]]])] [] (.one (false,[.b (l.any (fun y:f7=>y.Name==d.Name))])):=by
 refine sy' Tryz.func213 (q' 4 [aU false] (q' 5 [aM [0,1],ac 278 [5,6],aC .geq 7 0,aV 4] .ret)) [.t 4] [(278,[],b2E)] ?_;intro hb hE;simp only[go_sem];repeat' first|apply cj'|intro hc|exact om'|fail
 ·exact a0Z _ _
noncomputable def b2C:CT:=l4 (fun(x:(List f7)×f7)=>c7G x.1 x.2)
@[go_sem] def d9x:=fun l x0 x1 x2=>nm' (fQ' b2C rfl (l,⟨x0,x1,x2⟩))
def b3M(p:c4):spZ 86 [(true,[p6 p.Decls,o9 p.Rules])] [] (.tup [(false,[.i .i64 ((p7 p).1)]),(false,[.i .i64 ((p7 p).2)])]):=by
 refine sy' Tryz.func86 (q' 1 [aX 2 0,aK 0,aK 0] (.seq (q' 9 [ae 2 1,ac 130 [9],aO 10] (ci 11 (q' 2 [aK 1,aK 0] .ret))) (.seq (q' 12 [aG 0 1,aN,aK 0] (fO 0 16 [ar 15 14] 16 1 (q' 17 [am 15,aV 4] (q' 18 [aG 0 1,am 4,aI 3,aG 1 21,aV 5] (.seq (q' 24 [am 5,aY .eql 24 [112,97,99,107,101,116],am 25,aH 26 false [bm 5,bY .eql 27 [102,111,114,119,97,114,100]],aQ 26 28] (ci 29 (q' 30 [am 4,az 2 2,aV 3] .ret))) (q' 6 [aK 0] (fo 2 31 [aM [6,4],ar 31 32] 33 3 (q' 36 [aG 0 1,am 6,aI 3,aG 1 39,am 5,aD .eql 41 42] (ci 43 (q' 44 [am 4,az 2 2,aV 3] .ret))) (g' 34 [aB 6])))))) (g' 45 [aA 15]))) (.seq (q' 46 [aG 1 1,aN,aK 0] (fO 4 50 [ar 49 48] 50 5 (q' 51 [am 49,aV 7] (.seq (G' 52 [ae 2 1,aG 1 1,am 7,aI 4,aE 4,ac 131 [52,57],aV 8]) (q' 59 [am 8,aC .gtr 59 0] (ci 60 (q' 61 [aM [8,7],av 2 61,aV 3] .ret))))) (g' 63 [aA 49]))) (q' 2 [aK 0,aK 0] .ret))))) [.t 2,.t 3] [(130,[],a3b),(131,[],a9r)] ?_;intro hb hE;simp only[go_sem];repeat' first|apply cj'|intro hc|exact om'|fail
 ·rw[a3x hc];exact⟨rfl,rfl⟩
 have hB:a0g p=true:=hc;clear hc;refine lq' false [1,14] [2] [] (fun i:{i:Nat // i<=p.Decls.length/\∀j,j<i->z5 p j=false}=>[(15,slV (.i .i64 i.1))]) nl' nl' (fun i=>p.Decls.length-i.1) (⟨0,z0D,z2J⟩) ?_;intro S0 hS0 i;obtain⟨n,hn,ha⟩:=i;simp only[go_sem,hS0];repeat' first|apply cj'|intro hc|exact om'|fail
 ·have hq:z5 p n=true:=by rcases hc with hc|hc<;>(simp only[z5,pkB,fwB,hc,Bool.true_or,q5Y])
  rw[a2j hB z0D ha hq];exact⟨rfl,rfl⟩
 ·have hN:=hc;clear hc;refine lq' false [1,4,5,14,15] [2] [] (fun i:{k:Nat // k<=n/\(p.Decls.take k).any (fun x=>x.Name==(p.Decls.getD n default).Name)=false}=>[(6,slV (.i .i64 i.1))]) nl' nl' (fun i=>n-i.1) (⟨0,z0D,z0E⟩) ?_;intro S1 hS1 i;obtain⟨k,hk,hx⟩:=i;simp only[go_sem,hS0,hS1];repeat' first|apply cj'|intro hc|exact om'|fail
  ·have:((p.Decls.take n).any fun x=>x.Name==(p.Decls.getD n default).Name)=true:=by
    refine b2A (q:=fun x:f7=>x.Name==(p.Decls.getD n default).Name) (i:=k) default z1R ?_;have e:(p.Decls.take n).getD k default=p.Decls.getD k default:=by
     simp only[W5,q5T];rw[if_pos z0D]
    rw[e];exact hc
   have hq:z5 p n=true:=by rw[z5,this,q5Y]
   rw[a2j hB z0D ha hq];exact⟨rfl,rfl⟩
  ·exact nx1 ⟨k+1,z0D,u6 (p:=fun x:f7=>x.Name==(p.Decls.getD n default).Name) default z0D hx hc⟩
  ·have e:k=n:=by omega
   subst e;have hq:z5 p k=false:=by rw[z5,hx];simp only[pkB,fwB,hN,q5D]
   exact nx1 ⟨k+1,z0D,b3S ha hq⟩
 have hd:∀j,j<p.Decls.length->z5 p j=false:=fun j hj=>ha j (by omega)
 clear hc ha;refine lq' false [1,48] [2] [] (fun i:{i:Nat // i<=p.Rules.length/\∀j,j<i->a0w p j=false}=>[(49,slV (.i .i64 i.1))]) nl' nl' (fun i=>p.Rules.length-i.1) (⟨0,z0D,z2J⟩) ?_;intro S2 hS2 i;obtain⟨n,hn,ha⟩:=i;simp only[go_sem,hS0,hS2];repeat' first|apply cj'|intro hc|exact om'|fail
 ·exact⟨d1k hB z0D,hB⟩
 ·have hq:a0w p n=true:=by
   have:=b6O p (p.Rules.getD n default);rw[a0w,q0W,beq_eq_false_iff_ne];omega
  rw[a3Z hB hd z0D ha hq];exact⟨rfl,rfl⟩
 ·have hq:a0w p n=false:=by
   have:=b6O p (p.Rules.getD n default);rw[a0w,q0T,beq_iff_eq];omega
  (refine lpK_n2 (⟨n+1,z0D,b3S ha hq⟩) _ rfl ?_;simp only[go_sem,hS0,hS2]<;>repeat' first|apply W6|exact on'|fail)
 ·rw[b0W hB hd (fun j hj=>ha j z0D)];exact⟨rfl,rfl⟩
noncomputable def a2K:CT:=l4 (fun(x:c4)=>b3M x)
@[go_sem] def c9H:=fun x0 x1=>nm' (fQ' a2K rfl ⟨x0,x1⟩)
def c9R(l:List α)(n:Nat):cut l 0 n=l.take n:=by unfold cut;simp
def b3y(p:c4):spZ 157 [(true,[p6 p.Decls,o9 p.Rules])] [] (.tup [(false,[.i .i64 ((p7 p).1)]),(false,[.i .i64 ((p7 p).2)])]):=by
 refine sy' Tryz.func157 (q' 1 [aX 2 0,aK 0,aK 0] (.seq (q' 9 [ae 2 1,ac 148 [9],aO 10] (ci 11 (q' 2 [aK 1,aK 0] .ret))) (.seq (q' 12 [aG 0 1,aN,aK 0] (fO 0 16 [ar 15 14] 16 1 (q' 17 [am 15,ai 3 13 15,aE 3,ax (w' 5 [.i .i64,.s,.i .i64]),av 4 17,aS 3 5 19] (q' 20 [aG 1 5,aY .eql 21 [112,97,99,107,101,116],am 22,aH 23 false [bf 1 5,bL,bY .eql 25 [102,111,114,119,97,114,100]],aQ 23 26,am 27,aH 28 false [bf 0 1,bL,bm 4,bo (.slc 3 (.t 30) none (some (.t 31)) none),bo (.mf 214 [.t 5]),bc 213 [32,33]],aQ 28 34] (ci 35 (q' 36 [am 4,az 2 2,aV 3] .ret)))) (g' 37 [aA 15]))) (.seq (q' 38 [aG 1 1,aN,aK 0] (fO 2 42 [ar 41 40] 42 3 (q' 43 [am 41,ai 4 39 41,aE 4,ax (w' 7 [.i .i64,.s,.sl k9,.sl a9K]),av 6 43,aS 4 7 45] (q' 46 [ae 2 1,ae 4 7,ac 215 [46,47],aV 8] (q' 49 [am 8,aC .neq 49 0] (ci 50 (q' 51 [aM [8,6],av 2 51,aV 3] .ret))))) (g' 53 [aA 41]))) (q' 2 [aK 0,aK 0] .ret))))) [.t 2,.t 3] [(148,[],a2Z),(213,[],b2C),(215,[],a7H)] ?_;intro hb hE;simp only[go_sem];repeat' first|apply cj'|intro hc|exact om'|fail
 ·rw[a3x hc];exact⟨rfl,rfl⟩
 have hB:a0g p=true:=hc;clear hc;refine lq' false [1,13,14] [2] [] (fun i:{i:Nat // i<=p.Decls.length/\∀j,j<i->z5 p j=false}=>[(15,slV (.i .i64 i.1))]) nl' nl' (fun i=>p.Decls.length-i.1) (⟨0,z0D,z2J⟩) ?_;intro S0 hS0 i;obtain⟨n,hn,ha⟩:=i;simp only[go_sem,hS0];repeat' first|apply cj'|intro hc|exact om'|fail
 ·rw[c9R]at hc;have hq:z5 p n=true:=by rcases hc with(hc|hc)|hc<;>simp only[z5,pkB,fwB,hc,Bool.true_or,q5Y]
  rw[a2j hB z0D ha hq];exact⟨rfl,rfl⟩
 ·rw[c9R]at hc;have hq:z5 p n=false:=by simp only[z5,pkB,fwB,hc,q5D]
  exact nx0 ⟨n+1,z0D,b3S ha hq⟩
 have hd:∀j,j<p.Decls.length->z5 p j=false:=fun j hj=>ha j (by omega)
 clear hc ha;refine lq' false [1,39,40] [2] [] (fun i:{i:Nat // i<=p.Rules.length/\∀j,j<i->a0w p j=false}=>[(41,slV (.i .i64 i.1))]) nl' nl' (fun i=>p.Rules.length-i.1) (⟨0,z0D,z2J⟩) ?_;intro S1 hS1 i;obtain⟨n,hn,ha⟩:=i;simp only[go_sem,hS0,hS1];repeat' first|apply cj'|intro hc|exact om'|fail
 ·exact d1k hB (by omega)
 ·have hq:a0w p n=true:=by
   simp only[bne,q0W,beq_eq_false_iff_ne]at hc;rw[a0w,q0W,beq_eq_false_iff_ne];exact hc
  rw[a3Z hB hd z0D ha hq];exact⟨rfl,rfl⟩
 ·have hq:a0w p n=false:=by
   simp only[bne,q0T,beq_iff_eq]at hc;rw[a0w,q0T,beq_iff_eq];exact hc
  exact nx1 ⟨n+1,z0D,b3S ha hq⟩
 ·rw[b0W hB hd (fun j hj=>ha j z0D)];exact⟨rfl,rfl⟩
noncomputable def a5q:CT:=l4 (fun(x:c4)=>b3y x)
@[go_sem] def c9x:=fun x0 x1=>nm' (fQ' a5q rfl ⟨x0,x1⟩)
def bodyN(r:c8):List (List UInt8):=((y7 r).drop 1).map f9.Name
def e1W(p:c4)(a:List UInt8)(r:c8):Bool:=(r.Kind==1&&a0P p r.Head.Name==3)&&r.Head.Name==a
def a4i(p:c4)(a:List UInt8):List (List UInt8):=(p.Rules.filter (e1W p a)).flatMap bodyN
inductive Rch(p:c4)(a:List UInt8):List UInt8->Prop
 | one {b:List UInt8}:b∈a4i p a->Rch p a b
 | step {b c:List UInt8}:Rch p a b->c∈a4i p b->Rch p a c
def c5x(p:c4):List (List UInt8):=p.Rules.flatMap bodyN
def c2M{p:c4}{a b:List UInt8}(h:b∈a4i p a):b∈c5x p:=by
 obtain⟨r,hr,hb⟩:=q2K.1 h;exact q2K.2 ⟨r,(q0N.1 hr).1,hb⟩
def Rch.all{p:c4}{a b:List UInt8}(h:Rch p a b):b∈c5x p:=by
 cases h with
 | one h=>exact c2M h
 | step _ h=>exact c2M h
def Rch.mem{p:c4}{a:List UInt8}{l:List (List UInt8)}(h1:∀x∈a4i p a,x∈l)(h2:∀x∈l,∀y∈a4i p x,y∈l){b:List UInt8}(h:Rch p a b):b∈l:=by
 induction h with
 | one h=>exact h1 _ h
 | step _ h ih=>exact h2 _ ih _ h
open Classical in
noncomputable def reachS(p:c4)(a:List UInt8):List (List UInt8):=(l5 sLt [] (c5x p)).filter fun v=>decide (Rch p a v)
noncomputable def leans(p:c4)(a b:List UInt8):Bool:=(p7 p).1==0&&(reachS p a).contains b
def a6p(o l:List (List UInt8)):List (List UInt8):=l.foldl (fun o y=>if y∈o then o else o++[y]) o
def c0y:∀(l o:List (List UInt8)),∃s,a6p o l=o++s/\(∀x∈s,x∈l)
 | [],o=>⟨[],by simp[a6p],z0E⟩
 | y::l,o=>by
   by_cases h:y∈o
   ·obtain⟨s,e,hs⟩:=c0y l o;exact⟨s,by rw[<-e];simp[a6p,h],fun x hx=>q1W _ (hs x hx)⟩
   ·obtain⟨s,e,hs⟩:=c0y l (o++[y]);refine⟨y::s, ?_, ?_⟩
    ·have:a6p o (y::l)=a6p (o++[y]) l:=by simp[a6p,h]
     rw[this,e];simp
    ·intro x hx;rcases q0B.1 hx with rfl|hx
     ·simp
     ·exact q1W _ (hs x hx)
def a6q{l o:List (List UInt8)}{x:List UInt8}:x∈a6p o l↔x∈o\/x∈l:=by
 induction l generalizing o with
 | nil=>simp[a6p]
 | cons y l ih=>
   have e:a6p o (y::l)=a6p (if y∈o then o else o++[y]) l:=rfl;rw[e,ih];by_cases h:y∈o
   ·simp only[h,if_true,q0B];constructor
    ·rintro(h1|h1);exact .inl h1;exact .inr (.inr h1)
    ·rintro(h1|rfl|h1);exact .inl h1;exact .inl h;exact .inr h1
   ·rw[if_neg h,V0,q0E,q0B,or_assoc]
def b1A:∀{l o:List (List UInt8)},o.Nodup->(a6p o l).Nodup
 | [],o,h=>h
 | y::l,o,h=>by
   have e:a6p o (y::l)=a6p (if y∈o then o else o++[y]) l:=rfl;rw[e];by_cases hy:y∈o
   ·rw[if_pos hy];exact b1A h
   ·rw[if_neg hy];refine b1A (q0Q.2 ⟨h,z0E, ?_⟩);intro a ha b hb;rw[q0E]at hb;rintro rfl;exact hy (hb▸ha)
def univ(p:c4):Nat:=(c5x p).length
structure FInv(p:c4)(v:List UInt8)(k:Nat)(o n:List (List UInt8)):Prop where
 nd:o.Nodup
 un:∀x∈o,x∈c5x p
 ok:∀x∈o,Rch p v x
 nx:∀x∈n,x=v\/x∈o
 cl:∀x,x=v\/x∈o->x∈n\/∀y∈a4i p x,y∈o
 ms:n=[]\/k+2*(univ p-o.length)+n.length<=2*univ p+1
def c6d{α:Type}[DecidableEq α]:∀{l m:List α},l.Nodup->(∀x∈l,x∈m)->l.length<=m.length
 | [],_,_,_=>q2D _
 | x::l,m,h,hm=>by
   rw[q1Q]at h;have h1:=c6d (l:=l) (m:=m.erase x) h.2 fun y hy=>(List.mem_erase_of_ne (fun e=>h.1 (by rw[<-e];exact hy))).2 (hm y z0T)
   have h2:=List.length_erase_of_mem (hm x z0E);have h3:0<m.length:=List.length_pos_of_mem (hm x z0E);simp only[V9];omega
def FInv.start(p:c4)(v:List UInt8):FInv p v 0 [] [v]:=
 ⟨q0Z,z0E,z0E,z0E,fun x hx=>.inl z2O,.inr z0E⟩
def FInv.step{p:c4}{o r:List (List UInt8)}{x:List UInt8}(h:FInv p v k o (x::r)):FInv p v (k+1) (a6p o (a4i p x)) (r++(a6p o (a4i p x)).drop o.length):=by
 obtain⟨s,e,hs⟩:=c0y (a4i p x) o;have hd:(a6p o (a4i p x)).drop o.length=s:=by rw[e];simp
 have hx:x=v\/Rch p v x:=(h.nx x z0E).imp id (h.ok x);have hR:∀y∈a4i p x,Rch p v y:=fun y hy=>by
  rcases hx with rfl|hx
  ·exact .one hy
  ·exact .step hx hy
 have hun:∀y∈a6p o (a4i p x),y∈c5x p:=fun y hy=>(a6q.1 hy).elim (h.un y) c2M
 have hnd:=b1A (l:=a4i p x) h.nd;refine⟨hnd,hun,fun y hy=>(a6q.1 hy).elim (h.ok y) (hR y), ?_, ?_, ?_⟩
 ·intro y hy;rw[hd]at hy;rcases V0.1 hy with hy|hy
  ·exact(h.nx y z0T).imp id fun hy=>a6q.2 (.inl hy)
  ·exact .inr (a6q.2 (.inr (hs y hy)))
 ·intro y hy;rw[hd];have old:y=v\/y∈o->y∈r++s\/∀z∈a4i p y,z∈a6p o (a4i p x):=by
   intro hy;rcases h.cl y hy with h1|h1
   ·rcases q0B.1 h1 with rfl|h1
    ·exact .inr fun z hz=>a6q.2 (.inr hz)
    ·exact .inl (V0.2 (.inl h1))
   ·exact .inr fun z hz=>a6q.2 (.inl (h1 z hz))
  rcases hy with hy|hy
  ·exact old (.inl hy)
  ·rw[e]at hy;rcases V0.1 hy with hy|hy
   ·exact old (.inr hy)
   ·exact .inl (V0.2 (.inr hy))
 ·right;have h1:=c6d hnd hun;have h2:(a6p o (a4i p x)).length=o.length+s.length:=by rw[e,V6]
  have h3:=h.ms.resolve_left z0E;rw[hd];simp only[V9,V6,univ]at h1 h3 ⊢;omega
def c9p{p:c4}(h:a0g p=true)(hi:i<p.Rules.length):(p.Rules.getD i default).Body.length<=8:=d0k h (A3y hi)
def nextF(p:c4)(a:List UInt8)(n:Nat):List (List UInt8):=((p.Rules.take n).filter (e1W p a)).flatMap bodyN
@[go_sem] def nextF_zero(p:c4)(a:List UInt8):nextF p a 0=[]:=rfl
@[go_sem] def putsN_nil(l:List (List UInt8)):l5 sLt l []=l:=rfl
@[go_sem] def addL_nil(o:List (List UInt8)):a6p o []=o:=rfl
def a0c{p:c4}(h:((p7 p).1==0)=true):a0g p=true:=by
 cases hB:a0g p with
 | true=>rfl
 | false=>rw[a3x hB]at h;simp at h
def b3E(p:c4)(r:c8):spZ 143 [(true,[p6 p.Decls,o9 p.Rules]),(true,[.i .i64 r.Kind,.s r.Head.Name,o6 r.Head.Args,a0s r.Body])] [] (.one (false,[.b (r.Kind==1&&a0P p r.Head.Name==3)])):=by
 refine sy' Tryz.func143 (q' 2 [aX 2 0,aX 4 1,aU false] (q' 5 [aG 0 3,aC .eql 6 1,am 7,aH 8 true [be 2 2,bf 1 3,bF 0,bL,bc 146 [9,12],bC .eql 13 3],aP 8 14,aV 4] .ret)) [.t 4] [(146,[],a1x)] ?_;intro hb hE;simp only[go_sem];repeat' first|apply cj'|intro hc|exact om'|fail
 all_goals(first|rfl|(rw[hc];rfl))
noncomputable def a2H:CT:=l4 (fun(x:c4×c8)=>b3E x.1 x.2)
@[go_sem] def c9A:=fun x0 x1 x2 x3 x4 x5=>nm' (fQ' a2H rfl (⟨x0,x1⟩,⟨x2,⟨x3,x4⟩,x5⟩))
def b3F(p:c4):spZ 101 [(true,[p6 p.Decls,o9 p.Rules])] [] (.one (false,[.b ((p7 p).1==0)])):=by
 refine sy' Tryz.func101 (q' 1 [aX 2 0,aU false] (q' 6 [ae 2 1,ac 157 [6],aV 5,aZ 5 0,aZ 5 1,av 3 8,aV 4] (q' 10 [am 3,aC .eql 10 0,aV 2] .ret))) [.t 2] [(157,[],a5q)] ?_;intro hb hE;simp only[go_sem];repeat' first|apply cj'|intro hc|exact om'|fail
 all_goals(first|rfl)
noncomputable def a2I:CT:=l4 (fun(x:c4)=>b3F x)
@[go_sem] def c9B:=fun x0 x1=>nm' (fQ' a2I rfl ⟨x0,x1⟩)
@[go_sem] def e2L(l o:List (List UInt8)):l++List.drop o.length o=l:=z0E
def a9T(q:Nat->Bool):∀n,(∀j,j<n->q j=false)\/∃i,i<n/\(∀j,j<i->q j=false)/\q i=true
 | 0=>.inl fun j hj=>by omega
 | n+1=>by
   rcases a9T q n with h|⟨i,hi,h1,h2⟩
   ·cases hq:q n with
    | true=>exact .inr ⟨n,z0D,h,hq⟩
    | false=>exact .inl (b3S h hq)
   ·exact .inr ⟨i,z0D,h1,h2⟩
def a2R{p:c4}(h:(p7 p).1=0):a0g p=true/\(∀j,j<p.Decls.length->z5 p j=false)/\∀j,j<p.Rules.length->a0w p j=false:=by
 cases hB:a0g p with
 | false=>rw[a3x hB]at h;simp at h
 | true=>
   rcases a9T (z5 p) p.Decls.length with hd|⟨i,hi,h1,h2⟩
   ·rcases a9T (a0w p) p.Rules.length with hr|⟨i,hi,h1,h2⟩
    ·exact⟨rfl,hd,hr⟩
    ·rw[a3Z hB hd hi h1 h2]at h;simp only at h;rw[a0w,h]at h2;simp at h2
   ·rw[a2j hB hi h1 h2]at h;simp at h
def a7t{p:c4}(hd:∀j,j<p.Decls.length->z5 p j=false){j:Nat}(hi:i<p.Decls.length)(hj:j<i):(p.Decls.getD j default).Name≠(p.Decls.getD i default).Name:=by
 have h:=hd i hi;simp only[z5,q0Y,q2J]at h;intro e;refine h.2 (p.Decls.getD j default) ?_ z2Q;rw[k8 default z0D];exact q2R.2 ⟨j,z0D,rfl⟩
def vwN(p:c4):List (List UInt8):=(p.Decls.filter fun d=>d.Kind==3).map f7.Name
def vwS(p:c4):List (List UInt8):=l5 sLt [] (vwN p)
def vwS_SS(p:c4):SS sLt (vwS p):=SS.puts t5 SS.nil
def b6n(p:c4):(vwS p).Nodup:=(vwS_SS p).nodup t5
def c8o{p:c4}:v∈vwS p↔∃d∈p.Decls,d.Kind=3/\d.Name=v:=by
 rw[vwS,o7,vwN];simp only[q4S,false_or,q0R,q0N,beq_iff_eq,and_assoc]
def a2w{p:c4}(hd:∀j,j<p.Decls.length->z5 p j=false):a0P p v=3↔v∈vwS p:=by
 rw[c8o];constructor
 ·intro h;have hs:a0H p v=true:=by
   cases hs:a0H p v with
   | true=>rfl
   | false=>rw[a0P,(a6M hs).1]at h;exact absurd h (by decide)
  obtain⟨x,hx,hp,e⟩:=b3p hs;rw[a0P,a0O,e]at h;exact⟨x,hx,h,by simpa using hp⟩
 ·rintro⟨d,hm,hk,rfl⟩;obtain⟨i,hi,rfl⟩:=q1I hm;have e:p.Decls.getD i default=p.Decls[i]:=k8 default hi;have ha:((p.Decls.take i).any fun d=>d.Name==(p.Decls[i]).Name)=false:=by
   rw[q2J];intro x hx;obtain⟨j,hj,rfl⟩:=q2R.1 hx;have h1:=a7t hd hi (j:=j) z0D;rw[e,k8 default z0D]at h1;simpa using h1
  rw[a0P,(a9N hi ha (by rw[e];simp)).1,e];exact hk
def c1o{p:c4}(hr:∀j,j<p.Rules.length->a0w p j=false)(hi:i<p.Rules.length)(hk:a0P p (p.Rules.getD i default).Head.Name=3):(p.Rules.getD i default).Kind=1:=by
 have h:a0d p (p.Rules.getD i default)=0:=by
  have h:=hr i hi;rw[a0w,q0T,beq_iff_eq]at h;exact h
 generalize p.Rules.getD i default=r at h hk ⊢;refine Classical.byContradiction fun hne=>?_
 have hb:a3y p r=true:=by rw[a3y,show(r.Kind==1)=false from beq_eq_false_iff_ne.2 hne,V2,hk];rfl
 unfold a0d at h;rw[hb]at h;cases h1:(y7 r).any (a4D p)<;>rw[h1]at h<;>cases h2:(y7 r).any (a4e p)<;>rw[h2]at h<;>simp at h
abbrev Lev:=List UInt8->Int
def lvl(p:c4)(g:Lev):List f5:=(vwS p).map fun v=>⟨v,g v⟩
def upd(g:Lev)(v:List UInt8)(n:Int):Lev:=fun x=>if x=v then n else g x
def a9E(l:e8):Int:=if l.Kind=2 then 1 else 0
def a3I(p:c4)(g:Lev)(h:List UInt8)(l:e8):Prop:=l.Kind≠3->l.Atom.Name∈vwS p->g l.Atom.Name+a9E l<=g h
def a0X(p:c4)(g:Lev)(r:c8):Prop:=r.Head.Name∈vwS p->∀l∈r.Body,a3I p g r.Head.Name l
def Fx(p:c4)(g:Lev):Prop:=∀r∈p.Rules,a0X p g r
structure Low(p:c4)(g:Lev):Prop where
 ge:∀v,0<=g v
 mn:∀F,Fx p F->(∀v,0<=F v)->∀v∈vwS p,g v<=F v
structure Least(p:c4)(g:Lev):Prop where
 fx:Fx p g
 low:Low p g
 le:∀v∈vwS p,g v<=(vwS p).length
open Classical in
noncomputable def j8(p:c4):List f5×Bool:=bif (p7 p).1==0 then(if h:∃g,Least p g then(lvl p h.choose,true)else([],false))else([],false)
variable{g:Lev}
def d8Z{p:c4}{g':Lev}(h:∀v∈vwS p,g v=g' v):lvl p g=lvl p g':=q3C fun v hv=>by rw[h v hv]
def c2F{p:c4}(h:((p7 p).1==0)=true)(hg:Least p g):j8 p=(lvl p g,true):=by
 have hx:∃g,Least p g:=⟨g,hg⟩
 rw[j8,h,W8,dif_pos hx];have h2:=hx.choose_spec;refine congrArg (·,true) (d8Z fun v hv=>Int.le_antisymm ?_ ?_)
 ·exact h2.low.mn g hg.fx hg.low.ge v hv
 ·exact hg.low.mn _ h2.fx h2.low.ge v hv
def c5X{p:c4}(hg:Low p g)(hv:v∈vwS p)(hn:((vwS p).length:Int)<g v):j8 p=([],false):=by
 rw[j8];cases(p7 p).1==0 with
 | false=>rfl
 | true=>
   rw[W8,dif_neg];rintro⟨F,hF⟩;have h1:=hg.mn F hF.fx hF.low.ge v hv;have h2:=hF.le v hv;omega
def Low.zero(p:c4):Low p fun _=>0:=⟨fun _=>Int.le_refl _,fun F _ h v _=>h v⟩
def Low.up{p:c4}(h:Low p g){r:c8}(hr:r∈p.Rules)(hh:r.Head.Name∈vwS p){l:e8}(hl:l∈r.Body)(hk:l.Kind≠3)(hb:l.Atom.Name∈vwS p):Low p (upd g r.Head.Name (g l.Atom.Name+a9E l)):=by
 have hn:0<=a9E l:=by unfold a9E;split<;>omega
 refine⟨fun v=>?_,fun F hF hF0 v hv=>?_⟩
 ·unfold upd;split
  ·have:=h.ge l.Atom.Name;omega
  ·exact h.ge v
 ·unfold upd;split
  ·rename_i e;subst e;have h1:=hF r hr hh l hl hk hb;have h2:=h.mn F hF hF0 _ hb;omega
  ·exact h.mn F hF hF0 v hv
def a3J(p:c4)(g:Lev):Nat:=p8 (fun v=>((vwS p).length+400-g v).toNat) (vwS p)
def d6E{α:Type}[DecidableEq α]{f f':α->Nat}{x:α}:∀{l:List α},l.Nodup->x∈l->(∀y,y≠x->f' y=f y)->f' x<f x->p8 f' l<p8 f l
 | [],_,hx,_,_=>by simp at hx
 | y::l,hn,hx,h1,h2=>by
   rw[q1Q]at hn;simp only[p8];by_cases e:y=x
   ·subst e;have:∀{m:List α},¬y∈m->p8 f' m=p8 f m:=by
     intro m
     induction m with
     | nil=>intro _;rfl
     | cons z m ih=>
       intro hm;simp only[q0B,not_or]at hm;simp only[p8,h1 z (fun e=>hm.1 e.symm),ih hm.2]
    rw[this hn.1];omega
   ·have hx':x∈l:=by
     rcases q0B.1 hx with h|h
     ·exact absurd h.symm e
     ·exact h
    have:=d6E hn.2 hx' h1 h2;rw[h1 y e];omega
def lsum_lt{p:c4}{g:Lev}{n:Int}(hv:v∈vwS p)(h:g v<n)(hn:g v<(vwS p).length+400):a3J p (upd g v n)<a3J p g:=by
 refine d6E (b6n p) hv (fun y hy=>by simp[upd,hy]) ?_;simp only[upd,if_true];omega
def a7r(p:c4)(g:Lev):(lvl p g).length=(vwS p).length:=by simp[lvl]
def d0R(p:c4)(g:Lev)(h:i<(vwS p).length):(lvl p g).getD i default=⟨(vwS p).getD i [],g ((vwS p).getD i [])⟩:=by
 rw[k8 _ (by rw[a7r];exact h),k8 _ h];simp[lvl]
def d6q(p:c4)(g:Lev)(h:i<(vwS p).length)(n:Int):(lvl p g).set i ⟨(vwS p).getD i [],n⟩=lvl p (upd g ((vwS p).getD i []) n):=by
 have e0:(vwS p).getD i []=(vwS p)[i]:=k8 [] h;rw[e0];apply q4Q
 ·simp[lvl]
 ·intro j h1 h2;have hj:j<(vwS p).length:=by simpa[lvl]using h2
  rw[List.getElem_set];split
  ·rename_i e;subst e;simp[lvl,upd]
  ·rename_i e;have hne:(vwS p)[j]≠(vwS p)[i]:=fun h3=>e ((List.getElem_inj (b6n p)).1 h3).symm
   simp[lvl,upd,hne]
end Go.Aw
namespace Go.Aw
set_option maxHeartbeats 4000000
open Go.Proofs Go.Shelf Go.RowKit Go.Sort
attribute [local irreducible] aft blk lpK retK AW A0e
set_option linter.all false
set_option maxRecDepth 100000
def c5K(x y:f5):Int:=Lib.compareBytes x.Name y.Name
def c5N(x:f5):List Value:=[encStr x.Name,.int .i64 x.N]
def c8u(a:List f5):List f5:=(pdq (ltOf c5K) a.toArray 0 a.length (Lib.bitLen a.length) true true).toList
def b3R(x y:f5):ltOf c5K x y=sLt x.Name y.Name:=e1k x.Name y.Name
def c5L:SWO (ltOf c5K) where
 irrefl x:=by rw[b3R];exact a1y _
 trans x y z h1 h2:=by rw[b3R]at*;exact a2h _ _ _ h1 h2
 ntrans x y z h1 h2:=by
  rw[b3R]at*;cases h:sLt x.Name z.Name with
  | false=>rfl
  | true=>
    cases h3:sLt y.Name x.Name with
    | true=>
      have h4:sLt y.Name z.Name=true:=a2h _ _ _ h3 h;rw[h4]at h2;exact h2
    | false=>
      have e:=a3m _ _ h1 h3;rw[e,h2]at h;exact h.symm
def d1q{l:List (List UInt8)}(hn:l.Nodup):c8u (l.map fun v=>⟨v,0⟩)=(l5 sLt [] l).map fun v=>⟨v,0⟩:=by
 have hp:=pdq_sorts (ltOf c5K) c5L (l.map fun v=>(⟨v,0⟩:f5)).toArray 0 (l.map fun v=>(⟨v,0⟩:f5)).length (Lib.bitLen (l.map fun v=>(⟨v,0⟩:f5)).length) true true (q2D _) z0E (Or.inl rfl);rw[c8u];generalize pdq (ltOf c5K) (l.map fun v=>(⟨v,0⟩:f5)).toArray 0 (l.map fun v=>(⟨v,0⟩:f5)).length (Lib.bitLen (l.map fun v=>(⟨v,0⟩:f5)).length) true true=D at hp ⊢;have hDs:D.size=(l.map fun v=>(⟨v,0⟩:f5)).length:=by have:=hp.1.1;simpa using this
 have hperm:D.toList.Perm (l.map fun v=>(⟨v,0⟩:f5)):=by
  have:=hp.1.2.2;simp only[Array.toList_extract]at this;have e1:(D.toList.extract 0 (l.map fun v=>(⟨v,0⟩:f5)).length)=D.toList:=by simp only[List.extract,q6G,q0O,<-hDs];exact q1A (by simp)
  have e2:((l.map fun v=>(⟨v,0⟩:f5)).toArray.toList.extract 0 (l.map fun v=>(⟨v,0⟩:f5)).length)=(l.map fun v=>(⟨v,0⟩:f5)):=by simp only[List.extract,q6G,q0O];exact q1A (by simp)
  rw[e1,e2]at this;exact this
 have hnames:(D.toList.map f5.Name).Perm l:=by
  have:=hperm.map f5.Name;simpa[Function.comp_def]using this
 have hsorted:(D.toList.map f5.Name).Pairwise fun a b=>sLt b a=false:=by
  rw[q2X];intro i j hi hj hij;have hi':i<D.size:=by simpa using hi
  have hj':j<D.size:=by simpa using hj
  have:=hp.2 i j (q2D _) hij (by rw[<-hDs];exact hj');rw[b3R,getElem!_pos D i hi',getElem!_pos D j hj']at this;simpa using this
 have hSS:SS sLt (D.toList.map f5.Name):=SS.of_sorted t5 hsorted (hnames.nodup_iff.2 hn);have he:D.toList.map f5.Name=l5 sLt [] l:=SS.uniq t5 hSS (SS.puts t5 SS.nil) fun x=>by rw[hnames.mem_iff,o7];simp
 have hz:∀x∈D.toList,x.N=0:=fun x hx=>by
  obtain⟨v,_,rfl⟩:=q0R.1 (hperm.mem_iff.1 hx);rfl
 rw[<-he,q4L];refine(List.map_id _).symm.trans (q3C fun x hx=>?_);have:=hz x hx;cases x;simp only at this;subst this;rfl
def d6C{F:Nat->Prop}{w:World}:∀{l:List f5} {vs:List Value} {fp:List Nat},C.RdRows F w (l.map f5.cells) vs fp->vs=l.flatMap c5N/\fp=[]/\∀n,n∈l->n.Name.length<=maxLen/\IntKind.i64.min<=n.N/\n.N<=IntKind.i64.max
 | [],vs,fp,h=>by
   unfold List.map C.RdRows at h;exact⟨h.1,h.2,z0E⟩
 | n::l,vs,fp,h=>by
   rw[q0D]at h;unfold C.RdRows at h;obtain⟨v1,v2,f1,f2,rfl,rfl,h1,h2⟩:=h;obtain⟨rfl,rfl,h3⟩:=d6C h2;unfold f5.cells C.RdVals at h1;obtain⟨v,vs',g1,g2,rfl,rfl,k1,k2⟩:=h1;unfold C.RdVals at k2;obtain⟨u,us',g3,g4,rfl,rfl,k3,k4⟩:=k2;unfold C.RdVals at k4;obtain⟨rfl,rfl⟩:=k4;unfold C.Rd at k1 k3;obtain⟨rfl,q1,rfl⟩:=k1;obtain⟨rfl,q3,rfl⟩:=k3;refine⟨rfl,rfl,fun m hm=>?_⟩;rcases q0B.1 hm with rfl|hm
   ·exact⟨q1,q3⟩
   ·exact h3 m hm
def d6p{F:Nat->Prop}{w:World}:∀{l:List f5},(∀n,n∈l->n.Name.length<=maxLen/\IntKind.i64.min<=n.N/\n.N<=IntKind.i64.max)->C.RdRows F w (l.map f5.cells) (l.flatMap c5N) []
 | [],h=>by unfold List.map C.RdRows;exact⟨rfl,rfl⟩
 | n::l,h=>by
   rw[q0D,q2G];unfold C.RdRows;refine⟨c5N n,_,[],[],rfl,rfl, ?_,d6p fun m hm=>h m (by simp[hm])⟩;have hn:=h n z0E;unfold f5.cells c5N C.RdVals;refine⟨_,_,[],[],rfl,rfl, ?_, ?_⟩
   ·unfold C.Rd;exact⟨rfl,hn.1,rfl⟩
   ·unfold C.RdVals;refine⟨_,[],[],[],rfl,rfl, ?_, ?_⟩
    ·unfold C.Rd;exact⟨rfl,hn.2,rfl⟩
    ·unfold C.RdVals;exact⟨rfl,rfl⟩
def d3M(a b:ByteArray)(w:World):Calls Tryz.prog 142 #[.string a,.string b] w fun e w'=>e=.returned (.int .i64 (Lib.compareBytes a.data.toList b.data.toList))/\w'=w:=by
 have HC:∀w,Aside (Calls Tryz.prog 197 #[.string a,.string b] w fun e w'=>e=.returned (.int .i64 (Lib.compareBytes a.data.toList b.data.toList))/\w'=w):=fun w=>c5J a b w
 generalize Lib.compareBytes a.data.toList b.data.toList=r at HC ⊢
 go_enter Tryz.func142,Tryz.ntmps142
 go_wp2_with (go_at_call 197;refine(HC _).out.mono ?_;rintro e w' ⟨rfl,rfl⟩)
 go_ret
 exact⟨rfl,rfl⟩
def d8Y(a b:ByteArray)(m n:Int)(W:World):Calls Tryz.prog 141 #[.agg #[.string a,.int .i64 m],.agg #[.string b,.int .i64 n]] W fun e w'=>e=.returned (.int .i64 (Lib.compareBytes a.data.toList b.data.toList))/\∃q os',w'=grow (W.drewN q) os':=by
 have HC:∀w,Aside (Calls Tryz.prog 142 #[.string a,.string b] w fun e w'=>e=.returned (.int .i64 (Lib.compareBytes a.data.toList b.data.toList))/\w'=w):=fun w=>d3M a b w
 generalize Lib.compareBytes a.data.toList b.data.toList=r at HC ⊢
 go_enter Tryz.func141,Tryz.ntmps141
 go_wp2_with (go_at_call 142;refine(HC _).out.mono ?_;rintro e w' ⟨rfl,rfl⟩)
 go_ret
 exact⟨rfl,0,_,by rw[alloc_eq_grow,alloc_eq_grow,grow_grow];exact rfl⟩
def d8T(a:List f5)(hpre:a.length<4611686018427387904):spZ 140 [(false,[.sl true [.s [],.i .i64 0] (a.map f5.cells)]),(false,[.f 141 []])] [(0,(false,[.sl true [.s [],.i .i64 0] ((c8u a).map f5.cells)]))] (.tup []):=by
 exact d9o Tryz.sortLev z0L (k:=2) (fun w=>rfl) (fun w=>rfl) (enc:=c5N) (cf:=f5.cells) rfl (fun _=>rfl) (fun _=>rfl) (fun x v hv=>by simp only[c5N,q0B,q4S,or_false]at hv;rcases hv with rfl|rfl<;>rfl) (fun _ _ _ _ _ h=>d6C h) (fun _ _ _ h=>d6p h) c5K c5L (enters_of Tryz.func141 z0L rfl) (fun W x y=>d8Y ⟨x.Name.toArray⟩ ⟨y.Name.toArray⟩ x.N y.N W) a hpre
noncomputable def c5H:CT:=n9 (fun(x:(List f5)) h=>d8T x h)
@[go_sem] def e3f:=fun a=>nm' (fP' c5H rfl a)
end Go.Aw
namespace Go.Aw
set_option maxHeartbeats 4000000
open Go.Proofs
attribute [local irreducible] aft blk lpK retK AW A0e
set_option linter.all false
set_option maxRecDepth 100000
def a2d(n:List UInt8)(v:c9)(q:List c9×Bool)(x:c9):List c9×Bool:=((bif !q.2&&!sLt x.Name n then q.1++[v]else q.1)++(bif x.Name==n then[]else[x]),q.2||!sLt x.Name n)
def a6O(n:List UInt8)(v:c9)(l:List c9):List c9×Bool:=l.foldl (a2d n v) ([],false)
def a1D(l:List c9)(n:List UInt8)(v:c9):List c9:=bif (a6O n v l).2 then(a6O n v l).1 else(a6O n v l).1++[v]
def a1K(n:List UInt8)(v:c9){l:List c9}{i:Nat}(h:i<l.length):a6O n v (l.take (i+1))=a2d n v (a6O n v (l.take i)) (l.getD i default):=by
 rw[j6 default h,a6O,q2V];rfl
def d5Z(n:List UInt8)(v:c9):∀(A q:List c9),(∀x∈A,sLt x.Name n=true)->A.foldl (a2d n v) (q,false)=(q++A,false)
 | [],q,_=>by simp
 | x::A,q,h=>by
   have hx:=h x z0E;have hne:(x.Name==n)=false:=beq_eq_false_iff_ne.2 (t5.ne hx);rw[q2E,a2d,hx,hne];have:=d5Z n v A (q++[x]) fun y hy=>h y (by simp[hy])
   simpa using this
def b5q(n:List UInt8)(v:c9):∀(B q:List c9),B.foldl (a2d n v) (q,true)=(q++B.filter fun x=>!(x.Name==n),true)
 | [],q=>by simp
 | x::B,q=>by
   rw[q2E,a2d];cases h:(x.Name==n)with
   | true=>
     have:=b5q n v B q;simpa[h]using this
   | false=>
     have:=b5q n v B (q++[x]);simpa[h]using this
def c8x{α:Type}{q:α->Bool}:∀{l:List α} {x:α},x∈l.takeWhile q->q x=true
 | [],x,h=>by simp at h
 | a::l,x,h=>by
   rw[q2M]at h;split at h
   ·rename_i ha;rcases q0B.1 h with rfl|h
    ·exact ha
    ·exact c8x h
   ·simp at h
def b0b(l:List c9)(n:List UInt8)(v:c9):a1D l n v=l.takeWhile (fun x=>sLt x.Name n)++v::(l.dropWhile fun x=>sLt x.Name n).filter fun x=>!(x.Name==n):=by
 have e:a6O n v l=(l.dropWhile fun x=>sLt x.Name n).foldl (a2d n v) (l.takeWhile (fun x=>sLt x.Name n),false):=by
  have h0:=d5Z n v (l.takeWhile fun x=>sLt x.Name n) [] fun x hx=>c8x (q:=fun x:c9=>sLt x.Name n) hx
  rw[q1J]at h0;rw[<-h0,<-q2V,q1Y];rfl
 rw[a1D,e];cases hB:l.dropWhile fun x=>sLt x.Name n with
 | nil=>simp
 | cons b B=>
   have hb:=a1J hB;rw[q2E,a2d,hb];simp only[q3K,q1V,W8,q5Y];rw[b5q];cases hn:(b.Name==n)with
   | true=>simp[hn]
   | false=>simp[hn]
def c3c{l:List c9}(hs:SS sLt (l.map c9.Name))(n:List UInt8)(r:f8):(a1D l n ⟨n,r⟩).map c9.Name=a1j sLt (l.map c9.Name) n:=by
 have hsplit:l=l.takeWhile (fun x=>sLt x.Name n)++l.dropWhile (fun x=>sLt x.Name n):=q1Y.symm;have hA:∀x∈l.takeWhile (fun x=>sLt x.Name n),sLt x.Name n=true:=fun x hx=>c8x (q:=fun x:c9=>sLt x.Name n) hx
 have hBn:∀x∈l.dropWhile (fun x=>sLt x.Name n),sLt x.Name n=false:=by
  cases hB:l.dropWhile fun x=>sLt x.Name n with
  | nil=>intro x hx;simp at hx
  | cons b B=>
    have hb:=a1J hB;intro x hx;rcases q0B.1 hx with rfl|hx
    ·exact hb
    ·have hp:(l.dropWhile fun x=>sLt x.Name n).Pairwise fun a b=>sLt a.Name b.Name=true:=by
      have:=q4H.1 hs;rw[hsplit]at this;exact(q5K.1 this).2.1
     rw[hB]at hp;have h1:=(q3J.1 hp).1 x hx;cases h2:sLt x.Name n with
     | false=>rfl
     | true=>
       have h3:sLt b.Name n=true:=a2h _ _ _ h1 h2;rw[h3]at hb;exact hb
 refine SS.uniq t5 ?_ (SS.put t5 hs n) fun x=>?_
 ·rw[b0b];show SS sLt _;rw[SS,q4H];have hp:=q4H.1 hs;rw[hsplit]at hp;obtain⟨p1,p2,p3⟩:=q5K.1 hp;have hgt:∀x∈(l.dropWhile fun x=>sLt x.Name n).filter (fun x=>!(x.Name==n)),sLt n x.Name=true:=fun x hx=>by
   obtain⟨h1,h2⟩:=q0N.1 hx;have h3:=hBn x h1;cases h4:sLt n x.Name with
   | true=>rfl
   | false=>
     have h5:=a3m _ _ h3 h4;rw[h5]at h2;simp at h2
  refine q5K.2 ⟨p1,q3J.2 ⟨hgt,p2.filter _⟩,fun a ha b hb=>?_⟩;rcases q0B.1 hb with rfl|hb
  ·exact hA a ha
  ·exact a2h _ _ _ (hA a ha) (hgt b hb)
 ·rw[b3U,b0b];simp only[q1B,q0D,V0,q0B,q0R,q0N];constructor
  ·rintro(⟨y,hy,rfl⟩|rfl|⟨y,⟨hy,_⟩,rfl⟩)
   ·exact .inr ⟨y,by rw[hsplit];exact V0.2 (.inl hy),rfl⟩
   ·exact .inl rfl
   ·exact .inr ⟨y,by rw[hsplit];exact V0.2 (.inr hy),rfl⟩
  ·rintro(rfl|⟨y,hy,rfl⟩)
   ·exact .inr (.inl rfl)
   ·rw[hsplit]at hy;rcases V0.1 hy with hy|hy
    ·exact .inl ⟨y,hy,rfl⟩
    ·by_cases e:y.Name=n
     ·exact .inr (.inl e)
     ·exact .inr (.inr ⟨y,⟨hy,z2Q⟩,rfl⟩)
def a5h{l:List c9}{n:List UInt8}{v x:c9}(h:x∈a1D l n v):x=v\/x∈l:=by
 rw[b0b]at h;rcases V0.1 h with h|h
 ·exact .inr (List.takeWhile_sublist _ |>.mem h)
 ·rcases q0B.1 h with h|h
  ·exact .inl h
  ·exact .inr (List.dropWhile_sublist _ |>.mem (q0N.1 h).1)
def a0r(l:List f7):List c9:=l.foldl (fun s d=>a1D s d.Name ⟨d.Name,⟨d.Arity,[]⟩⟩) []
def a7l:∀l:List f7,(a0r l).map c9.Name=l5 sLt [] (l.map f7.Name):=by
 intro l;have gen:∀(l:List f7) (s:List c9),SS sLt (s.map c9.Name)->(l.foldl (fun s d=>a1D s d.Name ⟨d.Name,⟨d.Arity,[]⟩⟩) s).map c9.Name=l5 sLt (s.map c9.Name) (l.map f7.Name):=by
  intro l
  induction l with
  | nil=>intro s _;rfl
  | cons d l ih=>
    intro s hs;have e:=c3c hs d.Name ⟨d.Arity,[]⟩;have hs2:SS sLt ((a1D s d.Name ⟨d.Name,⟨d.Arity,[]⟩⟩).map c9.Name):=by rw[e];exact SS.put t5 hs _
    rw[q2E,ih _ hs2,e];rfl
 exact gen l [] SS.nil
def c9V:∀l:List f7,∀x∈a0r l,x.Rel.Rows=[]:=by
 intro l;have gen:∀(l:List f7) (s:List c9),(∀x∈s,x.Rel.Rows=[])->∀x∈l.foldl (fun s d=>a1D s d.Name ⟨d.Name,⟨d.Arity,[]⟩⟩) s,x.Rel.Rows=[]:=by
  intro l
  induction l with
  | nil=>intro s h;exact h
  | cons d l ih=>
    intro s h;rw[q2E];refine ih _ fun x hx=>?_
    rcases a5h hx with rfl|hx
    ·rfl
    ·exact h x hx
 exact gen l [] z0E
def b1H(l:List f7):(a0r l).length<=l.length:=by
 have h:=congrArg List.length (a7l l);have h2:=a0u sLt (l.map f7.Name) [];simp only[q0C,q1R]at h h2;omega
set_option maxHeartbeats 40000000
attribute [local irreducible] RM
@[go_sem] def a7z:ACode:=q' 1 [aX 2 0,aw [.i .i64,.sl k7]] (q' 5 [aG 0 1,ao (.bld [.i .i64,.sl k7] [(0,1,.t 6)]),ax (w'
 3 [.i .i64,.sl k7]),aS 2 3 7] (.seq (q' 8 [aG 1 1,aN,aK 0] (fO 0 12 [ar 11 10] 12 1 (q' 13 [am 11,aV 4] (rm' [(true,2,f' 16
 1 1),(true,3,l' 17 16),(true,4,m' 18 4),(true,5,i' 19 1 17 18),(true,6,e' 20 1 19),(false,0,f' 14 1 3),(false,1,l' 15 14),(false,7,c' 21
 132 [20]),(false,8,o' 22 (.bsl 1 1 [.sl l7] [(0,.t 21)])),(false,9,o' 23 (.app 1 24 [.sl l7] (.t 15) (.t 22))),(false,
 10,f' 24 1 3),(false,11,s' 1 24 23)] [[0,1,2,3,4,5,7,6,8,9,10,11],[0,1,2,3,4,5,7,8,6,9,10,11],[0,1,2,3,4,7,5,6,8,9,10,
 11],[0,1,2,3,4,7,5,8,6,9,10,11],[0,1,2,3,4,7,8,5,6,9,10,11]] [2,3])) (g' 25 [aA 11]))) (q' 26 [ae 2 3,aS 2 2 26] .ret)))
def b5P(a:Int):spZ 88 [(true,[.i .i64 a,.sl false k7 []])] [] (.one (true,[.i .i64 ((⟨a,[]⟩:f8).Arity),u7 ((⟨a,[]⟩:f8).Rows)])):=by
 refine sx' false true none Tryz.func88 a7z [.c 2 true 2] [] ?_;intro hb hE;simp only[go_sem];(repeat' first|apply cj'|intro hc|apply a0o);(all_goals(try((first|refine a0V 5 rfl ?_);intro S hS B0 hB;simp only[go_sem,z0B]at hS hB;(repeat(first|replace hS:=And.right hS|replace hS:=CJ.r hS));have Rr1:=congrArg (fun s:St=>s.sl 1) hS;have Rr3:=congrArg (fun s:St=>s.sl 3) hS;have Rr4:=congrArg (fun s:St=>s.sl 4) hS;have Rb2:=congrArg (fun s:St=>s.bx 2) hS;have Rb3:=congrArg (fun s:St=>s.bx 3) hS;have Rb4:=congrArg (fun s:St=>s.bx 4) hS;have Rb6:=congrArg (fun s:St=>s.bx 6) hS;clear hS;simp only[go_sem]at Rr1 Rr3 Rr4 Rb2 Rb3 Rb4 Rb6;(try clear hc);intro K hc;simp only[go_sem,Rr1,Rr3,Rr4,Rb2,Rb3,Rb4,Rb6,hB,K6]at hc ⊢;simp only[go_sem,Rr1,Rr3,Rr4,Rb2,Rb3,Rb4,Rb6,hB,K0]at hc ⊢;(first|(simp only[hc,K5];done)|((repeat' first|exact hc|apply W6);done)))));all_goals try exact om'
 refine lq' false [1,2,3,10] [2,4,3] [] (fun i:Unit=>[(11,slV (.i .i64 0))]) (fun i=>[(6,[.c (.i .i64 a),.nl k7])]) nl' (fun i=>0) () ?_;intro S0 hS0 i;simp only[go_sem,hS0];(repeat' first|apply cj'|intro hc|apply a0o);(all_goals(try((first|refine a0V 5 rfl ?_);intro S hS B0 hB;simp only[go_sem,hS0,z0B]at hS hB;(repeat(first|replace hS:=And.right hS|replace hS:=CJ.r hS));have Rr1:=congrArg (fun s:St=>s.sl 1) hS;have Rr3:=congrArg (fun s:St=>s.sl 3) hS;have Rr4:=congrArg (fun s:St=>s.sl 4) hS;have Rb2:=congrArg (fun s:St=>s.bx 2) hS;have Rb3:=congrArg (fun s:St=>s.bx 3) hS;have Rb4:=congrArg (fun s:St=>s.bx 4) hS;have Rb6:=congrArg (fun s:St=>s.bx 6) hS;clear hS;simp only[go_sem,hS0]at Rr1 Rr3 Rr4 Rb2 Rb3 Rb4 Rb6;(try clear hc);intro K hc;simp only[go_sem,hS0,Rr1,Rr3,Rr4,Rb2,Rb3,Rb4,Rb6,hB,K6]at hc ⊢;simp only[go_sem,hS0,Rr1,Rr3,Rr4,Rb2,Rb3,Rb4,Rb6,hB,K0]at hc ⊢;(first|(simp only[hc,K5];done)|((repeat' first|exact hc|apply W6);done)))));all_goals try exact om'
 all_goals first
  | (exfalso;simp at hc;done)
  | (exfalso;simp at*;done)
  | trace_state
noncomputable def a6G:CT:=l4 (fun(x:Int)=>b5P x)
@[go_sem] def d1R:=fun a=>nm' (fQ' a6G rfl a)
def d4p(n x:List UInt8):(Op.bytesLess n x||n==x)=!sLt x n:=by
 cases h1:Op.bytesLess n x with
 | true=>
   cases h2:sLt x n with
   | true=>have h3:=a2h _ _ _ h1 h2;rw[a1y]at h3;cases h3
   | false=>rfl
 | false=>
   cases h2:sLt x n with
   | true=>
     have:(n==x)=false:=beq_eq_false_iff_ne.2 fun e=>by subst e;have h3:sLt n n=false:=a1y n;rw[h3]at h2;cases h2
     rw[this];rfl
   | false=>rw[a3m _ _ h1 h2];simp
def b0c{n:List UInt8}{v x:c9}{q1:List c9}{q2:Bool}(h:q2=false/\(Op.bytesLess n x.Name=true\/(n==x.Name)=true)):a2d n v (q1,q2) x=(q1++[v]++(bif x.Name==n then[]else[x]),true):=by
 have h2:(!sLt x.Name n)=true:=by rw[<-d4p,q2U];exact h.2
 rw[a2d,h.1,h2];rfl
def b4e{n:List UInt8}{v x:c9}{q1:List c9}{q2:Bool}(h:(!q2&&(Op.bytesLess n x.Name||n==x.Name))=false):a2d n v (q1,q2) x=(q1++(bif x.Name==n then[]else[x]),q2):=by
 rw[d4p]at h;rw[a2d,h,V2];cases q2 with
 | true=>rfl
 | false=>
   have h2:(!sLt x.Name n)=false:=by simpa using h
   rw[h2];rfl
def b5p(n:List UInt8)(v:c9):∀(l q:List c9) (b:Bool),(l.foldl (a2d n v) (q,b)).1.length<=q.length+2*l.length
 | [],q,b=>by simp
 | x::l,q,b=>by
   rw[q2E];have h:=b5p n v l (a2d n v (q,b) x).1 (a2d n v (q,b) x).2;have h2:(a2d n v (q,b) x).1.length<=q.length+2:=by
    simp only[a2d];cases !b&&!sLt x.Name n<;>cases x.Name==n<;>simp<;>omega
   have e:((a2d n v (q,b) x).1,(a2d n v (q,b) x).2)=a2d n v (q,b) x:=rfl;rw[e]at h;simp only[V9];omega
def a7k{x:c9}(h:x.Rel.Rows=[]):c9.cells false false x=[.s x.Name,.i .i64 x.Rel.Arity,.sl false k7 []]:=by
 cases x with
 | mk a b=>
   cases b with
   | mk c d=>cases h;rfl
@[go_sem] def a8v:ACode:=q' 5 [ax (o' 3 (.box 1 (.t 0))),aX 2 2,aw [.sl o0]] (q' 7 [ax (o' 10 (.bld [.sl o0] [])),aw [.sl o0],aS 1 7 10] (q' 8 [aU
 false] (.seq (q' 11 [aG 0 3,aN,aK 0] (fO 0 15 [ar 14 13] 15 1 (q' 16 [am 14,aV 9] (.seq (q' 17 [am 8,aO 17,am 18,aH 19 true [bm 1,bf 0 3,bL,bm 9,bI 3,bF
 0,bL,bD .leq 20 26],aP 19 27] (ci 28 (.seq (rm' [(true,2,m' 31 1),(true,3,e' 32 2 5),(false,0,f' 29 0 7),(false,1,l' 30 29),(false,4,c' 33 88
 [32]),(false,5,o' 34 (.bld [.s,.i .i64,.sl k7] [(0,1,.t 31),(1,2,.t 33)])),(false,6,o' 35 (.bsl 3 1 [.s,.i .i64,
 .sl k7] [(0,.t 34)])),(false,7,o' 36 (.app 3 48 [.s,.i .i64,.sl k7] (.t 30) (.t 35))),
 (false,8,f' 37 0 7),(false,9,s' 1 37 36)] [[0,1,2,4,3,5,6,7,8,9],[0,1,2,4,5,3,6,7,8,9],[0,1,2,4,5,6,3,7,8,9],[0,1,4,2,
 3,5,6,7,8,9],[0,1,4,2,5,3,6,7,8,9],[0,1,4,2,5,6,3,7,8,9],[0,1,4,5,2,3,6,7,8,9],[0,1,4,5,2,6,3,7,8,9],[0,1,4,
 5,6,2,3,7,8,9]] [10,11]) (g' 8 [aU true])))) (q' 38 [aG 0 3,am 9,aI 3,aG 0 41,am 1,aD .neq 43 44] (ci 45 (rm' [(true,2,f' 48 0 3),(true,3,l' 49
 48),(true,4,m' 50 9),(true,5,i' 51 3 49 50),(true,6,f' 52 0 51),(true,7,l' 53 52),(true,8,f' 54 0 3),(true,9,l' 55 54),(true,10,m' 56 9),
 (true,11,i' 57 3 55 56),(true,12,f' 58 1 57),(true,13,e' 59 2 58),(false,0,f' 46 0 7),(false,1,l' 47 46),(false,14,c' 60 88 [59]),(false,
 15,o' 61 (.bld [.s,.i .i64,.sl k7] [(0,1,.t 53),(1,2,.t 60)])),(false,16,o' 62 (.bsl 3 1 [.s,.i .i64,.sl k7] [(0,.t 61)])),(false,17,o' 63 (.app 3 48 [.s,.i .i64,.sl k7] (.t 47) (.t 62))),(false,18,
 f' 64 0 7),(false,19,s' 1 64 63)] [[0,1,2,3,4,5,6,7,8,9,10,11,12,14,13,15,16,17,18,19],[0,1,2,3,4,5,6,7,8,9,10,11,12,14,
 15,13,16,17,18,19],[0,1,2,3,4,5,6,7,8,9,10,11,12,14,15,16,13,17,18,19],[0,1,2,3,4,5,6,7,8,9,10,11,14,12,13,15,16,
 17,18,19],[0,1,2,3,4,5,6,7,8,9,10,11,14,12,15,13,16,17,18,19],[0,1,2,3,4,5,6,7,8,9,10,11,14,12,15,16,13,17,18,19],
 [0,1,2,3,4,5,6,7,8,9,10,11,14,15,12,13,16,17,18,19],[0,1,2,3,4,5,6,7,8,9,10,11,14,15,12,16,13,17,18,19],[0,1,2,3,
 4,5,6,7,8,9,10,11,14,15,16,12,13,17,18,19]] [6,7]))))) (g' 65 [aA 14]))) (.seq (q' 66 [am 8,aO 66] (ci 67 (rm' [(true,2,m' 70 1),(true,3,
 e' 71 2 5),(false,0,f' 68 0 7),(false,1,l' 69 68),(false,4,c' 72 88 [71]),(false,5,o' 73 (.bld [.s,.i .i64,.sl k7] [(0,1,.t 70),(1,2,.t 72)])),(false,6,o' 74 (.bsl 3 1 [.s,.i .i64,.sl k7] [(0,.t 73)])),(false,7,o' 75 (.app
 3 48 [.s,.i .i64,.sl k7] (.t 69) (.t 74))),(false,8,f' 76 0 7),(false,9,s' 1 76 75)] [[0,1,2,4,3,5,6,7,8,9],
 [0,1,2,4,5,3,6,7,8,9],[0,1,2,4,5,6,3,7,8,9],[0,1,4,2,3,5,6,7,8,9],[0,1,4,2,5,3,6,7,8,9],[0,1,4,2,5,6,3,7,8,
 9],[0,1,4,5,2,3,6,7,8,9],[0,1,4,5,2,6,3,7,8,9],[0,1,4,5,6,2,3,7,8,9]] [10,11]))) (q' 77 [ae 1 7,aS 1 6 77] .ret)))))
def c5g(s:c6)(n:List UInt8)(r:f8)(hpre:((∀x∈s.Rels,x.Rel.Rows=[])/\r.Rows=[])/\s.Rels.length<=1000):spZ 84 [(true,[j7 s.Rels]),(false,[.s n]),(true,[.i .i64 r.Arity,u7 r.Rows])] [] (.one (true,[j7 ((⟨a1D s.Rels n ⟨n,⟨r.Arity,[]⟩⟩⟩:c6).Rels)])):=by
 refine sx' false true none Tryz.func84 a8v [.c 6 true 1] [(88,[],a6G)] ?_;intro hb hE;obtain⟨⟨hz,hr⟩,hlen⟩:=hpre;have hgz:∀i,(s.Rels.getD i default).Rel.Rows=[]:=fun i=>by
  by_cases h:i<s.Rels.length
  ·exact hz _ (A3y h)
  ·rw[show s.Rels.getD i default=default by simp[List.getD,q5F (by omega:s.Rels.length<=i)]];rfl
 simp only[go_sem,hr,hgz];(repeat' first|apply cj'|intro hc|apply a0o);(all_goals(try((first|refine a0V 12 rfl ?_|refine a0V 2 rfl ?_);intro S hS B0 hB;simp only[go_sem,hr,hgz,z0B]at hS hB;(repeat(first|replace hS:=And.right hS|replace hS:=CJ.r hS));have Rr7:=congrArg (fun s:St=>s.sl 7) hS;have Rr31:=congrArg (fun s:St=>s.sl 31) hS;have Rr32:=congrArg (fun s:St=>s.sl 32) hS;have Rr53:=congrArg (fun s:St=>s.sl 53) hS;have Rr59:=congrArg (fun s:St=>s.sl 59) hS;have Rr70:=congrArg (fun s:St=>s.sl 70) hS;have Rr71:=congrArg (fun s:St=>s.sl 71) hS;have Rb6:=congrArg (fun s:St=>s.bx 6) hS;have Rb7:=congrArg (fun s:St=>s.bx 7) hS;have Rb10:=congrArg (fun s:St=>s.bx 10) hS;have Rb11:=congrArg (fun s:St=>s.bx 11) hS;have Rb14:=congrArg (fun s:St=>s.bx 14) hS;have Ro200028:=congrArg (fun s:St=>s.ow 200028) hS;have Ro4608:=congrArg (fun s:St=>s.ow 4608) hS;clear hS;simp only[go_sem,hr,hgz]at Rr7 Rr31 Rr32 Rr53 Rr59 Rr70 Rr71 Rb6 Rb7 Rb10 Rb11 Rb14 Ro200028 Ro4608;(try clear hc);intro K hc;simp only[go_sem,hr,hgz,Rr7,Rr31,Rr32,Rr53,Rr59,Rr70,Rr71,Rb6,Rb7,Rb10,Rb11,Rb14,Ro200028,Ro4608,hB,K6]at hc ⊢;simp only[go_sem,hr,hgz,Rr7,Rr31,Rr32,Rr53,Rr59,Rr70,Rr71,Rb6,Rb7,Rb10,Rb11,Rb14,Ro200028,Ro4608,hB,K0]at hc ⊢;(first|(simp only[hc,K5];done)|((repeat' first|exact hc|apply W6);done)))));all_goals try exact om'
 refine lk' false [(true,14,0,200028)] [1,3,5,6,7,13] [6,10,12,7,11] [] (fun i:{i:Nat // i<=s.Rels.length}=>[(8,slV (.b (a6O n ⟨n,⟨r.Arity,[]⟩⟩ (s.Rels.take i.1)).2)),(14,slV (.i .i64 i.1))]) (fun i=>[(14,[.ow 200028])]) (fun i=>[(200028,o0,((a6O n ⟨n,⟨r.Arity,[]⟩⟩ (s.Rels.take i.1)).1).map (c9.cells false false))]) (fun i=>s.Rels.length-i.1) (⟨0,z0E⟩) ?_;intro S0 hS0 i;obtain⟨i,hi⟩:=i;generalize hfo:a6O n ⟨n,⟨r.Arity,[]⟩⟩ (s.Rels.take i)=q;obtain⟨q1,q2⟩:=q;have hql:q1.length<=2*i:=by
  have h:=b5p n ⟨n,⟨r.Arity,[]⟩⟩ (s.Rels.take i) [] false;rw[show(s.Rels.take i).foldl (a2d n ⟨n,⟨r.Arity,[]⟩⟩) ([],false)=(q1,q2)from hfo]at h;rw[V1]at h;simp only[q1R]at h;omega
 simp only[go_sem,hr,hgz,hS0,hfo];(repeat' first|apply cj'|intro hc|apply a0o);(all_goals(try((first|refine a0V 12 rfl ?_|refine a0V 2 rfl ?_);intro S hS B0 hB;simp only[go_sem,hr,hgz,hS0,hfo,z0B]at hS hB;(repeat(first|replace hS:=And.right hS|replace hS:=CJ.r hS));have Rr7:=congrArg (fun s:St=>s.sl 7) hS;have Rr31:=congrArg (fun s:St=>s.sl 31) hS;have Rr32:=congrArg (fun s:St=>s.sl 32) hS;have Rr53:=congrArg (fun s:St=>s.sl 53) hS;have Rr59:=congrArg (fun s:St=>s.sl 59) hS;have Rr70:=congrArg (fun s:St=>s.sl 70) hS;have Rr71:=congrArg (fun s:St=>s.sl 71) hS;have Rb6:=congrArg (fun s:St=>s.bx 6) hS;have Rb7:=congrArg (fun s:St=>s.bx 7) hS;have Rb10:=congrArg (fun s:St=>s.bx 10) hS;have Rb11:=congrArg (fun s:St=>s.bx 11) hS;have Rb14:=congrArg (fun s:St=>s.bx 14) hS;have Ro200028:=congrArg (fun s:St=>s.ow 200028) hS;have Ro4608:=congrArg (fun s:St=>s.ow 4608) hS;clear hS;simp only[go_sem,hr,hgz,hS0,hfo]at Rr7 Rr31 Rr32 Rr53 Rr59 Rr70 Rr71 Rb6 Rb7 Rb10 Rb11 Rb14 Ro200028 Ro4608;(try clear hc);intro K hc;simp only[go_sem,hr,hgz,hS0,hfo,Rr7,Rr31,Rr32,Rr53,Rr59,Rr70,Rr71,Rb6,Rb7,Rb10,Rb11,Rb14,Ro200028,Ro4608,hB,K6]at hc ⊢;simp only[go_sem,hr,hgz,hS0,hfo,Rr7,Rr31,Rr32,Rr53,Rr59,Rr70,Rr71,Rb6,Rb7,Rb10,Rb11,Rb14,Ro200028,Ro4608,hB,K0]at hc ⊢;(first|(simp only[hc,K5];done)|((repeat' first|exact hc|apply W6);done)))));all_goals try exact om'
 ·rename_i hy;have hs:=a1K n ⟨n,⟨r.Arity,[]⟩⟩ (l:=s.Rels) (i:=i) z0D;rw[hfo,b0c hy,hc]at hs;simp only[z0C,q0A]at hs
  (refine lpK_n2 (⟨i+1,z0D⟩) _ z1G ?_;simp only[go_sem,hr,hgz,hS0,hfo,hs]<;>repeat' first|apply W6|exact on'|fail)
  all_goals first|done|(simp only[q1B,q0D,q1D,a7k (hgz i),C.freeRs,q0X];first|done|rfl)|trace_state
 ·rename_i hy;have hs:=a1K n ⟨n,⟨r.Arity,[]⟩⟩ (l:=s.Rels) (i:=i) z0D;rw[hfo,b0c hy,hc]at hs;simp only[z0C,q0A]at hs
  (refine lpK_n2 (⟨i+1,z0D⟩) _ z1G ?_;simp only[go_sem,hr,hgz,hS0,hfo,hs]<;>repeat' first|apply W6|exact on'|fail)
  all_goals first|done|(simp only[q1B,q0D,q1D,a7k (hgz i),C.freeRs,q0X];first|done|rfl)|trace_state
 ·rename_i hy;have hs:=a1K n ⟨n,⟨r.Arity,[]⟩⟩ (l:=s.Rels) (i:=i) z0D;rw[hfo,b4e hy,hc]at hs;simp only[z0C,q0A]at hs
  (refine lpK_n2 (⟨i+1,z0D⟩) _ z1G ?_;simp only[go_sem,hr,hgz,hS0,hfo,hs]<;>repeat' first|apply W6|exact on'|fail)
  all_goals first|done|(simp only[q1B,q0D,q1D,a7k (hgz i),C.freeRs,q0X];first|done|rfl)|trace_state
 ·rename_i hy;have hs:=a1K n ⟨n,⟨r.Arity,[]⟩⟩ (l:=s.Rels) (i:=i) z0D;rw[hfo,b4e hy,hc]at hs;simp only[z0C,q0A]at hs
  (refine lpK_n2 (⟨i+1,z0D⟩) _ z1G ?_;simp only[go_sem,hr,hgz,hS0,hfo,hs]<;>repeat' first|apply W6|exact on'|fail)
  all_goals first|done|(simp only[q1B,q0D,q1D,a7k (hgz i),C.freeRs,q0X];first|done|rfl)|trace_state
 ·have hn:¬i<s.Rels.length:=by omega
  rw[j5 z0D]at hfo;rw[a1D,hfo,hc];simp only[V2];have e2:=a5J false false (q1++[(⟨n,⟨r.Arity,[]⟩⟩:c9)]);rw[q1B]at e2 ⊢;first|exact e2|rfl
 ·rw[j5 z0D]at hfo;rw[a1D,hfo,hc];rfl
noncomputable def a6c:CT:=n9 (fun(x:c6×(List UInt8)×f8) h=>c5g x.1 x.2.1 x.2.2 h)
@[go_sem] def b5h:=fun x0 n x1 x2=>nm' (fP' a6c rfl (⟨x0⟩,n,⟨x1,x2⟩))
end Go.Aw
