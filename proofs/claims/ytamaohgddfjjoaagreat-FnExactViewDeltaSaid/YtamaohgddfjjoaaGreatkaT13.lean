/- The first rule with a variable that no literal binds. No condition. -/
import Derived.Test.YtamaohgddfjjoaaGreatkaT8
import Derived.Test.YtamaohgddfjjoaaGreatkBx10ka
import Derived.Test.YtamaohgddfjjoaaGreatkBx8ka
namespace Go.Aw
set_option maxHeartbeats 4000000
open Go.Proofs
attribute [local irreducible] aft blk lpK retK AW A0d
set_option linter.all false
set_option maxRecDepth 100000
noncomputable def a3S(r:c8):Bool:=decide ((0:Int)<(a5v r).length)
noncomputable def a1O(p:c6):Int:=bif y6 p then a1a a3S p.Rules else-2
def b1V(r:c8):spZ 258 [(true,[.i .i64 r.Kind,.s r.Head.Name,l8 r.Head.Args,a0g r.Body])] [] (.one (false,[.b (a3S r)])):=by
 refine sy' Tryz.func258 (q' 1 [aX 4 0,aU false] (q' 3 [ae 4 1,ac 259 [3],aN,aC .gtr 5 0,aV 2] .ret)) [.t 2] [(259,[],a6k)] ?_;intro hb hE;simp only[go_sem];repeat' first|apply cj'|intro hc|exact om'|fail
 all_goals(first|rfl)
noncomputable def a4q:CT:=j8 (fun(x:c8)=>b1V x)
@[go_sem] def c8B:=fun x0 x1 x2 x3=>nm' (fQ' a4q rfl ⟨x0,⟨x1,x2⟩,x3⟩)
def c7H(l:List c8):spZ 257 [(false,[m7 l]),(false,[.f 258 []])] [] (.one (false,[.i .i64 (a1a (fun y=>a3S y) l)])):=by
 refine sy' Tryz.func257 b9K [.t 4] [(258,[],a4q)] ?_;intro hb hE;simp only[go_sem];repeat' first|apply cj'|intro hc|exact om'|fail
 refine lq' false [0,1,7] [] [] (fun i:{i:Nat // i<=l.length/\(l.take i).any (fun y=>a3S y)=false}=>[(8,slV (.i .i64 i.1))]) nl' nl' (fun i=>l.length-i.1) (⟨0,z0D⟩) ?_;intro S0 hS0 i;obtain⟨i,hi,ha⟩:=i;simp only[go_sem,hS0];repeat' first|apply cj'|intro hc|exact om'|fail
 ·exact(w9 (p:=fun y=>a3S y) (d:=default) z0C ha z0G).symm
 ·exact nx0 ⟨i+1,z0C,t7 (p:=fun y=>a3S y) default z0C ha z0G⟩
 ·exact(w8 z0J).symm
noncomputable def b3a:CT:=j8 (fun(x:(List c8))=>c7H x)
@[go_sem] def d8Z:=fun l=>nm' (fQ' b3a rfl l)
def b5M(p:c6):spZ 200 [(true,[m9 p.Decls,m7 p.Rules])] [] (.one (false,[.i .i64 (a1O p)])):=by
 refine sy' Tryz.func200 (q' 1 [aX 2 0,aK 0] (.seq (q' 3 [ae 2 1,ac 256 [3],aO 4] (ci 5 (q' 2 [ao (.mov (.k (.v false [.c (.i .i64 (-2))])))] .ret))) (q' 6 [aG 1 1,ao (.call 257 [.t 7, .k (.v false [.c (.f 258 [])])]),aV 2] .ret))) [.t 2] [(256,[],a2Y),(257,[],b3a)] ?_;intro hb hE;simp only[go_sem];repeat' first|apply cj'|intro hc|exact om'|fail
 all_goals(have h9:y6 p=_:=hc;rw[a1O,h9];first|rfl)
noncomputable def a6i:CT:=j8 (fun(x:c6)=>b5M x)
@[go_sem] def d1q:=fun x0 x1=>nm' (fQ' a6i rfl ⟨x0,x1⟩)
def b6g(p:c6):spZ 194 [(true,[m9 p.Decls,m7 p.Rules])] [] (.one (false,[.i .i64 (a1O p)])):=by
 refine sy' Tryz.func194 (q' 1 [aX 2 0,aK 0] (.seq (q' 4 [ae 2 1,ac 244 [4],aO 5] (ci 6 (q' 2 [ao (.mov (.k (.v false [.c (.i .i64 (-2))])))] .ret))) (.seq (q' 7 [aG 1 1,aN,aK 0] (fO 0 11 [ar 10 9] 11 1 (q' 12 [am 10,aV 3] (q' 13 [aG 1 1,am 3,aI 4,aE 4,ac 246 [17],aN,aC .gtr 19 0] (ci 20 (q' 21 [am 3,aV 2] .ret)))) (g' 22 [aA 10]))) (q' 2 [ao (.mov (.k (.v false [.c (.i .i64 (-1))])))] .ret)))) [.t 2] [(244,[],a3a),(246,[],a6F)] ?_;intro hb hE;simp only[go_sem];repeat' first|apply cj'|intro hc|exact om'|fail
 ·rw[a1O,hc];rfl
 have hB:y6 p=true:=hc;clear hc;refine lq' false [1,9] [2] [] (fun i:{i:Nat // i<=p.Rules.length/\(p.Rules.take i).any a3S=false}=>[(10,slV (.i .i64 i.1))]) nl' nl' (fun i=>p.Rules.length-i.1) (⟨0,z0D⟩) ?_;intro S0 hS0 i;obtain⟨i,hi,ha⟩:=i;simp only[go_sem,hS0];repeat' first|apply cj'|intro hc|exact om'|fail
 ·rw[a1O,hB,W8,w9 (p:=a3S) (d:=default) (i:=i) z0C ha (V0 hc)]
 ·exact nx0 ⟨i+1,z0C,t7 (p:=a3S) default z0C ha (V3 hc)⟩
 ·rw[a1O,hB,W8,w8 z0J]
noncomputable def a6D:CT:=j8 (fun(x:c6)=>b6g x)
@[go_sem] def d1M:=fun x0 x1=>nm' (fQ' a6D rfl ⟨x0,x1⟩)
set_option maxRecDepth 100000 in
def c5P(a b:ByteArray)(w:World):Calls Tryz.prog 295 #[.string a,.string b] w fun e w'=>e=.returned (.int .i64 (Lib.compareBytes a.data.toList b.data.toList))/\w'=w:=by
 go_enter Tryz.func295,Tryz.ntmps295
 go_wp2
 rw[run_callFunc_extern Tryz.func353 z0K z0K z0K (e:=Extern.BytealgCompare.compare) z0K,Lib.run_compareString];simp only[Result.andThen];rw[Oper.upon_value]
 go_wp2
 go_ret
 exact⟨rfl,rfl⟩
def a6S(a:List UInt8)(b:List UInt8):spZ 295 [(false,[.s a]),(false,[.s b])] [] (.one (false,[.i .i64 (Lib.compareBytes a b)])):=by
 unfold spZ A0d;refine⟨z0K, ?_⟩;intro F w vs fpa h _ _ hF;simp only[VsRd,VRd,C.RdVals,C.Rd]at h;obtain⟨_,_,_,_,rfl,rfl,⟨_,hc,hr⟩,_,_,_,_,rfl,rfl,⟨_,hc',hr'⟩,rfl,rfl⟩:=h;simp only[K8]at hc hc';subst hc;subst hc';simp only[C.Rd]at hr hr';obtain⟨rfl,h1,rfl⟩:=hr;obtain⟨rfl,h2,rfl⟩:=hr';refine(c5P ⟨a.toArray⟩ ⟨b.toArray⟩ w).mono ?_;rintro e w' ⟨rfl,rfl⟩;refine⟨F,_,[],[],rfl, ?_,rfl,⟨fun _ h=>h,fun _ h=>.inl h,hF,q1B,z0D,fun _ _ _=>rfl,q0C _,rfl,Tp.of rfl rfl,rfl⟩⟩;simp only[RRd,VRd];refine⟨_,rfl, ?_⟩;unfold C.Rd;have hb:∀x y:List UInt8,-1<=Lib.compareBytes x y/\Lib.compareBytes x y<=1:=by
  intro x
  induction x with
  | nil=>intro y;cases y<;>simp[Lib.compareBytes]
  | cons a x ih=>
    intro y;cases y with
    | nil=>simp[Lib.compareBytes]
    | cons b y=>
      simp only[Lib.compareBytes];repeat' split
      all_goals first|exact ih y|decide
 have:=hb a b;refine⟨rfl, ?_,rfl⟩;rw[min_i64,max_i64];omega
noncomputable def a2n:CT:=j8 (fun(x:(List UInt8)×(List UInt8))=>a6S x.1 x.2)
@[go_sem] def c0M:=fun a b=>nm' (fQ' a2n rfl (a,b))
def b4f(a:List UInt8)(b:List UInt8):spZ 251 [(false,[.s a]),(false,[.s b])] [] (.one (false,[.i .i64 (Lib.compareBytes a b)])):=by
 refine sy' Tryz.func251 (q' 4 [aK 0] (q' 5 [aM [0,1],ac 295 [5,6],aV 4] .ret)) [.t 4] [(295,[],a2n)] ?_;intro hb hE;simp only[go_sem];repeat' first|apply cj'|intro hc|exact om'|fail
noncomputable def a5s:CT:=j8 (fun(x:(List UInt8)×(List UInt8))=>b4f x.1 x.2)
@[go_sem] def c9L:=fun a b=>nm' (fQ' a5s rfl (a,b))
def a0D(a b:d4):Int:=bif a.S==[]&&!(b.S==[])then-1 else bif !(a.S==[])&&b.S==[]then 1 else bif a.S==[]then IntKind.i64.wrap (a.N-b.N)else Lib.compareBytes a.S b.S
def y7(a b:d4):Bool:=bif a.S==[]&&b.S==[]then decide (a.N<b.N)else Op.bytesLess a.S b.S
def a4l(a b:d4):Bool:=n0 a&&n0 b&&y7 a b
def vEq(a b:d4):Bool:=a.N==b.N&&a.S==b.S
def a0k(op:Int)(a b:d4):Bool:=n0 a&&n0 b&&(bif op==1 then vEq a b else bif op==2 then !vEq a b else bif op==3 then y7 a b else bif op==4 then y7 a b||vEq a b else false)
def c1R(a:d4)(b:d4):spZ 271 [(true,[.i .i64 a.N,.s a.S]),(true,[.i .i64 b.N,.s b.S])] [] (.one (false,[.i .i64 (a0D a b)])):=by
 refine sy' Tryz.func271 (q' 2 [aX 2 0,aX 2 1,aK 0] (.seq (.block 0 (q' 6 [aG 1 2,aY .eql 7 [],am 8,aH 9 true [bf 1 3,bL,bY .neq 11 []],aP 9 12,aV 5] (cd 5 (q' 4 [ao (.mov (.k (.v false [.c (.i .i64 (-1))])))] .ret) (q' 15 [aG 1 2,aY .neq 16 [],am 17,aH 18 true [bf 1 3,bL,bY .eql 20 []],aP 18 21,aV 14] (cd 14 (q' 4 [aK 1] .ret) (q' 24 [aG 1 2,aY .eql 25 [],aV 23] (ci 23 (q' 27 [aG 0 2,aG 0 3,aD .sub 28 30,aV 4] .ret)))))))) (q' 32 [aG 1 2,aG 1 3,ac 251 [33,35],aV 4] .ret))) [.t 4] [(251,[],a5s)] ?_;intro hb hE;simp only[go_sem];repeat' first|apply cj'|intro hc|exact om'|fail
 ·simp only[a0D,hc,q3M,q1Y,W8]
 ·simp only[a0D,hc];rfl
 ·rename_i h1 h2;rcases q3C (b.S==[])with h|h<;>rw[hc,h]at h1 h2<;>simp only[a0D,hc,h]<;>first|rfl|contradiction
 ·rename_i h1 h2;rcases q3C (b.S==[])with h|h<;>rw[hc,h]at h1 h2<;>simp only[a0D,hc,h]<;>first|rfl|contradiction
noncomputable def a2B:CT:=j8 (fun(x:d4×d4)=>c1R x.1 x.2)
@[go_sem] def d4M:=fun x0 x1 x2 x3=>nm' (fQ' a2B rfl (⟨x0,x1⟩,⟨x2,x3⟩))
def b6k(a:d4)(b:d4):spZ 397 [(true,[.i .i64 a.N,.s a.S]),(true,[.i .i64 b.N,.s b.S])] [] (.one (false,[.b (a4l a b)])):=by
 refine sy' Tryz.func397 (q' 2 [aX 2 0,aX 2 1,aU false] (.seq (q' 5 [ae 2 2,ac 195 [5],aO 6,am 7,aH 8 false [be 2 3,bc 195 [9],bO 10],aQ 8 11] (ci 12 (q' 4 [aU false] .ret))) (.seq (q' 13 [aG 1 2,aY .eql 14 [],am 15,aH 16 true [bf 1 3,bL,bY .eql 18 []],aP 16 19] (ci 20 (q' 21 [aG 0 2,aG 0 3,ar 22 24,aV 4] .ret))) (q' 26 [aG 1 2,aG 1 3,ar 27 29,aV 4] .ret)))) [.t 4] [(195,[],a1v)] ?_;intro hb hE;simp only[go_sem];repeat' first|apply cj'|intro hc|exact om'|fail
 ·rcases hc with h|h<;>simp[a4l,h]
 ·simp only[a4l,y7, *,q1Y,q0Z,W8]
 ·simp only[a4l,y7, *,q1Y,q0Z,V2]
noncomputable def a6G:CT:=j8 (fun(x:d4×d4)=>b6k x.1 x.2)
@[go_sem] def d1Q:=fun x0 x1 x2 x3=>nm' (fQ' a6G rfl (⟨x0,x1⟩,⟨x2,x3⟩))
def e0G:∀x y:List UInt8,decide (Lib.compareBytes x y<0)=Op.bytesLess x y:=by
 intro x
 induction x with
 | nil=>intro y;cases y<;>simp[Lib.compareBytes,Op.bytesLess]
 | cons a x ih=>
   intro y;cases y with
   | nil=>simp[Lib.compareBytes,Op.bytesLess]
   | cons b y=>
     simp only[Lib.compareBytes,Op.bytesLess];by_cases h1:a<b
     ·simp[h1]
     ·by_cases h2:b<a
      ·have:(a==b)=false:=by simp;rintro rfl;exact h1 h2
       simp[h1,h2,this]
      ·have:a=b:=by
        apply UInt8.toNat_inj.1;simp only[UInt8.lt_iff_toNat_lt]at h1 h2;omega
       simp[this,ih]
def cmp_le:∀x y:List UInt8,decide (Lib.compareBytes x y<=0)=(Op.bytesLess x y||x==y):=by
 intro x
 induction x with
 | nil=>intro y;cases y<;>simp[Lib.compareBytes,Op.bytesLess]
 | cons a x ih=>
   intro y;cases y with
   | nil=>simp[Lib.compareBytes,Op.bytesLess]
   | cons b y=>
     simp only[Lib.compareBytes,Op.bytesLess];by_cases h1:a<b
     ·simp[h1]
     ·by_cases h2:b<a
      ·have:(a==b)=false:=by simp;rintro rfl;exact h1 h2
       simp[h1,h2,this]
      ·have:a=b:=by
        apply UInt8.toNat_inj.1;simp only[UInt8.lt_iff_toNat_lt]at h1 h2;omega
       simp[this,ih]
def c0L{a b:d4}(ha:n0 a=true)(hb:n0 b=true):decide (a0D a b<0)=y7 a b:=by
 simp only[a0D,y7,n0]at*;rcases(q3C (a.S==[])).symm with h1|h1<;>rcases(q3C (b.S==[])).symm with h2|h2<;>simp only[h1,h2,z0B,q5B,q3M,q1L,q2J,q0Z]at ha hb ⊢
 ·exact e0G _ _
 ·have:b.S=[]:=by simpa using h2
  rw[this];simp[Op.bytesLess]
 ·have:a.S=[]:=by simpa using h1
  rw[this];cases h:b.S with
  | nil=>simp[h]at h2
  | cons x l=>simp[Op.bytesLess]
 ·simp only[a6P,K7]at ha hb;rw[IntWalk.i64_in _ z0C];exact decide_eq_decide.2 z0C
def c0K{a b:d4}(ha:n0 a=true)(hb:n0 b=true):decide (a0D a b<=0)=(y7 a b||vEq a b):=by
 simp only[a0D,y7,n0,vEq]at*;rcases(q3C (a.S==[])).symm with h1|h1<;>rcases(q3C (b.S==[])).symm with h2|h2<;>simp only[h1,h2,z0B,q5B,q3M,q1L,q2J,q0Z,W3,beq_iff_eq]at ha hb ⊢
 ·rw[cmp_le,ha.1,hb.1];simp
 ·have e:b.S=[]:=by simpa using h2
  rw[e]at h2 ⊢;simp[Op.bytesLess,h1]
 ·have e:a.S=[]:=by simpa using h1
  rw[e];cases h:b.S with
  | nil=>simp[h]at h2
  | cons x l=>simp[Op.bytesLess]
 ·simp only[a6P,K7]at ha hb;have e1:(a.S==b.S)=true:=by rw[show a.S=[] by simpa using h1,show b.S=[] by simpa using h2];rfl
  have:(a.N==b.N)=decide (a.N=b.N):=rfl;rw[IntWalk.i64_in _ z0C,e1,this];simp only[q1L,<-Bool.decide_or];exact decide_eq_decide.2 z0C
def c2N:∀x y:List UInt8,Op.bytesLess y x=!(Op.bytesLess x y||x==y):=by
 intro x
 induction x with
 | nil=>intro y;cases y<;>simp[Op.bytesLess]
 | cons a x ih=>
   intro y;cases y with
   | nil=>simp[Op.bytesLess]
   | cons b y=>
     simp only[Op.bytesLess];by_cases h1:a<b
     ·have:¬b<a:=fun h=>by simp only[UInt8.lt_iff_toNat_lt]at*;omega
      have h3:(b==a)=false:=by simp;rintro rfl;exact this h1
      simp[h1,this,h3]
     ·by_cases h2:b<a
      ·have:(a==b)=false:=by simp;rintro rfl;exact h1 h2
       simp[h1,h2,this]
      ·have:a=b:=by
        apply UInt8.toNat_inj.1;simp only[UInt8.lt_iff_toNat_lt]at h1 h2;omega
       subst this;simp[h1,ih]
def b6H{a b:d4}(ha:n0 a=true)(hb:n0 b=true):y7 b a=!(y7 a b||vEq a b):=by
 simp only[y7,n0,vEq]at*;rcases(q3C (a.S==[])).symm with h1|h1<;>rcases(q3C (b.S==[])).symm with h2|h2<;>simp only[h1,h2,z0B,q5B,q3M,q1L,q2J,q0Z,W3,beq_iff_eq]at ha hb ⊢
 ·rw[c2N,ha.1,hb.1];simp
 ·rw[c2N];have:(a.S==b.S)=false:=by
   cases h:a.S==b.S with
   | false=>rfl
   | true=>rw[eq_of_beq h,h2]at h1;cases h1
  rw[this];simp
 ·rw[c2N];have:(a.S==b.S)=false:=by
   cases h:a.S==b.S with
   | false=>rfl
   | true=>rw[<-eq_of_beq h,h1]at h2;cases h2
  rw[this];simp
 ·have e1:(a.S==b.S)=true:=by rw[show a.S=[] by simpa using h1,show b.S=[] by simpa using h2];rfl
  have:(a.N==b.N)=decide (a.N=b.N):=rfl;rw[e1,this,q1L,<-Bool.decide_or,<-decide_not];exact decide_eq_decide.2 z0C
def a3R:Nat->(Nat->Int)->Int
 | 0,_=>0
 | n+1,f=>if a3R n f=0 then f n else a3R n f
def b5w{n:Nat}{f:Nat->Int}(h:∀i,i<n->f i=0):a3R n f=0:=by
 induction n with
 | zero=>rfl
 | succ n ih=>rw[a3R,if_pos (ih fun i hi=>h i z0C),h n z0C]
def b5x{i:Nat}{f:Nat->Int}(h:∀j,j<i->f j=0)(hp:f i≠0):∀{n:Nat},i<n->a3R n f=f i
 | 0,hn=>by omega
 | n+1,hn=>by
   by_cases e:i=n
   ·subst e;rw[a3R,if_pos (b5w h)]
   ·have:=b5x h hp (n:=n) z0C;rw[a3R,this,if_neg hp]
def sgn(x:Int):Int:=max (-1) (min x 1)
def c9P{f g:Nat->Int}:∀{n:Nat},(∀i,i<n->sgn (f i)=g i)->sgn (a3R n f)=a3R n g
 | 0,_=>by simp only[a3R];decide
 | n+1,h=>by
   have ih:=c9P (n:=n) fun i hi=>h i (by omega)
   have hn:=h n z0C;rw[a3R,a3R,<-ih,<-hn];unfold sgn;by_cases e:a3R n f=0
   ·rw[if_pos e,e,if_pos z00]
   ·rw[if_neg e,if_neg z0C]
def b0F(a b:d4):Int:=bif y7 a b then-1 else bif y7 b a then 1 else 0
def b7h{a b:d4}(ha:n0 a=true)(hb:n0 b=true):sgn (a0D a b)=b0F a b:=by
 have h1:=c0L ha hb;have h2:=c0K ha hb;have h3:=b6H ha hb;rw[<-h2]at h3;rw[b0F,h3,<-h1];unfold sgn;by_cases e:a0D a b<0
 ·rw[V0 e,W8];omega
 ·rw[V3 e,V2];by_cases e2:a0D a b<=0
  ·rw[V0 e2];simp only[q5B,V2];omega
  ·rw[V3 e2];simp only[q3M,W8];omega
def a4L(a b:List c7):Int:=a3R a.length fun i=>b0F (a.getD i default).Val (b.getD i default).Val
def c6Z(a b:List c7)(i:Nat):Int:=a0D (a.getD i default).Val (b.getD i default).Val
def c1Q(x:c7)(y:c7):spZ 313 [(true,[.s x.Var,.i .i64 x.Val.N,.s x.Val.S]),(true,[.s y.Var,.i .i64 y.Val.N,.s y.Val.S])] [] (.one (false,[.i .i64 (a0D x.Val y.Val)])):=by
 refine sy' Tryz.func313 (q' 2 [aX 3 0,aX 3 1,aK 0] (q' 5 [af 1 2,aE 2,af 1 3,aE 2,ac 271 [6,8],aV 4] .ret)) [.t 4] [(271,[],a2B)] ?_;intro hb hE;simp only[go_sem];repeat' first|apply cj'|intro hc|exact om'|fail
noncomputable def a8W:CT:=j8 (fun(x:c7×c7)=>c1Q x.1 x.2)
@[go_sem] def d4L:=fun x0 x1 x2 x3 x4 x5=>nm' (fQ' a8W rfl (⟨x0,⟨x1,x2⟩⟩,⟨x3,⟨x4,x5⟩⟩))
def d4d(a:List c7)(b:List c7)(hpre:a.length=b.length):spZ 312 [(false,[w4 a]),(false,[w4 b]),(false,[.f 313 []])] [] (.one (false,[.i .i64 (a3R a.length (c6Z a b))])):=by
 refine sy' Tryz.func312 (q' 6 [aK 0] (.seq (q' 11 [am 0,aN,aK 0] (fO 0 14 [ar 13 12] 14 1 (q' 15 [am 13,ai 3 11 13,aE 3,ax (w' 8 [.s,.i .i64,.s]),av 7 15,aS 3 8 17] (.seq (q' 18 [aM [7,1],aN,aD .geq 18 20] (ci 21 (q' 6 [aK 1] .ret))) (q' 22 [aM [1,7],aI 3,aE 3,ax (w' 9 [.s,.i .i64,.s]),aS 3 9 25] (q' 26 [am 2,ae 3 8,ae 3 9,ao (.callv (.t 26) [.t 27,.t 28]),aV 10] (q' 30 [am 10,aC .neq 30 0] (ci 31 (q' 32 [am 10,aV 6] .ret))))))) (g' 33 [aA 13]))) (.seq (q' 34 [am 0,aN,am 1,aN,ar 35 37] (ci 38 (q' 6 [ao (.mov (.k (.v false [.c (.i .i64 (-1))])))] .ret))) (q' 6 [aK 0] .ret)))) [.t 6] [(313,[],a8W)] ?_;intro hb hE;simp only[go_sem];repeat' first|apply cj'|intro hc|exact om'|fail
 refine lq' false [0,1,2,11,12] [] [] (fun i:{i:Nat // i<=a.length/\∀j,j<i->c6Z a b j=0}=>[(13,slV (.i .i64 i.1))]) nl' nl' (fun i=>a.length-i.1) (⟨0,z0D⟩) ?_;intro S0 hS0 i;obtain⟨i,hi,ha⟩:=i;simp only[go_sem,hS0];repeat' first|apply cj'|intro hc|exact om'|fail
 ·rw[b5x ha (by simpa[c6Z]using hc) z0C];rfl
 ·exact nx0 ⟨i+1,z0C,fun j hj=>(q3P.1 hj).elim (ha j) (fun q=>by subst q;simpa[c6Z]using hc)⟩
 ·rw[b5w fun j hj=>ha j z0C]
noncomputable def c0O:CT:=k8 (fun(x:(List c7)×(List c7)) h=>d4d x.1 x.2 h)
@[go_sem] def e2c:=fun a b=>nm' (fP' c0O rfl (a,b))
def b3L(a:d6)(b:d6)(hpre:a.Binds.length=b.Binds.length):spZ 265 [(true,[w4 a.Binds]),(true,[w4 b.Binds])] [] (.one (false,[.i .i64 (a3R a.Binds.length (c6Z a.Binds b.Binds))])):=by
 refine sy' Tryz.func265 (q' 2 [aX 1 0,aX 1 1,aK 0] (q' 5 [aG 0 2,aG 0 3,ao (.call 312 [.t 6,.t 8,.k (.v false [.c (.f 313 [])])]),aV 4] .ret)) [.t 4] [(312,[],c0O)] ?_;intro hb hE;simp only[go_sem];repeat' first|apply cj'|intro hc|exact om'|fail
noncomputable def c6W:CT:=k8 (fun(x:d6×d6) h=>b3L x.1 x.2 h)
@[go_sem] def d9g:=fun x0 x1=>nm' (fP' c6W rfl (⟨x0⟩,⟨x1⟩))
variable{v:List UInt8}{i k:Nat}{α:Type}
def b7a{a b:List c7}(h:∀j,j<i->b0F (a.getD j default).Val (b.getD j default).Val=0)(hp:b0F (a.getD i default).Val (b.getD i default).Val≠0)(hi:i<a.length):a4L a b=b0F (a.getD i default).Val (b.getD i default).Val:=b5x (f:=fun i=>b0F (a.getD i default).Val (b.getD i default).Val) h hp hi
def d0c{a b:List c7}(h:∀j,j<a.length->b0F (a.getD j default).Val (b.getD j default).Val=0):a4L a b=0:=b5w h
set_option maxRecDepth 100000
def pkB:List UInt8:=[112,97,99,107,101,116]
def fwB:List UInt8:=[102,111,114,119,97,114,100]
def w6(p:c6)(name:List UInt8):Int:=bif name==pkB then 4 else bif name==fwB then 1 else bif a0z p name then(a0G p name).Arity else-1
def a0H(p:c6)(name:List UInt8):Int:=(a0G p name).Kind
def movB(p:c6)(name:List UInt8):Bool:=name==pkB||a0H p name==2
def v5(r:c8):List f7:=r.Head::(r.Body.filter fun l=>!(l.Kind==3)).map d7.Atom
def b0E(p:c6)(l:d7):Bool:=!(l.Kind==3)&&movB p l.Atom.Name
def d0k(p:c6)(r:c8):Bool:=decide ((0:Int)<r.Body.length)&&(r.Body.getD 0 default).Kind==1&&(movB p (r.Body.getD 0 default).Atom.Name&&(!(r.Kind==1)||(r.Body.getD 0 default).Atom.Name==pkB))
def b8v(p:c6)(r:c8):Bool:=bif !(r.Kind==1)||r.Head.Name==fwB then d0k p r&&!(r.Body.drop 1).any (b0E p)else !r.Body.any (b0E p)
def a5d(p:c6)(a:f7):Bool:=decide (w6 p a.Name<0)
def a4o(p:c6)(a:f7):Bool:=!(w6 p a.Name==(a.Args.length:Int))
def b8w(a:f7):Bool:=a.Name==fwB
def a5u(p:c6)(r:c8):Bool:=bif r.Kind==1 then !(a0H p r.Head.Name==3)&&!(r.Head.Name==fwB)else !(a0H p r.Head.Name==1)
def z7(p:c6)(r:c8):Int:=bif (v5 r).any (a5d p)then 3 else bif (v5 r).any (a4o p)then 4 else bif a5u p r then 5 else bif ((v5 r).drop 1).any b8w then 6 else bif !b8v p r then 7 else 0
def v6(p:c6)(i:Nat):Bool:=(p.Decls.getD i default).Name==pkB||(p.Decls.getD i default).Name==fwB||(p.Decls.take i).any fun x=>x.Name==(p.Decls.getD i default).Name
def a0o(p:c6)(i:Nat):Bool:=!(z7 p (p.Rules.getD i default)==0)
def n7(p:c6):Int×Int:=
 bif !y6 p then(1,0)else
 if a2K p.Decls.length (v6 p)<p.Decls.length then(2,(a2K p.Decls.length (v6 p):Int))else
 if a2K p.Rules.length (a0o p)<p.Rules.length then(z7 p (p.Rules.getD (a2K p.Rules.length (a0o p)) default),(a2K p.Rules.length (a0o p):Int))else(0,0)
def atB(l:d7):Bool:=!(l.Kind==3)
def d2M(r:c8):(v5 r).length<=r.Body.length+1:=by
 have:=b5D (fun l:d7=>!(l.Kind==3)) d7.Atom r.Body;simp only[v5,V7];omega
def b6O(r:c8):1<=(v5 r).length:=by simp[v5]
def c0I(r:c8):v5 r=r.Head::(r.Body.filter atB).map d7.Atom:=rfl
def c1O(p:c6)(name:List UInt8):spZ 140 [(true,[m9 p.Decls,m7 p.Rules]),(false,[.s name])] [] (.one (false,[.i .i64 (w6 p name)])):=by
 refine sy' Tryz.func140 (q' 2 [aX 2 0,az 4 0] (.seq (q' 7 [am 1] (.block 0 (q' 9 [aY .eql 7 [112,97,99,107,101,116],aV 8] (cd 8 (q' 4 [aK 4] .ret) (q' 11 [aY .eql 7 [102,111,114,119,97,114,100],aV 10] (ci 10 (q' 4 [aK 1] .ret))))))) (q' 13 [ae 2 2,am 1,ac 204 [13,14],aV 12,aZ 12 0,aZ 12 1,ax (w' 5 [.i .i64,.s,.i .i64]),aS 3 5 16,aV 6] (.seq (q' 18 [am 6,aO 18] (ci 19 (q' 4 [ao (.mov (.k (.v false [.c (.i .i64 (-1))])))] .ret))) (q' 20 [aG 2 5,aV 4] .ret))))) [.t 4] [(204,[],a5I)] ?_;intro hb hE;simp only[go_sem];repeat' first|apply cj'|intro hc|exact om'|fail
 all_goals simp only[w6,pkB,fwB, *,z0B]
noncomputable def a2A:CT:=j8 (fun(x:c6×(List UInt8))=>c1O x.1 x.2)
@[go_sem] def d4J:=fun x0 x1 x2=>nm' (fQ' a2A rfl (⟨x0,x1⟩,x2))
def c4E(p:c6)(name:List UInt8):spZ 143 [(true,[m9 p.Decls,m7 p.Rules]),(false,[.s name])] [] (.one (false,[.i .i64 (a0H p name)])):=by
 refine sy' Tryz.func143 (q' 2 [aX 2 0,az 4 0] (q' 8 [ae 2 2,am 1,ac 204 [8,9],aV 7,aZ 7 0,aZ 7 1,ax (w' 5 [.i .i64,.s,.i .i64]),aS 3 5 11,aV 6] (q' 13 [aG 0 5,aV 4] .ret))) [.t 4] [(204,[],a5I)] ?_;intro hb hE;simp only[go_sem];repeat' first|apply cj'|intro hc|exact om'|fail
 all_goals(first|rfl)
noncomputable def a0V:CT:=j8 (fun(x:c6×(List UInt8))=>c4E x.1 x.2)
@[go_sem] def d7i:=fun x0 x1 x2=>nm' (fQ' a0V rfl (⟨x0,x1⟩,x2))
def b5r:OkC Tryz.prog 143 a0V:=a7v _
def c1X(p:c6)(name:List UInt8):spZ 407 [(true,[m9 p.Decls,m7 p.Rules]),(false,[.s name])] [] (.one (false,[.b (movB p name)])):=by
 refine sy' Tryz.func407 (q' 2 [aX 2 0,ab 4 false] (q' 5 [am 1,aY .eql 5 [112,97,99,107,101,116],am 6,aH 7 false [be 2 2,bm 1,bc 143 [8,9],bC .eql 10 2],aQ 7 11,aV 4] .ret)) [.t 4] [(143,[],a0V)] ?_;intro hb hE;simp only[go_sem];repeat' first|apply cj'|intro hc|exact om'|fail
 all_goals(first|rfl)
noncomputable def a4w:CT:=j8 (fun(x:c6×(List UInt8))=>c1X x.1 x.2)
@[go_sem] def d4S:=fun x0 x1 x2=>nm' (fQ' a4w rfl (⟨x0,x1⟩,x2))
def c1P(r:c8)(hpre:r.Body.length<=8):spZ 367 [(true,[.i .i64 r.Kind,.s r.Head.Name,l8 r.Head.Args,a0g r.Body])] [] (.one (false,[e1l (v5 r)])):=by
 refine sy' Tryz.func367 (q' 1 [aX 4 0,ao (.mov (.k (.v false [.nl b6J])))] (q' 6 [af 1 1,aE 2,ao (.bsl 2 1 [.s,.sl j5] [(0,.t 7)]),aV 3] (.seq (q' 9 [aG 3 1,aN,aK 0] (fO 0 13 [ar 12 11] 13 1 (q' 14 [ai 10 10 12,aE 10,ax (w' 5 [.i .i64,.s,.sl j5, .i .i64,.s,.i .i64,.s,.s,.i .i64,.s]),aS 10 5 15] (q' 16 [aG 0 5,aC .neq 17 3] (ci 18 (g' 19 [am 3,af 1 5,aE 2,ao (.bsl 2 1 [.s,.sl j5] [(0,.t 21)]),ao (.app 2 40 [.s,.sl j5] (.t 19) (.t 22)),aV 3])))) (g' 24 [aA 12]))) (q' 25 [am 3,aV 2] .ret)))) [.t 2] [] ?_;intro hb hE;simp only[go_sem];repeat' first|apply cj'|intro hc|exact om'|fail
 refine lk' false [(false,3,0,100006)] [10,11] [] [] (fun i:{i:Nat // i<=r.Body.length}=>[(3,.v false [.ow 100006]),(12,slV (.i .i64 i.1))]) nl' (fun i=>[(100006,b6J,(r.Head::((r.Body.take i.1).filter atB).map d7.Atom).map (f7.cells false false))]) (fun i=>r.Body.length-i.1) (⟨0,z0D⟩) ?_;intro S0 hS0 i;obtain⟨i,hi⟩:=i;simp only[go_sem,hS0];repeat' first|apply cj'|intro hc|exact om'|fail
 ·have:=b5D atB d7.Atom (r.Body.take i);simp at this;omega
 ·have hp:atB (r.Body.getD i default)=true:=hc
  (refine lpK_n2 (⟨i+1,z0C⟩) _ z0E ?_;simp only[go_sem,hS0]<;>repeat' first|apply W6|exact on'|fail)
  all_goals(rw[b1U d7.Atom default z0C hp]<;>rfl)
 ·have hp:atB (r.Body.getD i default)=false:=hc
  (refine lpK_n2 (⟨i+1,z0C⟩) _ z0E ?_;simp only[go_sem,hS0]<;>repeat' first|apply W6|exact on'|fail)
  all_goals(rw[c1t d7.Atom default z0C hp]<;>rfl)
 ·rw[i4 z0C,c0I];rfl
noncomputable def a4s:CT:=k8 (fun(x:c8) h=>c1P x h)
@[go_sem] def d4K:=fun x0 x1 x2 x3=>nm' (fP' a4s rfl ⟨x0,⟨x1,x2⟩,x3⟩)
def b3e:OkC Tryz.prog 367 a4s:=c7j _
def b9d(p:c6)(name:List UInt8)(hpre:y6 p=true):spZ 284 [(true,[m9 p.Decls,m7 p.Rules]),(false,[.s name])] [] (.one (false,[.i .i64 (w6 p name)])):=by
 refine sy' Tryz.func284 (q' 2 [aX 2 0,az 4 0] (.seq (q' 6 [am 1,aY .eql 6 [112,97,99,107,101,116]] (ci 7 (q' 4 [aK 4] .ret))) (.seq (q' 8 [am 1,aY .eql 8 [102,111,114,119,97,114,100]] (ci 9 (q' 4 [aK 1] .ret))) (q' 10 [ae 2 2,am 1,ac 130 [10,11],ax (w' 5 [.i .i64,.s,.i .i64]),aS 3 5 12] (.seq (q' 13 [aG 0 5,aC .eql 14 0] (ci 15 (q' 4 [ao (.mov (.k (.v false [.c (.i .i64 (-1))])))] .ret))) (q' 16 [aG 2 5,aV 4] .ret)))))) [.t 4] [(130,[],a1c)] ?_;intro hb hE;simp only[go_sem];repeat' first|apply cj'|intro hc|exact om'|fail
 ·simp only[w6,pkB,fwB, *,z0B]
 ·simp only[w6,pkB,fwB, *,z0B]
 all_goals rw[c7u hpre]at hc
 ·rw[q0M]at hc;simp only[w6,pkB,fwB, *,z0B]
 ·rw[q0Q]at hc;simp only[w6,pkB,fwB, *,z0B]
noncomputable def a8f:CT:=k8 (fun(x:c6×(List UInt8)) h=>b9d x.1 x.2 h)
@[go_sem] def d3v:=fun x0 x1 x2=>nm' (fP' a8f rfl (⟨x0,x1⟩,x2))
def b6r(p:c6)(name:List UInt8):spZ 285 [(true,[m9 p.Decls,m7 p.Rules]),(false,[.s name])] [] (.one (false,[.b (movB p name)])):=by
 refine sy' Tryz.func285 (q' 2 [aX 2 0,ab 4 false] (q' 5 [am 1,aY .eql 5 [112,97,99,107,101,116],am 6,aH 7 false [be 2 2,bm 1,bc 130 [8,9],bo (.fl false 0 1 (.t 10)),bC .eql 11 2],aQ 7 12,aV 4] .ret)) [.t 4] [(130,[],a1c)] ?_;intro hb hE;simp only[go_sem];repeat' first|apply cj'|intro hc|exact om'|fail
 all_goals(first|rfl)
noncomputable def a6K:CT:=j8 (fun(x:c6×(List UInt8))=>b6r x.1 x.2)
@[go_sem] def d1Y:=fun x0 x1 x2=>nm' (fQ' a6K rfl (⟨x0,x1⟩,x2))
def b9e(r:c8)(hpre:r.Body.length<=8):spZ 283 [(true,[.i .i64 r.Kind,.s r.Head.Name,l8 r.Head.Args,a0g r.Body])] [] (.one (false,[e1l (v5 r)])):=by
 refine sy' Tryz.func283 (q' 1 [aX 4 0,ao (.mov (.k (.v false [.nl b6J])))] (q' 5 [af 1 1,aE 2,ao (.bsl 2 1 [.s,.sl j5] [(0,.t 6)]),aV 3] (.seq (q' 8 [aG 3 1,aN,aK 0] (fO 0 12 [ar 11 10] 12 1 (q' 13 [am 11,aV 4] (q' 14 [aG 3 1,am 4,aI 10,aG 0 17,aC .neq 19 3] (ci 20 (g' 21 [am 3,aG 3 1,am 4,aI 10,aF 1,aE 2,ao (.bsl 2 1 [.s,.sl j5] [(0,.t 27)]),ao (.app 2 40 [.s,.sl j5] (.t 21) (.t 28)),aV 3])))) (g' 30 [aA 11]))) (q' 31 [am 3,aV 2] .ret)))) [.t 2] [] ?_;intro hb hE;simp only[go_sem];repeat' first|apply cj'|intro hc|exact om'|fail
 refine lk' false [(false,3,0,100006)] [1,10] [2] [] (fun i:{i:Nat // i<=r.Body.length}=>[(3,.v false [.ow 100006]),(11,slV (.i .i64 i.1))]) nl' (fun i=>[(100006,b6J,(r.Head::((r.Body.take i.1).filter atB).map d7.Atom).map (f7.cells false false))]) (fun i=>r.Body.length-i.1) (⟨0,z0D⟩) ?_;intro S0 hS0 i;obtain⟨i,hi⟩:=i;simp only[go_sem,hS0];repeat' first|apply cj'|intro hc|exact om'|fail
 ·have:=b5D atB d7.Atom (r.Body.take i);simp at this;omega
 ·have hp:atB (r.Body.getD i default)=true:=hc
  (refine lpK_n2 (⟨i+1,z0C⟩) _ z0E ?_;simp only[go_sem,hS0]<;>repeat' first|apply W6|exact on'|fail)
  all_goals(rw[b1U d7.Atom default z0C hp]<;>rfl)
 ·have hp:atB (r.Body.getD i default)=false:=hc
  (refine lpK_n2 (⟨i+1,z0C⟩) _ z0E ?_;simp only[go_sem,hS0]<;>repeat' first|apply W6|exact on'|fail)
  all_goals(rw[c1t d7.Atom default z0C hp]<;>rfl)
 ·rw[i4 z0C,c0I];rfl
noncomputable def a8g:CT:=k8 (fun(x:c8) h=>b9e x h)
@[go_sem] def d3w:=fun x0 x1 x2 x3=>nm' (fP' a8g rfl ⟨x0,⟨x1,x2⟩,x3⟩)
def d0m{p:c6}(h:y6 p=true){r:c8}(hr:r∈p.Rules):r.Body.length<=8:=by
 simp only[y6,W3,q0K]at h;have:=h.2 r hr;simp only[k7,K7]at this;omega
def a9M(l:d7)(p:c6):spZ 408 [(true,[.i .i64 l.Kind,.s l.Atom.Name,l8 l.Atom.Args,.i .i64 l.Op,.s l.A.Var,.i .i64 l.A.Val.N,.s l.A.Val.S,.s l.B.Var,.i .i64 l.B.Val.N,.s l.B.Val.S]),(false,[.p [m9 p.Decls,m7 p.Rules]])] [] (.one (false,[.b (b0E p l)])):=by
 refine sy' Tryz.func408 (q' 2 [aX 10 0,aU false] (q' 4 [aG 0 2,aC .neq 5 3,am 6,aH 7 true [be 2 1,bf 1 2,bF 0,bL,bc 407 [8,11]],aP 7 12,aV 3] .ret)) [.t 3] [(407,[],a4w)] ?_;intro hb hE;simp only[go_sem];repeat' first|apply cj'|intro hc|exact om'|fail
 all_goals(first|rfl)
noncomputable def a3w:CT:=j8 (fun(x:d7×c6)=>a9M x.1 x.2)
@[go_sem] def c5K:=fun x0 x1 x2 x3 x4 x5 x6 x7 x8 x9 x10 x11=>nm' (fQ' a3w rfl (⟨x0,⟨x1,x2⟩,x3,⟨x4,⟨x5,x6⟩⟩,⟨x7,⟨x8,x9⟩⟩⟩,⟨x10,x11⟩))
def c7F(l:List d7)(p:c6):spZ 404 [(false,[a0g l]),(false,[.f 408 [.p [m9 p.Decls,m7 p.Rules]]])] [] (.one (false,[.i .i64 (a1a (fun y=>b0E p y) l)])):=by
 refine sy' Tryz.func404 c5y [.t 4] [(408,[],a3w)] ?_;intro hb hE;simp only[go_sem];repeat' first|apply cj'|intro hc|exact om'|fail
 refine lq' false [0,1,7] [] [] (fun i:{i:Nat // i<=l.length/\(l.take i).any (fun y=>b0E p y)=false}=>[(8,slV (.i .i64 i.1))]) nl' nl' (fun i=>l.length-i.1) (⟨0,z0D⟩) ?_;intro S0 hS0 i;obtain⟨i,hi,ha⟩:=i;simp only[go_sem,hS0];repeat' first|apply cj'|intro hc|exact om'|fail
 ·exact(w9 (p:=fun y=>b0E p y) (d:=default) z0C ha z0G).symm
 ·exact nx0 ⟨i+1,z0C,t7 (p:=fun y=>b0E p y) default z0C ha z0G⟩
 ·exact(w8 z0J).symm
noncomputable def b2Z:CT:=j8 (fun(x:(List d7)×c6)=>c7F x.1 x.2)
@[go_sem] def d8X:=fun l x0 x1=>nm' (fQ' b2Z rfl (l,⟨x0,x1⟩))
def c7C(l:List d7)(p:c6):spZ 356 [(false,[a0g l]),(false,[.f 408 [.p [m9 p.Decls,m7 p.Rules]]])] [] (.one (false,[.b (l.any (fun y=>b0E p y))])):=by
 refine sy' Tryz.func356 c5x [.t 4] [(404,[],b2Z)] ?_;intro hb hE;simp only[go_sem];repeat' first|apply cj'|intro hc|exact om'|fail
 ·exact a1l _ _
noncomputable def b2W:CT:=j8 (fun(x:(List d7)×c6)=>c7C x.1 x.2)
@[go_sem] def d8U:=fun l x0 x1=>nm' (fQ' b2W rfl (l,⟨x0,x1⟩))
def b1Y(p:c6)(r:c8):spZ 372 [(true,[m9 p.Decls,m7 p.Rules]),(true,[.i .i64 r.Kind,.s r.Head.Name,l8 r.Head.Args,a0g r.Body])] [] (.one (false,[.b (b8v p r)])):=by
 refine sy' Tryz.func372 (q' 2 [aX 2 0,aX 4 1,aU false] (q' 7 [aG 3 3,aV 5] (.seq (q' 9 [aG 0 3,aC .neq 10 1,am 11,aH 12 false [bf 1 3,bF 0,bL,bY .eql 15 [102,111,114,119,97,114,100]],aQ 12 16] (ci 17 (.seq (q' 18 [am 5,aN,aC .eql 19 0,am 20,aH 21 false [bm 5,bo (.ia 10 (.t 22) (k' 0)),bF 0,bL,bC .neq 25 1],aQ 21 26] (ci 27 (q' 4 [aU false] .ret))) (q' 28 [am 5,ao (.ia 10 (.t 28) (k' 0)),aF 1,aG 0 30,aV 6] (.seq (q' 33 [am 6,aY .neq 33 [112,97,99,107,101,116],am 34,aH 35 true [bf 0 3,bL,bC .eql 37 1,bm 38],aH 39 false [be 2 2,bm 6,bc 407 [40,41],bO 42],aH 35 true [bQ 39 43],aP 35 44] (ci 45 (q' 4 [aU false] .ret))) (g' 46 [am 5,ao (.slc 10 (.t 46) (some (k' 1)) none none),aV 5])))))) (q' 48 [am 5,ao (.mf 408 [.t 2]),ac 356 [48,49],aO 50,aV 4] .ret)))) [.t 4] [(407,[],a4w),(356,[],b2W)] ?_;intro hb hE;simp only[go_sem];repeat' first|apply cj'|intro hc|exact om'|fail
 all_goals(try simp only[a1P]at*)
 all_goals(clear hb)
 all_goals(first|(simp at hc;omega)|grind [b8v,d0k,pkB,fwB,movB])
noncomputable def a2k:CT:=j8 (fun(x:c6×c8)=>b1Y x.1 x.2)
@[go_sem] def c8E:=fun x0 x1 x2 x3 x4 x5=>nm' (fQ' a2k rfl (⟨x0,x1⟩,⟨x2,⟨x3,x4⟩,x5⟩))
def a8w:OkC Tryz.prog 372 a2k:=a7v _
def b3V(a:f7)(p:c6):spZ 369 [(true,[.s a.Name,l8 a.Args]),(false,[.p [m9 p.Decls,m7 p.Rules]])] [] (.one (false,[.b (a5d p a)])):=by
 refine sy' Tryz.func369 (q' 2 [aX 2 0,aU false] (q' 4 [ae 2 1,aG 0 2,ac 140 [4,6],aC .lss 7 0,aV 3] .ret)) [.t 3] [(140,[],a2A)] ?_;intro hb hE;simp only[go_sem];repeat' first|apply cj'|intro hc|exact om'|fail
 all_goals(first|rfl)
noncomputable def a5k:CT:=j8 (fun(x:f7×c6)=>b3V x.1 x.2)
@[go_sem] def c9C:=fun x0 x1 x2 x3=>nm' (fQ' a5k rfl (⟨x0,x1⟩,⟨x2,x3⟩))
def b3W(a:f7)(p:c6):spZ 370 [(true,[.s a.Name,l8 a.Args]),(false,[.p [m9 p.Decls,m7 p.Rules]])] [] (.one (false,[.b (a4o p a)])):=by
 refine sy' Tryz.func370 (q' 2 [aX 2 0,aU false] (.seq (G' 4 [ae 2 1,aG 0 2,ac 140 [4,6],aG 1 2,aN,aD .neq 7 10,aV 3]) .ret)) [.t 3] [(140,[],a2A)] ?_;intro hb hE;simp only[go_sem];repeat' first|apply cj'|intro hc|exact om'|fail
 all_goals(first|rfl)
noncomputable def a5l:CT:=j8 (fun(x:f7×c6)=>b3W x.1 x.2)
@[go_sem] def c9D:=fun x0 x1 x2 x3=>nm' (fQ' a5l rfl (⟨x0,x1⟩,⟨x2,x3⟩))
def b3X(a:f7):spZ 371 [(true,[.s a.Name,l8 a.Args])] [] (.one (false,[.b (b8w a)])):=by
 refine sy' Tryz.func371 (q' 1 [aX 2 0,aU false] (q' 3 [aG 0 1,aY .eql 4 [102,111,114,119,97,114,100],aV 2] .ret)) [.t 2] [] ?_;intro hb hE;simp only[go_sem];repeat' first|apply cj'|intro hc|exact om'|fail
 all_goals(first|rfl)
noncomputable def a5m:CT:=j8 (fun(x:f7)=>b3X x)
@[go_sem] def c9E:=fun x0 x1=>nm' (fQ' a5m rfl ⟨x0,x1⟩)
@[go_sem] def b1v:ACode:=q' 4 [aK 0] (.seq (q' 6 [am 0,aN,aK 0] (fO 0 9 [ar 8 7] 9 1 (q' 10 [am 8,aV 5] (q' 11 [aM [1,0,5],aI 2,aE 2,ao (.callv (.t 11) [.t 15])] (ci 16 (q' 17 [am 5,aV
 4] .ret)))) (g' 18 [aA 8]))) (q' 4 [ao (.mov (.k (.v false [.c (.i .i64 (-1))])))] .ret))
def d0v(l:List f7)(p:c6):spZ 406 [(false,[a7y l]),(false,[.f 369 [.p [m9 p.Decls,m7 p.Rules]]])] [] (.one (false,[.i .i64 (a1a (fun y=>a5d p y) l)])):=by
 refine sy' Tryz.func406 b1v [.t 4] [(369,[],a5k)] ?_;intro hb hE;simp only[go_sem];repeat' first|apply cj'|intro hc|exact om'|fail
 refine lq' false [0,1,7] [] [] (fun i:{i:Nat // i<=l.length/\(l.take i).any (fun y=>a5d p y)=false}=>[(8,slV (.i .i64 i.1))]) nl' nl' (fun i=>l.length-i.1) (⟨0,z0D⟩) ?_;intro S0 hS0 i;obtain⟨i,hi,ha⟩:=i;simp only[go_sem,hS0];repeat' first|apply cj'|intro hc|exact om'|fail
 ·exact(w9 (p:=fun y=>a5d p y) (d:=default) z0C ha z0G).symm
 ·exact nx0 ⟨i+1,z0C,t7 (p:=fun y=>a5d p y) default z0C ha z0G⟩
 ·exact(w8 z0J).symm
noncomputable def b6R:CT:=j8 (fun(x:(List f7)×c6)=>d0v x.1 x.2)
@[go_sem] def e0r:=fun l x0 x1=>nm' (fQ' b6R rfl (l,⟨x0,x1⟩))
@[go_sem] def b1u:ACode:=q' 4 [aU false] (q' 5 [aM [0,1],ac 406 [5,6],aC .geq 7 0,aV 4] .ret)
def d0s(l:List f7)(p:c6):spZ 368 [(false,[a7y l]),(false,[.f 369 [.p [m9 p.Decls,m7 p.Rules]]])] [] (.one (false,[.b (l.any (fun y=>a5d p y))])):=by
 refine sy' Tryz.func368 b1u [.t 4] [(406,[],b6R)] ?_;intro hb hE;simp only[go_sem];repeat' first|apply cj'|intro hc|exact om'|fail
 ·exact a1l _ _
noncomputable def a8J:CT:=j8 (fun(x:(List f7)×c6)=>d0s x.1 x.2)
@[go_sem] def c0Q:=fun l x0 x1=>nm' (fQ' a8J rfl (l,⟨x0,x1⟩))
def c0R:OkC Tryz.prog 368 a8J:=a7v _
def d0w(l:List f7)(p:c6):spZ 406 [(false,[a7y l]),(false,[.f 370 [.p [m9 p.Decls,m7 p.Rules]]])] [] (.one (false,[.i .i64 (a1a (fun y=>a4o p y) l)])):=by
 refine sy' Tryz.func406 b1v [.t 4] [(370,[],a5l)] ?_;intro hb hE;simp only[go_sem];repeat' first|apply cj'|intro hc|exact om'|fail
 refine lq' false [0,1,7] [] [] (fun i:{i:Nat // i<=l.length/\(l.take i).any (fun y=>a4o p y)=false}=>[(8,slV (.i .i64 i.1))]) nl' nl' (fun i=>l.length-i.1) (⟨0,z0D⟩) ?_;intro S0 hS0 i;obtain⟨i,hi,ha⟩:=i;simp only[go_sem,hS0];repeat' first|apply cj'|intro hc|exact om'|fail
 ·exact(w9 (p:=fun y=>a4o p y) (d:=default) z0C ha z0G).symm
 ·exact nx0 ⟨i+1,z0C,t7 (p:=fun y=>a4o p y) default z0C ha z0G⟩
 ·exact(w8 z0J).symm
noncomputable def b6S:CT:=j8 (fun(x:(List f7)×c6)=>d0w x.1 x.2)
@[go_sem] def e0s:=fun l x0 x1=>nm' (fQ' b6S rfl (l,⟨x0,x1⟩))
def d0t(l:List f7)(p:c6):spZ 368 [(false,[a7y l]),(false,[.f 370 [.p [m9 p.Decls,m7 p.Rules]]])] [] (.one (false,[.b (l.any (fun y=>a4o p y))])):=by
 refine sy' Tryz.func368 b1u [.t 4] [(406,[],b6S)] ?_;intro hb hE;simp only[go_sem];repeat' first|apply cj'|intro hc|exact om'|fail
 ·exact a1l _ _
noncomputable def a8K:CT:=j8 (fun(x:(List f7)×c6)=>d0t x.1 x.2)
@[go_sem] def c0S:=fun l x0 x1=>nm' (fQ' a8K rfl (l,⟨x0,x1⟩))
def c0T:OkC Tryz.prog 368 a8K:=a7v _
def d0x(l:List f7):spZ 406 [(false,[a7y l]),(false,[.f 371 []])] [] (.one (false,[.i .i64 (a1a (fun y=>b8w y) l)])):=by
 refine sy' Tryz.func406 b1v [.t 4] [(371,[],a5m)] ?_;intro hb hE;simp only[go_sem];repeat' first|apply cj'|intro hc|exact om'|fail
 refine lq' false [0,1,7] [] [] (fun i:{i:Nat // i<=l.length/\(l.take i).any (fun y=>b8w y)=false}=>[(8,slV (.i .i64 i.1))]) nl' nl' (fun i=>l.length-i.1) (⟨0,z0D⟩) ?_;intro S0 hS0 i;obtain⟨i,hi,ha⟩:=i;simp only[go_sem,hS0];repeat' first|apply cj'|intro hc|exact om'|fail
 ·exact(w9 (p:=fun y=>b8w y) (d:=default) z0C ha z0G).symm
 ·exact nx0 ⟨i+1,z0C,t7 (p:=fun y=>b8w y) default z0C ha z0G⟩
 ·exact(w8 z0J).symm
noncomputable def b6T:CT:=j8 (fun(x:(List f7))=>d0x x)
@[go_sem] def e0t:=fun l=>nm' (fQ' b6T rfl l)
def d0u(l:List f7):spZ 368 [(false,[a7y l]),(false,[.f 371 []])] [] (.one (false,[.b (l.any (fun y=>b8w y))])):=by
 refine sy' Tryz.func368 b1u [.t 4] [(406,[],b6T)] ?_;intro hb hE;simp only[go_sem];repeat' first|apply cj'|intro hc|exact om'|fail
 ·exact a1l _ _
noncomputable def a8L:CT:=j8 (fun(x:(List f7))=>d0u x)
@[go_sem] def c0U:=fun l=>nm' (fQ' a8L rfl l)
def c0V:OkC Tryz.prog 368 a8L:=a7v _
noncomputable def a0J:CT:=(ctO a8J (ctO a8K a8L))
@[go_sem] def c8G(l:List f7)(x0:List e7)(x1:List c8):a0J [(false,[a7y l]),(false,[.f 369 [.p [m9 x0,m7 x1]]])]=some (True,[],.one (false,[.b (l.any (fun y=>a5d (c6.mk x0 x1) y))])):=c9W (c0Q l x0 x1)
@[go_sem] def c8H(l:List f7)(x0:List e7)(x1:List c8):a0J [(false,[a7y l]),(false,[.f 370 [.p [m9 x0,m7 x1]]])]=some (True,[],.one (false,[.b (l.any (fun y=>a4o (c6.mk x0 x1) y))])):=(c1f (b5z (fun x h=>z0I))).trans (c9W (c0S l x0 x1))
@[go_sem] def c8I(l:List f7):a0J [(false,[a7y l]),(false,[.f 371 []])]=some (True,[],.one (false,[.b (l.any (fun y=>b8w y))])):=(c1f (b5z (fun x h=>z0I))).trans ((c1f (b5z (fun x h=>z0I))).trans (c0U l))
def a8x:OkC Tryz.prog 368 a0J:=(e0H c0R (e0H c0T c0V))
def b8E(p:c6)(r:c8)(hpre:r.Body.length<=8):spZ 307 [(true,[m9 p.Decls,m7 p.Rules]),(true,[.i .i64 r.Kind,.s r.Head.Name,l8 r.Head.Args,a0g r.Body])] [] (.one (false,[.i .i64 (z7 p r)])):=by
 refine sy' Tryz.func307 (q' 2 [aX 2 0,aX 4 1,aK 0] (q' 8 [ae 4 3,ac 367 [8],aV 5] (.seq (q' 10 [am 5,ao (.mf 369 [.t 2]),ac 368 [10,11]] (ci 12 (q' 4 [aK 3] .ret))) (.seq (q' 13 [am 5,ao (.mf 370 [.t 2]),ac 368 [13,14]] (ci 15 (q' 4 [aK 4] .ret))) (q' 16 [ae 2 2,af 1 3,aG 0 17,ac 143 [16,19],aV 6] (q' 21 [am 6,aC .eql 21 3,am 22,aH 23 false [bf 1 3,bF 0,bL,bY .eql 26 [102,111,114,119,97,114,100]],aQ 23 27,aV 7] (.seq (.block 0 (q' 30 [aG 0 3,aC .eql 31 1,am 32,aH 33 true [bm 7,bO 34],aP 33 35,am 36,aH 37 false [bf 0 3,bL,bC .neq 39 1,bm 40],aH 41 true [bm 6,bC .neq 42 1],aH 37 false [bP 41 43],aQ 37 44,aV 29] (cd 29 (q' 4 [aK 5] .ret) (q' 47 [am 5,ao (.slc 2 (.t 47) (some (k' 1)) none none),ao (.call 368 [.t 48,.k (.v false [.c (.f 371 [])])]),aV 46] (cd 46 (q' 4 [aK 6] .ret) (q' 51 [ae 2 2,ae 4 3,ac 372 [51,52],aO 53,aV 50] (ci 50 (q' 4 [aK 7] .ret)))))))) (q' 4 [aK 0] .ret)))))))) [.t 4] [(367,[],a4s),(368,[],a0J),(143,[],a0V),(372,[],a2k)] ?_ (hΓ:=⟨b3e,a8x,b5r,a8w,trivial⟩);intro hb hE;simp only[go_sem];repeat' first|apply cj'|intro hc|exact om'|fail
 all_goals(try simp only[a1P]at*)
 all_goals(clear hb)
 all_goals(first|(have:=b6O r;omega)|grind [z7,a5u,fwB])
noncomputable def a7N:CT:=k8 (fun(x:c6×c8) h=>b8E x.1 x.2 h)
@[go_sem] def d2X:=fun x0 x1 x2 x3 x4 x5=>nm' (fP' a7N rfl (⟨x0,x1⟩,⟨x2,⟨x3,x4⟩,x5⟩))
def b2T{q:α->Bool}{l:List α}{i:Nat}(d:α)(h:i<l.length)(hp:q (l.getD i d)=true):l.any q=true:=by
 rw[q3F];exact⟨l.getD i d,by rw[j7 d h];exact q1E h,hp⟩
def d6W{q:α->Bool}{l:List α}(d:α)(hk:k<=i)(h:i<l.length)(ha:((l.take i).drop k).any q=false)(hp:q (l.getD i d)=false):((l.take (i+1)).drop k).any q=false:=by
 rw[j3 d h,q4T z07,q2A,ha];simp only[q2L,List.any_nil,hp,q5N]
def e0e{q:α->Bool}{l:List α}{i:Nat}(d:α)(hk:k<=i)(h:i<l.length)(hp:q (l.getD i d)=true):(l.drop k).any q=true:=by
 rw[q3F];refine⟨l.getD i d, ?_,hp⟩;rw[j7 d h,List.mem_drop_iff_getElem];exact⟨i-k,z0C,by congr 1;omega⟩
def c2J(p:c6)(r:c8)(hpre:r.Body.length<=8/\y6 p=true):spZ 245 [(true,[m9 p.Decls,m7 p.Rules]),(true,[.i .i64 r.Kind,.s r.Head.Name,l8 r.Head.Args,a0g r.Body])] [] (.one (false,[.i .i64 (z7 p r)])):=by
 refine sy' Tryz.func245 (q' 2 [aX 2 0,aX 4 1,aK 0] (q' 15 [ae 4 3,ac 283 [15],aV 5] (.seq (q' 17 [am 5,aN,aK 0] (fO 0 20 [ar 19 18] 20 1 (q' 21 [ai 2 17 19,aE 2,ax (w' 7 [.s,.sl j5]),aS 2 7 22] (q' 23 [ae 2 2,aG 0 7,ac 284 [23,25],aC .lss 26 0] (ci 27 (q' 4 [aK 3] .ret)))) (g' 28 [aA 19]))) (.seq (q' 29 [am 5,aN,aK 0] (fO 2 32 [ar 31 30] 32 3 (q' 33 [ai 2 29 31,aE 2,ax (w' 9 [.s,.sl j5]),aS 2 9 34] (.seq (G' 35 [ae 2 2,aG 0 9,ac 284 [35,37],aG 1 9,aN,aD .neq 38 41]) (ci 42 (q' 4 [aK 4] .ret)))) (g' 43 [aA 31]))) (q' 44 [ae 2 2,af 1 3,aG 0 45,ac 130 [44,47],ao (.fl false 0 1 (.t 48)),aV 10] (.seq (q' 50 [aG 0 3,aC .eql 51 1,am 52,aH 53 true [bm 10,bC .neq 54 3],aP 53 55,am 56,aH 57 true [bf 1 3,bF 0,bL,bY .neq 60 [102,111,114,119,97,114,100]],aP 57 61,am 62,aH 63 false [bf 0 3,bL,bC .neq 65 1,bm 66],aH 67 true [bm 10,bC .neq 68 1],aH 63 false [bP 67 69],aQ 63 70] (ci 71 (q' 4 [aK 5] .ret))) (.seq (q' 72 [am 5,ao (.slc 2 (.t 72) (some (k' 1)) none none),aN,aK 0] (fO 4 76 [ar 75 74] 76 5 (q' 77 [ai 2 73 75,aE 2,ax (w' 12 [.s,.sl j5]),aS 2 12 78] (q' 79 [aG 0 12,aY .eql 80 [102,111,114,119,97,114,100]] (ci 81 (q' 4 [aK 6] .ret)))) (g' 82 [aA 75]))) (q' 13 [aK 0] (.seq (q' 83 [aG 0 3,aC .neq 84 1,am 85,aH 86 false [bf 1 3,bF 0,bL,bY .eql 89 [102,111,114,119,97,114,100]],aQ 86 90] (ci 91 (.seq (.seq (G' 92 [aG 3 3,aN,aC .eql 94 0,am 95,aH 96 false [bf 3 3,bL,bo (.ia 10 (.t 98) (k' 0)),bF 0,bL,bC .neq 101 1],aQ 96 102,am 103,aH 104 false [be 2 2,bf 3 3,bL,bo (.ia 10 (.t 107) (k' 0)),bF 1,bF 0,bL,bc 285 [105,111],bO 112],aQ 104 113]) (ci 114 (q' 4 [aK 7] .ret))) (.seq (q' 115 [aG 0 3,aC .eql 116 1,am 117,aH 118 true [bf 3 3,bL,bo (.ia 10 (.t 120) (k' 0)),bF 1,bF 0,bL,bY .neq 124 [112,97,99,107,101,116]],aP 118 125] (ci 126 (q' 4 [aK 7] .ret))) (g' 13 [aK 1]))))) (.seq (q' 127 [am 13,aV 14] (fo 6 128 [am 14,aG 3 3,aN,ar 128 131] 132 7 (.seq (G' 135 [aG 3 3,am 14,aI 10,aG 0 138,aC .neq 140 3,am 141,aH 142 true [be 2 2,bf 3 3,bL,bm 14,bI 10,bF 1,bF 0,bL,bc 285 [143,150]],aP 142 151]) (ci 152 (q' 4 [aK 7] .ret))) (g' 133 [aB 14]))) (q' 4 [aK 0] .ret))))))))))) [.t 4] [(283,[],a8g),(284,[],a8f),(130,[],a1c),(285,[],a6K)] ?_;intro hb hE;obtain⟨hp8,hpB⟩:=hpre;have hA:=d2M r;have hA1:=b6O r;simp only[go_sem,a1P];repeat' first|apply cj'|intro hc|exact om'|fail
 refine lq' false [2,3,5,17,18] [4,6] [2048] (fun i:{i:Nat // i<=(v5 r).length/\((v5 r).take i).any (a5d p)=false}=>[(19,slV (.i .i64 i.1))]) nl' nl' (fun i=>(v5 r).length-i.1) (⟨0,z0D⟩) ?_;intro S0 hS0 i;obtain⟨i,hi,ha⟩:=i;simp only[go_sem,a1P,hS0];repeat' first|apply cj'|intro hc|exact om'|fail
 ·rw[z7,b2T (q:=a5d p) default z0C (V0 hc)];rfl
 ·(refine lpK_n2 (⟨i+1,z0C,t7 (p:=a5d p) default z0C ha (V3 hc)⟩) _ rfl ?_;simp only[go_sem,a1P,hS0]<;>repeat' first|apply W6|exact on'|fail)
 rw[i4 z0C]at ha;clear hc hi;refine lq' false [2,3,5,29,30] [4,6] [2048] (fun i:{i:Nat // i<=(v5 r).length/\((v5 r).take i).any (a4o p)=false}=>[(31,slV (.i .i64 i.1))]) nl' nl' (fun i=>(v5 r).length-i.1) (⟨0,z0D⟩) ?_;intro S1 hS1 i;obtain⟨i,hi,hb1⟩:=i;simp only[go_sem,a1P,hS0,hS1];repeat' first|apply cj'|intro hc|exact om'|fail
 ·rw[z7,ha,b2T (q:=a4o p) default z0C hc];rfl
 ·(refine lpK_n2 (⟨i+1,z0C,t7 (p:=a4o p) default z0C hb1 hc⟩) _ rfl ?_;simp only[go_sem,a1P,hS0,hS1]<;>repeat' first|apply W6|exact on'|fail)
 ·rw[i4 z0C]at hb1;clear hb hS0 hS1
  grind [z7,a5u,a0H,fwB]
 rw[i4 z0C]at hb1;have hk:a5u p r=false:=by
  clear hb hS0 hS1
  grind [a5u,a0H,fwB]
 clear hc hi;refine lq' false [2,3,73,74] [4,6] [9344] (fun i:{i:Nat // i<=((v5 r).drop 1).length/\(((v5 r).drop 1).take i).any b8w=false}=>[(75,slV (.i .i64 i.1))]) nl' nl' (fun i=>((v5 r).drop 1).length-i.1) (⟨0,z0D⟩) ?_;intro S2 hS2 i;obtain⟨i,hi,hf⟩:=i;have hD:((v5 r).drop 1).length<=8:=by rw[q1T];omega
 simp only[go_sem,a1P,hS0,hS1,hS2];repeat' first|apply cj'|intro hc|exact om'|fail
 ·rw[z7,ha,hb1,hk,b2T (q:=b8w) default z0C hc];rfl
 ·(refine lpK_n2 (⟨i+1,z0C,t7 (p:=b8w) default z0C hf hc⟩) _ rfl ?_;simp only[go_sem,a1P,hS0,hS1,hS2]<;>repeat' first|apply W6|exact on'|fail)
 all_goals(rw[i4 z0C]at hf)
 ·clear hb hS0 hS1 hS2;grind
 ·clear hb hS0 hS1 hS2;grind
 ·clear hb hS0 hS1 hS2;grind [z7,b8v,d0k,pkB,fwB]
 ·clear hb hS0 hS1 hS2;grind
 ·clear hb hS0 hS1 hS2;grind [z7,b8v,d0k,pkB,fwB]
 ·have hg:b8v p r=!(r.Body.drop 1).any (b0E p):=by
   clear hb hS0 hS1 hS2;grind [b8v,d0k,pkB,fwB]
  have h1:1<=r.Body.length:=by
   clear hb hS0 hS1 hS2;grind
  clear hc;refine lq' false [2,3] [4,6] [] (fun i:{i:Nat // 1<=i/\i<=r.Body.length/\((r.Body.take i).drop 1).any (b0E p)=false}=>[(14,slV (.i .i64 i.1))]) nl' nl' (fun i=>r.Body.length-i.1) (⟨1,z0C,z0C,by cases r.Body<;>rfl⟩) ?_;intro S3 hS3 i;obtain⟨i,h1i,hi,hm⟩:=i;simp only[go_sem,a1P,hS0,hS1,hS2,hS3];repeat' first|apply cj'|intro hc|exact om'|fail
  ·have:b8v p r=false:=by rw[hg,e0e (q:=b0E p) (i:=i) default z0C z0C (Bool.and_eq_true_iff.2 hc)];rfl
   rw[z7,ha,hb1,hk,hf,this];rfl
  ·(refine lpK_n2 (⟨i+1,z0C,z0C,d6W (q:=b0E p) default z0C z0C hm hc⟩) _ rfl ?_;simp only[go_sem,a1P,hS0,hS1,hS2,hS3]<;>repeat' first|apply W6|exact on'|fail)
  ·rw[i4 z0C]at hm;rw[hm]at hg;rw[z7,ha,hb1,hk,hf,hg];rfl
 ·have hg:b8v p r=!r.Body.any (b0E p):=by
   clear hb hS0 hS1 hS2;grind [b8v,fwB]
  clear hc;refine lq' false [2,3] [4,6] [] (fun i:{i:Nat // i<=r.Body.length/\(r.Body.take i).any (b0E p)=false}=>[(14,slV (.i .i64 i.1))]) nl' nl' (fun i=>r.Body.length-i.1) (⟨0,z0C,z0D⟩) ?_;intro S3 hS3 i;obtain⟨i,hi,hm⟩:=i;simp only[go_sem,a1P,hS0,hS1,hS2,hS3];repeat' first|apply cj'|intro hc|exact om'|fail
  ·have:b8v p r=false:=by rw[hg,b2T (q:=b0E p) (i:=i) default z0C (Bool.and_eq_true_iff.2 hc)];rfl
   rw[z7,ha,hb1,hk,hf,this];rfl
  ·(refine lpK_n2 (⟨i+1,z0C,t7 (p:=b0E p) default z0C hm hc⟩) _ rfl ?_;simp only[go_sem,a1P,hS0,hS1,hS2,hS3]<;>repeat' first|apply W6|exact on'|fail)
  ·rw[i4 z0C]at hm;rw[hm]at hg;rw[z7,ha,hb1,hk,hf,hg];rfl
noncomputable def a9D:CT:=k8 (fun(x:c6×c8) h=>c2J x.1 x.2 h)
@[go_sem] def d5F:=fun x0 x1 x2 x3 x4 x5=>nm' (fP' a9D rfl (⟨x0,x1⟩,⟨x2,⟨x3,x4⟩,x5⟩))
def b7f(p:c6)(r:c8):0<=z7 p r:=by
 unfold z7;cases(v5 r).any (a5d p)<;>cases(v5 r).any (a4o p)<;>cases a5u p r<;>cases((v5 r).drop 1).any b8w<;>cases b8v p r<;>decide
def a3t{p:c6}(h:y6 p=false):n7 p=(1,0):=by simp[n7,h]
def a2h{p:c6}(h:y6 p=true)(hi:i<p.Decls.length)(ha:∀j,j<i->v6 p j=false)(hq:v6 p i=true):n7 p=(2,(i:Int)):=by
 rw[n7,h,a2q ha hq hi,if_pos hi];rfl
def a3Q{p:c6}(h:y6 p=true)(hd:∀j,j<p.Decls.length->v6 p j=false)(hi:i<p.Rules.length)(ha:∀j,j<i->a0o p j=false)(hq:a0o p i=true):n7 p=(z7 p (p.Rules.getD i default),(i:Int)):=by
 rw[n7,h,a2p hd,if_neg z0C,a2q ha hq hi,if_pos hi];rfl
def b1j{p:c6}(h:y6 p=true)(hd:∀j,j<p.Decls.length->v6 p j=false)(ha:∀j,j<p.Rules.length->a0o p j=false):n7 p=(0,0):=by
 rw[n7,h,a2p hd,if_neg z0C,a2p ha,if_neg z0C];rfl
def b4h{q:Nat->Bool}(h:∀j,j<i->q j=false)(hi:q i=false):∀j,j<i+1->q j=false:=by
 intro j hj;rcases q3P.1 hj with h1|rfl
 ·exact h j h1
 ·exact hi
def d1a{p:c6}(h:y6 p=true)(hi:i<p.Rules.length):(p.Rules.getD i default).Body.length<=8:=by
 rw[j7 default hi];exact d0m h (q1E hi)
def b0D(y:e7)(d:e7):spZ 306 [(true,[.i .i64 y.Kind,.s y.Name,.i .i64 y.Arity]),(false,[.p [.i .i64 d.Kind,.s d.Name,.i .i64 d.Arity]])] [] (.one (false,[.b (y.Name==d.Name)])):=by
 refine sy' Tryz.func306 (q' 2 [aX 3 0,aU false] (q' 4 [aG 1 2,aG 1 1,aD .eql 5 7,aV 3] .ret)) [.t 3] [] ?_;intro hb hE;simp only[go_sem];repeat' first|apply cj'|intro hc|exact om'|fail
 all_goals(first|rfl)
noncomputable def a3U:CT:=j8 (fun(x:e7×e7)=>b0D x.1 x.2)
@[go_sem] def c6U:=fun x0 x1 x2 x3 x4 x5=>nm' (fQ' a3U rfl (⟨x0,x1,x2⟩,⟨x3,x4,x5⟩))
def c7D(l:List e7)(d:e7):spZ 366 [(false,[m9 l]),(false,[.f 306 [.p [.i .i64 d.Kind,.s d.Name,.i .i64 d.Arity]]])] [] (.one (false,[.i .i64 (a1a (fun y:e7=>y.Name==d.Name) l)])):=by
 refine sy' Tryz.func366 (q' 4 [aK 0] (.seq (q' 6 [am 0,aN,aK 0] (fO 0 9 [ar 8 7] 9 1 (q' 10 [am 8,aV 5] (q' 11 [aM [1,0,5],aI 3,aE 3,ao (.callv (.t 11) [.t 15])] (ci 16 (q' 17 [am 5,aV 4] .ret)))) (g' 18 [aA 8]))) (q' 4 [ao (.mov (.k (.v false [.c (.i .i64 (-1))])))] .ret))) [.t 4] [(306,[],a3U)] ?_;intro hb hE;simp only[go_sem];repeat' first|apply cj'|intro hc|exact om'|fail
 refine lq' false [0,1,7] [] [] (fun i:{i:Nat // i<=l.length/\(l.take i).any (fun y:e7=>y.Name==d.Name)=false}=>[(8,slV (.i .i64 i.1))]) nl' nl' (fun i=>l.length-i.1) (⟨0,z0D⟩) ?_;intro S0 hS0 i;obtain⟨i,hi,ha⟩:=i;simp only[go_sem,hS0];repeat' first|apply cj'|intro hc|exact om'|fail
 ·exact(w9 (p:=fun y:e7=>y.Name==d.Name) (d:=default) z0C ha z0G).symm
 ·exact nx0 ⟨i+1,z0C,t7 (p:=fun y:e7=>y.Name==d.Name) default z0C ha z0G⟩
 ·exact(w8 z0J).symm
noncomputable def b2X:CT:=j8 (fun(x:(List e7)×e7)=>c7D x.1 x.2)
@[go_sem] def d8V:=fun l x0 x1 x2=>nm' (fQ' b2X rfl (l,⟨x0,x1,x2⟩))
def c7B(l:List e7)(d:e7):spZ 305 [(false,[m9 l]),(false,[.f 306 [.p [.i .i64 d.Kind,.s d.Name,.i .i64 d.Arity]]])] [] (.one (false,[.b (l.any (fun y:e7=>y.Name==d.Name))])):=by
 refine sy' Tryz.func305 (q' 4 [aU false] (q' 5 [aM [0,1],ac 366 [5,6],aC .geq 7 0,aV 4] .ret)) [.t 4] [(366,[],b2X)] ?_;intro hb hE;simp only[go_sem];repeat' first|apply cj'|intro hc|exact om'|fail
 ·exact a1l _ _
noncomputable def b2V:CT:=j8 (fun(x:(List e7)×e7)=>c7B x.1 x.2)
@[go_sem] def d8T:=fun l x0 x1 x2=>nm' (fQ' b2V rfl (l,⟨x0,x1,x2⟩))
def b4b(p:c6):spZ 193 [(true,[m9 p.Decls,m7 p.Rules])] [] (.tup [(false,[.i .i64 ((n7 p).1)]),(false,[.i .i64 ((n7 p).2)])]):=by
 refine sy' Tryz.func193 (q' 1 [aX 2 0,aK 0,aK 0] (.seq (q' 9 [ae 2 1,ac 244 [9],aO 10] (ci 11 (q' 2 [aK 1,aK 0] .ret))) (.seq (q' 12 [aG 0 1,aN,aK 0] (fO 0 16 [ar 15 14] 16 1 (q' 17 [am 15,aV 4] (q' 18 [aG 0 1,am 4,aI 3,aG 1 21,aV 5] (.seq (q' 24 [am 5,aY .eql 24 [112,97,99,107,101,116],am 25,aH 26 false [bm 5,bY .eql 27 [102,111,114,119,97,114,100]],aQ 26 28] (ci 29 (q' 30 [am 4,az 2 2,aV 3] .ret))) (q' 6 [aK 0] (fo 2 31 [aM [6,4],ar 31 32] 33 3 (q' 36 [aG 0 1,am 6,aI 3,aG 1 39,am 5,aD .eql 41 42] (ci 43 (q' 44 [am 4,az 2 2,aV 3] .ret))) (g' 34 [aB 6])))))) (g' 45 [aA 15]))) (.seq (q' 46 [aG 1 1,aN,aK 0] (fO 4 50 [ar 49 48] 50 5 (q' 51 [am 49,aV 7] (.seq (G' 52 [ae 2 1,aG 1 1,am 7,aI 4,aE 4,ac 245 [52,57],aV 8]) (q' 59 [am 8,aC .gtr 59 0] (ci 60 (q' 61 [aM [8,7],av 2 61,aV 3] .ret))))) (g' 63 [aA 49]))) (q' 2 [aK 0,aK 0] .ret))))) [.t 2,.t 3] [(244,[],a3a),(245,[],a9D)] ?_;intro hb hE;simp only[go_sem];repeat' first|apply cj'|intro hc|exact om'|fail
 ·rw[a3t hc];exact⟨rfl,rfl⟩
 have hB:y6 p=true:=hc;clear hc;refine lq' false [1,14] [2] [] (fun i:{i:Nat // i<=p.Decls.length/\∀j,j<i->v6 p j=false}=>[(15,slV (.i .i64 i.1))]) nl' nl' (fun i=>p.Decls.length-i.1) (⟨0,z0C,z19⟩) ?_;intro S0 hS0 i;obtain⟨n,hn,ha⟩:=i;simp only[go_sem,hS0];repeat' first|apply cj'|intro hc|exact om'|fail
 ·have hq:v6 p n=true:=by rcases hc with hc|hc<;>(simp only[v6,pkB,fwB,hc,Bool.true_or,q5U])
  rw[a2h hB z0C ha hq];exact⟨rfl,rfl⟩
 ·have hN:=hc;clear hc;refine lq' false [1,4,5,14,15] [2] [] (fun i:{k:Nat // k<=n/\(p.Decls.take k).any (fun x=>x.Name==(p.Decls.getD n default).Name)=false}=>[(6,slV (.i .i64 i.1))]) nl' nl' (fun i=>n-i.1) (⟨0,z0C,z0D⟩) ?_;intro S1 hS1 i;obtain⟨k,hk,hx⟩:=i;simp only[go_sem,hS0,hS1];repeat' first|apply cj'|intro hc|exact om'|fail
  ·have:((p.Decls.take n).any fun x=>x.Name==(p.Decls.getD n default).Name)=true:=by
    refine b2T (q:=fun x:e7=>x.Name==(p.Decls.getD n default).Name) (i:=k) default z07 ?_;have e:(p.Decls.take n).getD k default=p.Decls.getD k default:=by
     simp only[W5,q4X];rw[if_pos z0C]
    rw[e];exact hc
   have hq:v6 p n=true:=by rw[v6,this,q5U]
   rw[a2h hB z0C ha hq];exact⟨rfl,rfl⟩
  ·exact nx1 ⟨k+1,z0C,t7 (p:=fun x:e7=>x.Name==(p.Decls.getD n default).Name) default z0C hx hc⟩
  ·have e:k=n:=by omega
   subst e;have hq:v6 p k=false:=by rw[v6,hx];simp only[pkB,fwB,hN,q5N]
   exact nx1 ⟨k+1,z0C,b4h ha hq⟩
 have hd:∀j,j<p.Decls.length->v6 p j=false:=fun j hj=>ha j (by omega)
 clear hc ha;refine lq' false [1,48] [2] [] (fun i:{i:Nat // i<=p.Rules.length/\∀j,j<i->a0o p j=false}=>[(49,slV (.i .i64 i.1))]) nl' nl' (fun i=>p.Rules.length-i.1) (⟨0,z0C,z19⟩) ?_;intro S2 hS2 i;obtain⟨n,hn,ha⟩:=i;simp only[go_sem,hS0,hS2];repeat' first|apply cj'|intro hc|exact om'|fail
 ·exact⟨d1a hB z0C,hB⟩
 ·have hq:a0o p n=true:=by
   have:=b7f p (p.Rules.getD n default);rw[a0o,q0M,beq_eq_false_iff_ne];omega
  rw[a3Q hB hd z0C ha hq];exact⟨rfl,rfl⟩
 ·have hq:a0o p n=false:=by
   have:=b7f p (p.Rules.getD n default);rw[a0o,q0Q,beq_iff_eq];omega
  (refine lpK_n2 (⟨n+1,z0C,b4h ha hq⟩) _ rfl ?_;simp only[go_sem,hS0,hS2]<;>repeat' first|apply W6|exact on'|fail)
 ·rw[b1j hB hd (fun j hj=>ha j z0C)];exact⟨rfl,rfl⟩
noncomputable def a2F:CT:=j8 (fun(x:c6)=>b4b x)
@[go_sem] def c9I:=fun x0 x1=>nm' (fQ' a2F rfl ⟨x0,x1⟩)
def c9X(l:List α)(n:Nat):cut l 0 n=l.take n:=by unfold cut;simp
def b3H(p:c6):spZ 260 [(true,[m9 p.Decls,m7 p.Rules])] [] (.tup [(false,[.i .i64 ((n7 p).1)]),(false,[.i .i64 ((n7 p).2)])]):=by
 refine sy' Tryz.func260 (q' 1 [aX 2 0,aK 0,aK 0] (.seq (q' 9 [ae 2 1,ac 256 [9],aO 10] (ci 11 (q' 2 [aK 1,aK 0] .ret))) (.seq (q' 12 [aG 0 1,aN,aK 0] (fO 0 16 [ar 15 14] 16 1 (q' 17 [am 15,ai 3 13 15,aE 3,ax (w' 5 [.i .i64,.s,.i .i64]),av 4 17,aS 3 5 19] (q' 20 [aG 1 5,aY .eql 21 [112,97,99,107,101,116],am 22,aH 23 false [bf 1 5,bL,bY .eql 25 [102,111,114,119,97,114,100]],aQ 23 26,am 27,aH 28 false [bf 0 1,bL,bm 4,bo (.slc 3 (.t 30) none (some (.t 31)) none),bo (.mf 306 [.t 5]),bc 305 [32,33]],aQ 28 34] (ci 35 (q' 36 [am 4,az 2 2,aV 3] .ret)))) (g' 37 [aA 15]))) (.seq (q' 38 [aG 1 1,aN,aK 0] (fO 2 42 [ar 41 40] 42 3 (q' 43 [am 41,ai 4 39 41,aE 4,ax (w' 7 [.i .i64,.s,.sl j5,.sl b4A]),av 6 43,aS 4 7 45] (q' 46 [ae 2 1,ae 4 7,ac 307 [46,47],aV 8] (q' 49 [am 8,aC .neq 49 0] (ci 50 (q' 51 [aM [8,6],av 2 51,aV 3] .ret))))) (g' 53 [aA 41]))) (q' 2 [aK 0,aK 0] .ret))))) [.t 2,.t 3] [(256,[],a2Y),(305,[],b2V),(307,[],a7N)] ?_;intro hb hE;simp only[go_sem];repeat' first|apply cj'|intro hc|exact om'|fail
 ·rw[a3t hc];exact⟨rfl,rfl⟩
 have hB:y6 p=true:=hc;clear hc;refine lq' false [1,13,14] [2] [] (fun i:{i:Nat // i<=p.Decls.length/\∀j,j<i->v6 p j=false}=>[(15,slV (.i .i64 i.1))]) nl' nl' (fun i=>p.Decls.length-i.1) (⟨0,z0C,z19⟩) ?_;intro S0 hS0 i;obtain⟨n,hn,ha⟩:=i;simp only[go_sem,hS0];repeat' first|apply cj'|intro hc|exact om'|fail
 ·rw[c9X]at hc;have hq:v6 p n=true:=by rcases hc with(hc|hc)|hc<;>simp only[v6,pkB,fwB,hc,Bool.true_or,q5U]
  rw[a2h hB z0C ha hq];exact⟨rfl,rfl⟩
 ·rw[c9X]at hc;have hq:v6 p n=false:=by simp only[v6,pkB,fwB,hc,q5N]
  exact nx0 ⟨n+1,z0C,b4h ha hq⟩
 have hd:∀j,j<p.Decls.length->v6 p j=false:=fun j hj=>ha j (by omega)
 clear hc ha;refine lq' false [1,39,40] [2] [] (fun i:{i:Nat // i<=p.Rules.length/\∀j,j<i->a0o p j=false}=>[(41,slV (.i .i64 i.1))]) nl' nl' (fun i=>p.Rules.length-i.1) (⟨0,z0C,z19⟩) ?_;intro S1 hS1 i;obtain⟨n,hn,ha⟩:=i;simp only[go_sem,hS0,hS1];repeat' first|apply cj'|intro hc|exact om'|fail
 ·exact d1a hB (by omega)
 ·have hq:a0o p n=true:=by
   simp only[bne,q0M,beq_eq_false_iff_ne]at hc;rw[a0o,q0M,beq_eq_false_iff_ne];exact hc
  rw[a3Q hB hd z0C ha hq];exact⟨rfl,rfl⟩
 ·have hq:a0o p n=false:=by
   simp only[bne,q0Q,beq_iff_eq]at hc;rw[a0o,q0Q,beq_iff_eq];exact hc
  exact nx1 ⟨n+1,z0C,b4h ha hq⟩
 ·rw[b1j hB hd (fun j hj=>ha j z0C)];exact⟨rfl,rfl⟩
noncomputable def a5e:CT:=j8 (fun(x:c6)=>b3H x)
@[go_sem] def c9u:=fun x0 x1=>nm' (fQ' a5e rfl ⟨x0,x1⟩)
def bodyN(r:c8):List (List UInt8):=((v5 r).drop 1).map f7.Name
def e1v(p:c6)(a:List UInt8)(r:c8):Bool:=(r.Kind==1&&a0H p r.Head.Name==3)&&r.Head.Name==a
def a3W(p:c6)(a:List UInt8):List (List UInt8):=(p.Rules.filter (e1v p a)).flatMap bodyN
inductive Rch(p:c6)(a:List UInt8):List UInt8->Prop
 | one {b:List UInt8}:b∈a3W p a->Rch p a b
 | step {b c:List UInt8}:Rch p a b->c∈a3W p b->Rch p a c
def c5C(p:c6):List (List UInt8):=p.Rules.flatMap bodyN
def c2X{p:c6}{a b:List UInt8}(h:b∈a3W p a):b∈c5C p:=by
 obtain⟨r,hr,hb⟩:=q2W.1 h;exact q2W.2 ⟨r,(q1A.1 hr).1,hb⟩
def Rch.all{p:c6}{a b:List UInt8}(h:Rch p a b):b∈c5C p:=by
 cases h with
 | one h=>exact c2X h
 | step _ h=>exact c2X h
def Rch.mem{p:c6}{a:List UInt8}{l:List (List UInt8)}(h1:∀x∈a3W p a,x∈l)(h2:∀x∈l,∀y∈a3W p x,y∈l){b:List UInt8}(h:Rch p a b):b∈l:=by
 induction h with
 | one h=>exact h1 _ h
 | step _ h ih=>exact h2 _ ih _ h
open Classical in
noncomputable def reachS(p:c6)(a:List UInt8):List (List UInt8):=(m8 sLt [] (c5C p)).filter fun v=>decide (Rch p a v)
noncomputable def leans(p:c6)(a b:List UInt8):Bool:=(n7 p).1==0&&(reachS p a).contains b
def a6g(o l:List (List UInt8)):List (List UInt8):=l.foldl (fun o y=>if y∈o then o else o++[y]) o
def c0G:∀(l o:List (List UInt8)),∃s,a6g o l=o++s/\(∀x∈s,x∈l)
 | [],o=>⟨[],by simp[a6g],z0D⟩
 | y::l,o=>by
   by_cases h:y∈o
   ·obtain⟨s,e,hs⟩:=c0G l o;exact⟨s,by rw[<-e];simp[a6g,h],fun x hx=>q1W _ (hs x hx)⟩
   ·obtain⟨s,e,hs⟩:=c0G l (o++[y]);refine⟨y::s, ?_, ?_⟩
    ·have:a6g o (y::l)=a6g (o++[y]) l:=by simp[a6g,h]
     rw[this,e];simp
    ·intro x hx;rcases V9.1 hx with rfl|hx
     ·simp
     ·exact q1W _ (hs x hx)
def a6h{l o:List (List UInt8)}{x:List UInt8}:x∈a6g o l↔x∈o\/x∈l:=by
 induction l generalizing o with
 | nil=>simp[a6g]
 | cons y l ih=>
   have e:a6g o (y::l)=a6g (if y∈o then o else o++[y]) l:=rfl;rw[e,ih];by_cases h:y∈o
   ·simp only[h,if_true,V9];constructor
    ·rintro(h1|h1);exact .inl h1;exact .inr (.inr h1)
    ·rintro(h1|rfl|h1);exact .inl h1;exact .inl h;exact .inr h1
   ·rw[if_neg h,W9,q0A,V9,or_assoc]
def b1M:∀{l o:List (List UInt8)},o.Nodup->(a6g o l).Nodup
 | [],o,h=>h
 | y::l,o,h=>by
   have e:a6g o (y::l)=a6g (if y∈o then o else o++[y]) l:=rfl;rw[e];by_cases hy:y∈o
   ·rw[if_pos hy];exact b1M h
   ·rw[if_neg hy];refine b1M (q0N.2 ⟨h,z0D, ?_⟩);intro a ha b hb;rw[q0A]at hb;rintro rfl;exact hy (hb▸ha)
def univ(p:c6):Nat:=(c5C p).length
structure FInv(p:c6)(v:List UInt8)(k:Nat)(o n:List (List UInt8)):Prop where
 nd:o.Nodup
 un:∀x∈o,x∈c5C p
 ok:∀x∈o,Rch p v x
 nx:∀x∈n,x=v\/x∈o
 cl:∀x,x=v\/x∈o->x∈n\/∀y∈a3W p x,y∈o
 ms:n=[]\/k+2*(univ p-o.length)+n.length<=2*univ p+1
def c6g{α:Type}[DecidableEq α]:∀{l m:List α},l.Nodup->(∀x∈l,x∈m)->l.length<=m.length
 | [],_,_,_=>q2H _
 | x::l,m,h,hm=>by
   rw[q1I]at h;have h1:=c6g (l:=l) (m:=m.erase x) h.2 fun y hy=>(List.mem_erase_of_ne (fun e=>h.1 (by rw[<-e];exact hy))).2 (hm y z0V)
   have h2:=List.length_erase_of_mem (hm x z0D);have h3:0<m.length:=List.length_pos_of_mem (hm x z0D);simp only[V7];omega
def FInv.start(p:c6)(v:List UInt8):FInv p v 0 [] [v]:=
 ⟨q1B,z0D,z0D,z0D,fun x hx=>.inl z2E,.inr z0D⟩
def FInv.step{p:c6}{o r:List (List UInt8)}{x:List UInt8}(h:FInv p v k o (x::r)):FInv p v (k+1) (a6g o (a3W p x)) (r++(a6g o (a3W p x)).drop o.length):=by
 obtain⟨s,e,hs⟩:=c0G (a3W p x) o;have hd:(a6g o (a3W p x)).drop o.length=s:=by rw[e];simp
 have hx:x=v\/Rch p v x:=(h.nx x z0D).imp id (h.ok x);have hR:∀y∈a3W p x,Rch p v y:=fun y hy=>by
  rcases hx with rfl|hx
  ·exact .one hy
  ·exact .step hx hy
 have hun:∀y∈a6g o (a3W p x),y∈c5C p:=fun y hy=>(a6h.1 hy).elim (h.un y) c2X
 have hnd:=b1M (l:=a3W p x) h.nd;refine⟨hnd,hun,fun y hy=>(a6h.1 hy).elim (h.ok y) (hR y), ?_, ?_, ?_⟩
 ·intro y hy;rw[hd]at hy;rcases W9.1 hy with hy|hy
  ·exact(h.nx y z0V).imp id fun hy=>a6h.2 (.inl hy)
  ·exact .inr (a6h.2 (.inr (hs y hy)))
 ·intro y hy;rw[hd];have old:y=v\/y∈o->y∈r++s\/∀z∈a3W p y,z∈a6g o (a3W p x):=by
   intro hy;rcases h.cl y hy with h1|h1
   ·rcases V9.1 h1 with rfl|h1
    ·exact .inr fun z hz=>a6h.2 (.inr hz)
    ·exact .inl (W9.2 (.inl h1))
   ·exact .inr fun z hz=>a6h.2 (.inl (h1 z hz))
  rcases hy with hy|hy
  ·exact old (.inl hy)
  ·rw[e]at hy;rcases W9.1 hy with hy|hy
   ·exact old (.inr hy)
   ·exact .inl (W9.2 (.inr hy))
 ·right;have h1:=c6g hnd hun;have h2:(a6g o (a3W p x)).length=o.length+s.length:=by rw[e,V5]
  have h3:=h.ms.resolve_left z0D;rw[hd];simp only[V7,V5,univ]at h1 h3 ⊢;omega
def c9o{p:c6}(h:y6 p=true)(hi:i<p.Rules.length):(p.Rules.getD i default).Body.length<=8:=d0m h (A3w hi)
def nextF(p:c6)(a:List UInt8)(n:Nat):List (List UInt8):=((p.Rules.take n).filter (e1v p a)).flatMap bodyN
@[go_sem] def nextF_zero(p:c6)(a:List UInt8):nextF p a 0=[]:=rfl
@[go_sem] def putsN_nil(l:List (List UInt8)):m8 sLt l []=l:=rfl
@[go_sem] def addL_nil(o:List (List UInt8)):a6g o []=o:=rfl
def a0X{p:c6}(h:((n7 p).1==0)=true):y6 p=true:=by
 cases hB:y6 p with
 | true=>rfl
 | false=>rw[a3t hB]at h;simp at h
def b3R(p:c6)(r:c8):spZ 252 [(true,[m9 p.Decls,m7 p.Rules]),(true,[.i .i64 r.Kind,.s r.Head.Name,l8 r.Head.Args,a0g r.Body])] [] (.one (false,[.b (r.Kind==1&&a0H p r.Head.Name==3)])):=by
 refine sy' Tryz.func252 (q' 2 [aX 2 0,aX 4 1,aU false] (q' 5 [aG 0 3,aC .eql 6 1,am 7,aH 8 true [be 2 2,bf 1 3,bF 0,bL,bc 143 [9,12],bC .eql 13 3],aP 8 14,aV 4] .ret)) [.t 4] [(143,[],a0V)] ?_;intro hb hE;simp only[go_sem];repeat' first|apply cj'|intro hc|exact om'|fail
 all_goals(first|rfl|(rw[hc];rfl))
noncomputable def a2D:CT:=j8 (fun(x:c6×c8)=>b3R x.1 x.2)
@[go_sem] def c9A:=fun x0 x1 x2 x3 x4 x5=>nm' (fQ' a2D rfl (⟨x0,x1⟩,⟨x2,⟨x3,x4⟩,x5⟩))
def b3T(p:c6):spZ 201 [(true,[m9 p.Decls,m7 p.Rules])] [] (.one (false,[.b ((n7 p).1==0)])):=by
 refine sy' Tryz.func201 (q' 1 [aX 2 0,aU false] (q' 6 [ae 2 1,ac 260 [6],aV 5,aZ 5 0,aZ 5 1,av 3 8,aV 4] (q' 10 [am 3,aC .eql 10 0,aV 2] .ret))) [.t 2] [(260,[],a5e)] ?_;intro hb hE;simp only[go_sem];repeat' first|apply cj'|intro hc|exact om'|fail
 all_goals(first|rfl)
noncomputable def a2E:CT:=j8 (fun(x:c6)=>b3T x)
@[go_sem] def c9B:=fun x0 x1=>nm' (fQ' a2E rfl ⟨x0,x1⟩)
@[go_sem] def e2a(l o:List (List UInt8)):l++List.drop o.length o=l:=z0D
def b0h(q:Nat->Bool):∀n,(∀j,j<n->q j=false)\/∃i,i<n/\(∀j,j<i->q j=false)/\q i=true
 | 0=>.inl fun j hj=>by omega
 | n+1=>by
   rcases b0h q n with h|⟨i,hi,h1,h2⟩
   ·cases hq:q n with
    | true=>exact .inr ⟨n,z0C,h,hq⟩
    | false=>exact .inl (b4h h hq)
   ·exact .inr ⟨i,z0C,h1,h2⟩
def a4V{p:c6}(h:(n7 p).1=0):y6 p=true/\(∀j,j<p.Decls.length->v6 p j=false)/\∀j,j<p.Rules.length->a0o p j=false:=by
 cases hB:y6 p with
 | false=>rw[a3t hB]at h;simp at h
 | true=>
   rcases b0h (v6 p) p.Decls.length with hd|⟨i,hi,h1,h2⟩
   ·rcases b0h (a0o p) p.Rules.length with hr|⟨i,hi,h1,h2⟩
    ·exact⟨rfl,hd,hr⟩
    ·rw[a3Q hB hd hi h1 h2]at h;simp only at h;rw[a0o,h]at h2;simp at h2
   ·rw[a2h hB hi h1 h2]at h;simp at h
def a7A{p:c6}(hd:∀j,j<p.Decls.length->v6 p j=false){j:Nat}(hi:i<p.Decls.length)(hj:j<i):(p.Decls.getD j default).Name≠(p.Decls.getD i default).Name:=by
 have h:=hd i hi;simp only[v6,q0U,q2R]at h;intro e;refine h.2 (p.Decls.getD j default) ?_ z2H;rw[j7 default z0C];exact q2V.2 ⟨j,z0C,rfl⟩
def vwN(p:c6):List (List UInt8):=(p.Decls.filter fun d=>d.Kind==3).map e7.Name
def vwS(p:c6):List (List UInt8):=m8 sLt [] (vwN p)
def vwS_SS(p:c6):SS sLt (vwS p):=SS.puts o0 SS.nil
def b6I(p:c6):(vwS p).Nodup:=(vwS_SS p).nodup o0
def d6h{p:c6}:v∈vwS p↔∃d∈p.Decls,d.Kind=3/\d.Name=v:=by
 rw[vwS,o8,vwN];simp only[q4R,false_or,q0X,q1A,beq_iff_eq,and_assoc]
def a2s{p:c6}(hd:∀j,j<p.Decls.length->v6 p j=false):a0H p v=3↔v∈vwS p:=by
 rw[d6h];constructor
 ·intro h;have hs:a0z p v=true:=by
   cases hs:a0z p v with
   | true=>rfl
   | false=>rw[a0H,(b0c hs).1]at h;exact absurd h (by decide)
  obtain⟨x,hx,hp,e⟩:=b3z hs;rw[a0H,a0G,e]at h;exact⟨x,hx,h,by simpa using hp⟩
 ·rintro⟨d,hm,hk,rfl⟩;obtain⟨i,hi,rfl⟩:=q1H hm;have e:p.Decls.getD i default=p.Decls[i]:=j7 default hi;have ha:((p.Decls.take i).any fun d=>d.Name==(p.Decls[i]).Name)=false:=by
   rw[q2R];intro x hx;obtain⟨j,hj,rfl⟩:=q2V.1 hx;have h1:=a7A hd hi (j:=j) z0C;rw[e,j7 default z0C]at h1;simpa using h1
  rw[a0H,(b0b hi ha (by rw[e];simp)).1,e];exact hk
def c1x{p:c6}(hr:∀j,j<p.Rules.length->a0o p j=false)(hi:i<p.Rules.length)(hk:a0H p (p.Rules.getD i default).Head.Name=3):(p.Rules.getD i default).Kind=1:=by
 have h:z7 p (p.Rules.getD i default)=0:=by
  have h:=hr i hi;rw[a0o,q0Q,beq_iff_eq]at h;exact h
 generalize p.Rules.getD i default=r at h hk ⊢;refine Classical.byContradiction fun hne=>?_
 have hb:a5u p r=true:=by rw[a5u,show(r.Kind==1)=false from beq_eq_false_iff_ne.2 hne,V2,hk];rfl
 unfold z7 at h;rw[hb]at h;cases h1:(v5 r).any (a5d p)<;>rw[h1]at h<;>cases h2:(v5 r).any (a4o p)<;>rw[h2]at h<;>simp at h
abbrev Lev:=List UInt8->Int
def lvl(p:c6)(g:Lev):List d9:=(vwS p).map fun v=>⟨v,g v⟩
def upd(g:Lev)(v:List UInt8)(n:Int):Lev:=fun x=>if x=v then n else g x
def a9S(l:d7):Int:=if l.Kind=2 then 1 else 0
def a3B(p:c6)(g:Lev)(h:List UInt8)(l:d7):Prop:=l.Kind≠3->l.Atom.Name∈vwS p->g l.Atom.Name+a9S l<=g h
def a0Q(p:c6)(g:Lev)(r:c8):Prop:=r.Head.Name∈vwS p->∀l∈r.Body,a3B p g r.Head.Name l
def Fx(p:c6)(g:Lev):Prop:=∀r∈p.Rules,a0Q p g r
structure Low(p:c6)(g:Lev):Prop where
 ge:∀v,0<=g v
 mn:∀F,Fx p F->(∀v,0<=F v)->∀v∈vwS p,g v<=F v
structure Least(p:c6)(g:Lev):Prop where
 fx:Fx p g
 low:Low p g
 le:∀v∈vwS p,g v<=(vwS p).length
open Classical in
noncomputable def i9(p:c6):List d9×Bool:=bif (n7 p).1==0 then(if h:∃g,Least p g then(lvl p h.choose,true)else([],false))else([],false)
variable{g:Lev}
def d8y{p:c6}{g':Lev}(h:∀v∈vwS p,g v=g' v):lvl p g=lvl p g':=q3H fun v hv=>by rw[h v hv]
def c2P{p:c6}(h:((n7 p).1==0)=true)(hg:Least p g):i9 p=(lvl p g,true):=by
 have hx:∃g,Least p g:=⟨g,hg⟩
 rw[i9,h,W8,dif_pos hx];have h2:=hx.choose_spec;refine congrArg (·,true) (d8y fun v hv=>Int.le_antisymm ?_ ?_)
 ·exact h2.low.mn g hg.fx hg.low.ge v hv
 ·exact hg.low.mn _ h2.fx h2.low.ge v hv
def c6b{p:c6}(hg:Low p g)(hv:v∈vwS p)(hn:((vwS p).length:Int)<g v):i9 p=([],false):=by
 rw[i9];cases(n7 p).1==0 with
 | false=>rfl
 | true=>
   rw[W8,dif_neg];rintro⟨F,hF⟩;have h1:=hg.mn F hF.fx hF.low.ge v hv;have h2:=hF.le v hv;omega
def Low.zero(p:c6):Low p fun _=>0:=⟨fun _=>Int.le_refl _,fun F _ h v _=>h v⟩
def Low.up{p:c6}(h:Low p g){r:c8}(hr:r∈p.Rules)(hh:r.Head.Name∈vwS p){l:d7}(hl:l∈r.Body)(hk:l.Kind≠3)(hb:l.Atom.Name∈vwS p):Low p (upd g r.Head.Name (g l.Atom.Name+a9S l)):=by
 have hn:0<=a9S l:=by unfold a9S;split<;>omega
 refine⟨fun v=>?_,fun F hF hF0 v hv=>?_⟩
 ·unfold upd;split
  ·have:=h.ge l.Atom.Name;omega
  ·exact h.ge v
 ·unfold upd;split
  ·rename_i e;subst e;have h1:=hF r hr hh l hl hk hb;have h2:=h.mn F hF hF0 _ hb;omega
  ·exact h.mn F hF hF0 v hv
def a3C(p:c6)(g:Lev):Nat:=j4 (fun v=>((vwS p).length+400-g v).toNat) (vwS p)
def d6p{α:Type}[DecidableEq α]{f f':α->Nat}{x:α}:∀{l:List α},l.Nodup->x∈l->(∀y,y≠x->f' y=f y)->f' x<f x->j4 f' l<j4 f l
 | [],_,hx,_,_=>by simp at hx
 | y::l,hn,hx,h1,h2=>by
   rw[q1I]at hn;simp only[j4];by_cases e:y=x
   ·subst e;have:∀{m:List α},¬y∈m->j4 f' m=j4 f m:=by
     intro m
     induction m with
     | nil=>intro _;rfl
     | cons z m ih=>
       intro hm;simp only[V9,not_or]at hm;simp only[j4,h1 z (fun e=>hm.1 e.symm),ih hm.2]
    rw[this hn.1];omega
   ·have hx':x∈l:=by
     rcases V9.1 hx with h|h
     ·exact absurd h.symm e
     ·exact h
    have:=d6p hn.2 hx' h1 h2;rw[h1 y e];omega
def lsum_lt{p:c6}{g:Lev}{n:Int}(hv:v∈vwS p)(h:g v<n)(hn:g v<(vwS p).length+400):a3C p (upd g v n)<a3C p g:=by
 refine d6p (b6I p) hv (fun y hy=>by simp[upd,hy]) ?_;simp only[upd,if_true];omega
def a7z(p:c6)(g:Lev):(lvl p g).length=(vwS p).length:=by simp[lvl]
def d0N(p:c6)(g:Lev)(h:i<(vwS p).length):(lvl p g).getD i default=⟨(vwS p).getD i [],g ((vwS p).getD i [])⟩:=by
 rw[j7 _ (by rw[a7z];exact h),j7 _ h];simp[lvl]
def d6f(p:c6)(g:Lev)(h:i<(vwS p).length)(n:Int):(lvl p g).set i ⟨(vwS p).getD i [],n⟩=lvl p (upd g ((vwS p).getD i []) n):=by
 have e0:(vwS p).getD i []=(vwS p)[i]:=j7 [] h;rw[e0];apply q4P
 ·simp[lvl]
 ·intro j h1 h2;have hj:j<(vwS p).length:=by simpa[lvl]using h2
  rw[List.getElem_set];split
  ·rename_i e;subst e;simp[lvl,upd]
  ·rename_i e;have hne:(vwS p)[j]≠(vwS p)[i]:=fun h3=>e ((List.getElem_inj (b6I p)).1 h3).symm
   simp[lvl,upd,hne]
end Go.Aw
namespace Go.Aw
set_option maxHeartbeats 4000000
open Go.Proofs Go.Shelf Go.RowKit Go.Sort
attribute [local irreducible] aft blk lpK retK AW A0d
set_option linter.all false
set_option maxRecDepth 100000
def c5Q(x y:d9):Int:=Lib.compareBytes x.Name y.Name
def c5S(x:d9):List Value:=[encStr x.Name,.int .i64 x.N]
def c8t(a:List d9):List d9:=(pdq (ltOf c5Q) a.toArray 0 a.length (Lib.bitLen a.length) true true).toList
def b4g(x y:d9):ltOf c5Q x y=sLt x.Name y.Name:=e0G x.Name y.Name
def c5R:SWO (ltOf c5Q) where
 irrefl x:=by rw[b4g];exact a1r _
 trans x y z h1 h2:=by rw[b4g]at*;exact a2d _ _ _ h1 h2
 ntrans x y z h1 h2:=by
  rw[b4g]at*;cases h:sLt x.Name z.Name with
  | false=>rfl
  | true=>
    cases h3:sLt y.Name x.Name with
    | true=>
      have h4:sLt y.Name z.Name=true:=a2d _ _ _ h3 h;rw[h4]at h2;exact h2
    | false=>
      have e:=a3l _ _ h1 h3;rw[e,h2]at h;exact h.symm
def d1f{l:List (List UInt8)}(hn:l.Nodup):c8t (l.map fun v=>⟨v,0⟩)=(m8 sLt [] l).map fun v=>⟨v,0⟩:=by
 have hp:=pdq_sorts (ltOf c5Q) c5R (l.map fun v=>(⟨v,0⟩:d9)).toArray 0 (l.map fun v=>(⟨v,0⟩:d9)).length (Lib.bitLen (l.map fun v=>(⟨v,0⟩:d9)).length) true true (q2H _) z0D (Or.inl rfl);rw[c8t];generalize pdq (ltOf c5Q) (l.map fun v=>(⟨v,0⟩:d9)).toArray 0 (l.map fun v=>(⟨v,0⟩:d9)).length (Lib.bitLen (l.map fun v=>(⟨v,0⟩:d9)).length) true true=D at hp ⊢;have hDs:D.size=(l.map fun v=>(⟨v,0⟩:d9)).length:=by have:=hp.1.1;simpa using this
 have hperm:D.toList.Perm (l.map fun v=>(⟨v,0⟩:d9)):=by
  have:=hp.1.2.2;simp only[Array.toList_extract]at this;have e1:(D.toList.extract 0 (l.map fun v=>(⟨v,0⟩:d9)).length)=D.toList:=by simp only[List.extract,q6B,q0P,<-hDs];exact q0Y (by simp)
  have e2:((l.map fun v=>(⟨v,0⟩:d9)).toArray.toList.extract 0 (l.map fun v=>(⟨v,0⟩:d9)).length)=(l.map fun v=>(⟨v,0⟩:d9)):=by simp only[List.extract,q6B,q0P];exact q0Y (by simp)
  rw[e1,e2]at this;exact this
 have hnames:(D.toList.map d9.Name).Perm l:=by
  have:=hperm.map d9.Name;simpa[Function.comp_def]using this
 have hsorted:(D.toList.map d9.Name).Pairwise fun a b=>sLt b a=false:=by
  rw[q2N];intro i j hi hj hij;have hi':i<D.size:=by simpa using hi
  have hj':j<D.size:=by simpa using hj
  have:=hp.2 i j (q2H _) hij (by rw[<-hDs];exact hj');rw[b4g,getElem!_pos D i hi',getElem!_pos D j hj']at this;simpa using this
 have hSS:SS sLt (D.toList.map d9.Name):=SS.of_sorted o0 hsorted (hnames.nodup_iff.2 hn);have he:D.toList.map d9.Name=m8 sLt [] l:=SS.uniq o0 hSS (SS.puts o0 SS.nil) fun x=>by rw[hnames.mem_iff,o8];simp
 have hz:∀x∈D.toList,x.N=0:=fun x hx=>by
  obtain⟨v,_,rfl⟩:=q0X.1 (hperm.mem_iff.1 hx);rfl
 rw[<-he,q4L];refine(List.map_id _).symm.trans (q3H fun x hx=>?_);have:=hz x hx;cases x;simp only at this;subst this;rfl
def d6o{F:Nat->Prop}{w:World}:∀{l:List d9} {vs:List Value} {fp:List Nat},C.RdRows F w (l.map d9.cells) vs fp->vs=l.flatMap c5S/\fp=[]/\∀n,n∈l->n.Name.length<=maxLen/\IntKind.i64.min<=n.N/\n.N<=IntKind.i64.max
 | [],vs,fp,h=>by
   unfold List.map C.RdRows at h;exact⟨h.1,h.2,z0D⟩
 | n::l,vs,fp,h=>by
   rw[q0E]at h;unfold C.RdRows at h;obtain⟨v1,v2,f1,f2,rfl,rfl,h1,h2⟩:=h;obtain⟨rfl,rfl,h3⟩:=d6o h2;unfold d9.cells C.RdVals at h1;obtain⟨v,vs',g1,g2,rfl,rfl,k1,k2⟩:=h1;unfold C.RdVals at k2;obtain⟨u,us',g3,g4,rfl,rfl,k3,k4⟩:=k2;unfold C.RdVals at k4;obtain⟨rfl,rfl⟩:=k4;unfold C.Rd at k1 k3;obtain⟨rfl,q1,rfl⟩:=k1;obtain⟨rfl,q3,rfl⟩:=k3;refine⟨rfl,rfl,fun m hm=>?_⟩;rcases V9.1 hm with rfl|hm
   ·exact⟨q1,q3⟩
   ·exact h3 m hm
def d6e{F:Nat->Prop}{w:World}:∀{l:List d9},(∀n,n∈l->n.Name.length<=maxLen/\IntKind.i64.min<=n.N/\n.N<=IntKind.i64.max)->C.RdRows F w (l.map d9.cells) (l.flatMap c5S) []
 | [],h=>by unfold List.map C.RdRows;exact⟨rfl,rfl⟩
 | n::l,h=>by
   rw[q0E,q2B];unfold C.RdRows;refine⟨c5S n,_,[],[],rfl,rfl, ?_,d6e fun m hm=>h m (by simp[hm])⟩;have hn:=h n z0D;unfold d9.cells c5S C.RdVals;refine⟨_,_,[],[],rfl,rfl, ?_, ?_⟩
   ·unfold C.Rd;exact⟨rfl,hn.1,rfl⟩
   ·unfold C.RdVals;refine⟨_,[],[],[],rfl,rfl, ?_, ?_⟩
    ·unfold C.Rd;exact⟨rfl,hn.2,rfl⟩
    ·unfold C.RdVals;exact⟨rfl,rfl⟩
def d3I(a b:ByteArray)(w:World):Calls Tryz.prog 251 #[.string a,.string b] w fun e w'=>e=.returned (.int .i64 (Lib.compareBytes a.data.toList b.data.toList))/\w'=w:=by
 have HC:∀w,Aside (Calls Tryz.prog 295 #[.string a,.string b] w fun e w'=>e=.returned (.int .i64 (Lib.compareBytes a.data.toList b.data.toList))/\w'=w):=fun w=>c5P a b w
 generalize Lib.compareBytes a.data.toList b.data.toList=r at HC ⊢
 go_enter Tryz.func251,Tryz.ntmps251
 go_wp2_with (go_at_call 295;refine(HC _).out.mono ?_;rintro e w' ⟨rfl,rfl⟩)
 go_ret
 exact⟨rfl,rfl⟩
def d8x(a b:ByteArray)(m n:Int)(W:World):Calls Tryz.prog 250 #[.agg #[.string a,.int .i64 m],.agg #[.string b,.int .i64 n]] W fun e w'=>e=.returned (.int .i64 (Lib.compareBytes a.data.toList b.data.toList))/\∃q os',w'=grow (W.drewN q) os':=by
 have HC:∀w,Aside (Calls Tryz.prog 251 #[.string a,.string b] w fun e w'=>e=.returned (.int .i64 (Lib.compareBytes a.data.toList b.data.toList))/\w'=w):=fun w=>d3I a b w
 generalize Lib.compareBytes a.data.toList b.data.toList=r at HC ⊢
 go_enter Tryz.func250,Tryz.ntmps250
 go_wp2_with (go_at_call 251;refine(HC _).out.mono ?_;rintro e w' ⟨rfl,rfl⟩)
 go_ret
 exact⟨rfl,0,_,by rw[alloc_eq_grow,alloc_eq_grow,grow_grow];exact rfl⟩
def d8r(a:List d9)(hpre:a.length<4611686018427387904):spZ 249 [(false,[.sl true [.s [],.i .i64 0] (a.map d9.cells)]),(false,[.f 250 []])] [(0,(false,[.sl true [.s [],.i .i64 0] ((c8t a).map d9.cells)]))] (.tup []):=by
 exact d8K Tryz.sortLev z0K (k:=2) (fun w=>rfl) (fun w=>rfl) (enc:=c5S) (cf:=d9.cells) rfl (fun _=>rfl) (fun _=>rfl) (fun x v hv=>by simp only[c5S,V9,q4R,or_false]at hv;rcases hv with rfl|rfl<;>rfl) (fun _ _ _ _ _ h=>d6o h) (fun _ _ _ h=>d6e h) c5Q c5R (enters_of Tryz.func250 z0K rfl) (fun W x y=>d8x ⟨x.Name.toArray⟩ ⟨y.Name.toArray⟩ x.N y.N W) a hpre
noncomputable def c5N:CT:=k8 (fun(x:(List d9)) h=>d8r x h)
@[go_sem] def e2p:=fun a=>nm' (fP' c5N rfl a)
end Go.Aw
namespace Go.Aw
set_option maxHeartbeats 4000000
open Go.Proofs
attribute [local irreducible] aft blk lpK retK AW A0d
set_option linter.all false
set_option maxRecDepth 100000
def a1S(n:List UInt8)(v:c9)(q:List c9×Bool)(x:c9):List c9×Bool:=((bif !q.2&&!sLt x.Name n then q.1++[v]else q.1)++(bif x.Name==n then[]else[x]),q.2||!sLt x.Name n)
def a6O(n:List UInt8)(v:c9)(l:List c9):List c9×Bool:=l.foldl (a1S n v) ([],false)
def a2e(l:List c9)(n:List UInt8)(v:c9):List c9:=bif (a6O n v l).2 then(a6O n v l).1 else(a6O n v l).1++[v]
def a1z(n:List UInt8)(v:c9){l:List c9}{i:Nat}(h:i<l.length):a6O n v (l.take (i+1))=a1S n v (a6O n v (l.take i)) (l.getD i default):=by
 rw[j3 default h,a6O,q3A];rfl
def d5T(n:List UInt8)(v:c9):∀(A q:List c9),(∀x∈A,sLt x.Name n=true)->A.foldl (a1S n v) (q,false)=(q++A,false)
 | [],q,_=>by simp
 | x::A,q,h=>by
   have hx:=h x z0D;have hne:(x.Name==n)=false:=beq_eq_false_iff_ne.2 (o0.ne hx);rw[q2D,a1S,hx,hne];have:=d5T n v A (q++[x]) fun y hy=>h y (by simp[hy])
   simpa using this
def b5F(n:List UInt8)(v:c9):∀(B q:List c9),B.foldl (a1S n v) (q,true)=(q++B.filter fun x=>!(x.Name==n),true)
 | [],q=>by simp
 | x::B,q=>by
   rw[q2D,a1S];cases h:(x.Name==n)with
   | true=>
     have:=b5F n v B q;simpa[h]using this
   | false=>
     have:=b5F n v B (q++[x]);simpa[h]using this
def c8w{α:Type}{q:α->Bool}:∀{l:List α} {x:α},x∈l.takeWhile q->q x=true
 | [],x,h=>by simp at h
 | a::l,x,h=>by
   rw[q2G]at h;split at h
   ·rename_i ha;rcases V9.1 h with rfl|h
    ·exact ha
    ·exact c8w h
   ·simp at h
def a7D(l:List c9)(n:List UInt8)(v:c9):a2e l n v=l.takeWhile (fun x=>sLt x.Name n)++v::(l.dropWhile fun x=>sLt x.Name n).filter fun x=>!(x.Name==n):=by
 have e:a6O n v l=(l.dropWhile fun x=>sLt x.Name n).foldl (a1S n v) (l.takeWhile (fun x=>sLt x.Name n),false):=by
  have h0:=d5T n v (l.takeWhile fun x=>sLt x.Name n) [] fun x hx=>c8w (q:=fun x:c9=>sLt x.Name n) hx
  rw[q1O]at h0;rw[<-h0,<-q3A,q1Q];rfl
 rw[a2e,e];cases hB:l.dropWhile fun x=>sLt x.Name n with
 | nil=>simp
 | cons b B=>
   have hb:=a1y hB;rw[q2D,a1S,hb];simp only[q3M,q1Y,W8,q5U];rw[b5F];cases hn:(b.Name==n)with
   | true=>simp[hn]
   | false=>simp[hn]
def c3k{l:List c9}(hs:SS sLt (l.map c9.Name))(n:List UInt8)(r:d8):(a2e l n ⟨n,r⟩).map c9.Name=a1f sLt (l.map c9.Name) n:=by
 have hsplit:l=l.takeWhile (fun x=>sLt x.Name n)++l.dropWhile (fun x=>sLt x.Name n):=q1Q.symm;have hA:∀x∈l.takeWhile (fun x=>sLt x.Name n),sLt x.Name n=true:=fun x hx=>c8w (q:=fun x:c9=>sLt x.Name n) hx
 have hBn:∀x∈l.dropWhile (fun x=>sLt x.Name n),sLt x.Name n=false:=by
  cases hB:l.dropWhile fun x=>sLt x.Name n with
  | nil=>intro x hx;simp at hx
  | cons b B=>
    have hb:=a1y hB;intro x hx;rcases V9.1 hx with rfl|hx
    ·exact hb
    ·have hp:(l.dropWhile fun x=>sLt x.Name n).Pairwise fun a b=>sLt a.Name b.Name=true:=by
      have:=q3R.1 hs;rw[hsplit]at this;exact(q5H.1 this).2.1
     rw[hB]at hp;have h1:=(q3Y.1 hp).1 x hx;cases h2:sLt x.Name n with
     | false=>rfl
     | true=>
       have h3:sLt b.Name n=true:=a2d _ _ _ h1 h2;rw[h3]at hb;exact hb
 refine SS.uniq o0 ?_ (SS.put o0 hs n) fun x=>?_
 ·rw[a7D];show SS sLt _;rw[SS,q3R];have hp:=q3R.1 hs;rw[hsplit]at hp;obtain⟨p1,p2,p3⟩:=q5H.1 hp;have hgt:∀x∈(l.dropWhile fun x=>sLt x.Name n).filter (fun x=>!(x.Name==n)),sLt n x.Name=true:=fun x hx=>by
   obtain⟨h1,h2⟩:=q1A.1 hx;have h3:=hBn x h1;cases h4:sLt n x.Name with
   | true=>rfl
   | false=>
     have h5:=a3l _ _ h3 h4;rw[h5]at h2;simp at h2
  refine q5H.2 ⟨p1,q3Y.2 ⟨hgt,p2.filter _⟩,fun a ha b hb=>?_⟩;rcases V9.1 hb with rfl|hb
  ·exact hA a ha
  ·exact a2d _ _ _ (hA a ha) (hgt b hb)
 ·rw[b4j,a7D];simp only[q1F,q0E,W9,V9,q0X,q1A];constructor
  ·rintro(⟨y,hy,rfl⟩|rfl|⟨y,⟨hy,_⟩,rfl⟩)
   ·exact .inr ⟨y,by rw[hsplit];exact W9.2 (.inl hy),rfl⟩
   ·exact .inl rfl
   ·exact .inr ⟨y,by rw[hsplit];exact W9.2 (.inr hy),rfl⟩
  ·rintro(rfl|⟨y,hy,rfl⟩)
   ·exact .inr (.inl rfl)
   ·rw[hsplit]at hy;rcases W9.1 hy with hy|hy
    ·exact .inl ⟨y,hy,rfl⟩
    ·by_cases e:y.Name=n
     ·exact .inr (.inl e)
     ·exact .inr (.inr ⟨y,⟨hy,z2H⟩,rfl⟩)
def a9Q{l:List c9}{n:List UInt8}{v x:c9}(h:x∈a2e l n v):x=v\/x∈l:=by
 rw[a7D]at h;rcases W9.1 h with h|h
 ·exact .inr (List.takeWhile_sublist _ |>.mem h)
 ·rcases V9.1 h with h|h
  ·exact .inl h
  ·exact .inr (List.dropWhile_sublist _ |>.mem (q1A.1 h).1)
def a0h(l:List e7):List c9:=l.foldl (fun s d=>a2e s d.Name ⟨d.Name,⟨d.Arity,[]⟩⟩) []
def a7u:∀l:List e7,(a0h l).map c9.Name=m8 sLt [] (l.map e7.Name):=by
 intro l;have gen:∀(l:List e7) (s:List c9),SS sLt (s.map c9.Name)->(l.foldl (fun s d=>a2e s d.Name ⟨d.Name,⟨d.Arity,[]⟩⟩) s).map c9.Name=m8 sLt (s.map c9.Name) (l.map e7.Name):=by
  intro l
  induction l with
  | nil=>intro s _;rfl
  | cons d l ih=>
    intro s hs;have e:=c3k hs d.Name ⟨d.Arity,[]⟩;have hs2:SS sLt ((a2e s d.Name ⟨d.Name,⟨d.Arity,[]⟩⟩).map c9.Name):=by rw[e];exact SS.put o0 hs _
    rw[q2D,ih _ hs2,e];rfl
 exact gen l [] SS.nil
def d0a:∀l:List e7,∀x∈a0h l,x.Rel.Rows=[]:=by
 intro l;have gen:∀(l:List e7) (s:List c9),(∀x∈s,x.Rel.Rows=[])->∀x∈l.foldl (fun s d=>a2e s d.Name ⟨d.Name,⟨d.Arity,[]⟩⟩) s,x.Rel.Rows=[]:=by
  intro l
  induction l with
  | nil=>intro s h;exact h
  | cons d l ih=>
    intro s h;rw[q2D];refine ih _ fun x hx=>?_
    rcases a9Q hx with rfl|hx
    ·rfl
    ·exact h x hx
 exact gen l [] z0D
def b1R(l:List e7):(a0h l).length<=l.length:=by
 have h:=congrArg List.length (a7u l);have h2:=a0M sLt (l.map e7.Name) [];simp only[q0F,q1Z]at h h2;omega
set_option maxHeartbeats 40000000
attribute [local irreducible] RM
@[go_sem] def a7H:ACode:=q' 1 [aX 2 0,aw [.i .i64,.sl i5]] (q' 5 [aG 0 1,ao (.bld [.i .i64,.sl i5] [(0,1,.t 6)]),ax (w'
 3 [.i .i64,.sl i5]),aS 2 3 7] (.seq (q' 8 [aG 1 1,aN,aK 0] (fO 0 12 [ar 11 10] 12 1 (q' 13 [am 11,aV 4] (rm' [(true,2,f' 16
 1 1),(true,3,l' 17 16),(true,4,m' 18 4),(true,5,i' 19 1 17 18),(true,6,e' 20 1 19),(false,0,f' 14 1 3),(false,1,l' 15 14),(false,7,c' 21
 177 [20]),(false,8,o' 22 (.bsl 1 1 [.sl l9] [(0,.t 21)])),(false,9,o' 23 (.app 1 24 [.sl l9] (.t 15) (.t 22))),(false,
 10,f' 24 1 3),(false,11,s' 1 24 23)] [[0,1,2,3,4,5,7,6,8,9,10,11],[0,1,2,3,4,5,7,8,6,9,10,11],[0,1,2,3,4,7,5,6,8,9,10,
 11],[0,1,2,3,4,7,5,8,6,9,10,11],[0,1,2,3,4,7,8,5,6,9,10,11]] [2,3])) (g' 25 [aA 11]))) (q' 26 [ae 2 3,aS 2 2 26] .ret)))
def b6m(a:Int):spZ 169 [(true,[.i .i64 a,.sl false i5 []])] [] (.one (true,[.i .i64 ((⟨a,[]⟩:d8).Arity),n9 ((⟨a,[]⟩:d8).Rows)])):=by
 refine sx' false true none Tryz.func169 a7H [.c 2 true 2] [] ?_;intro hb hE;simp only[go_sem];(repeat' first|apply cj'|intro hc|apply a0f);(all_goals(try((first|refine a0B 5 rfl ?_);intro S hS B0 hB;simp only[go_sem,K6]at hS hB;(repeat(first|replace hS:=And.right hS|replace hS:=CJ.r hS));have Rr1:=congrArg (fun s:St=>s.sl 1) hS;have Rr3:=congrArg (fun s:St=>s.sl 3) hS;have Rr4:=congrArg (fun s:St=>s.sl 4) hS;have Rb2:=congrArg (fun s:St=>s.bx 2) hS;have Rb3:=congrArg (fun s:St=>s.bx 3) hS;have Rb4:=congrArg (fun s:St=>s.bx 4) hS;have Rb6:=congrArg (fun s:St=>s.bx 6) hS;clear hS;simp only[go_sem]at Rr1 Rr3 Rr4 Rb2 Rb3 Rb4 Rb6;(try clear hc);intro K hc;simp only[go_sem,Rr1,Rr3,Rr4,Rb2,Rb3,Rb4,Rb6,hB,K3]at hc ⊢;simp only[go_sem,Rr1,Rr3,Rr4,Rb2,Rb3,Rb4,Rb6,hB,K0]at hc ⊢;(first|(simp only[hc,K5];done)|((repeat' first|exact hc|apply W6);done)))));all_goals try exact om'
 refine lq' false [1,2,3,10] [2,4,3] [] (fun i:Unit=>[(11,slV (.i .i64 0))]) (fun i=>[(6,[.c (.i .i64 a),.nl i5])]) nl' (fun i=>0) () ?_;intro S0 hS0 i;simp only[go_sem,hS0];(repeat' first|apply cj'|intro hc|apply a0f);(all_goals(try((first|refine a0B 5 rfl ?_);intro S hS B0 hB;simp only[go_sem,hS0,K6]at hS hB;(repeat(first|replace hS:=And.right hS|replace hS:=CJ.r hS));have Rr1:=congrArg (fun s:St=>s.sl 1) hS;have Rr3:=congrArg (fun s:St=>s.sl 3) hS;have Rr4:=congrArg (fun s:St=>s.sl 4) hS;have Rb2:=congrArg (fun s:St=>s.bx 2) hS;have Rb3:=congrArg (fun s:St=>s.bx 3) hS;have Rb4:=congrArg (fun s:St=>s.bx 4) hS;have Rb6:=congrArg (fun s:St=>s.bx 6) hS;clear hS;simp only[go_sem,hS0]at Rr1 Rr3 Rr4 Rb2 Rb3 Rb4 Rb6;(try clear hc);intro K hc;simp only[go_sem,hS0,Rr1,Rr3,Rr4,Rb2,Rb3,Rb4,Rb6,hB,K3]at hc ⊢;simp only[go_sem,hS0,Rr1,Rr3,Rr4,Rb2,Rb3,Rb4,Rb6,hB,K0]at hc ⊢;(first|(simp only[hc,K5];done)|((repeat' first|exact hc|apply W6);done)))));all_goals try exact om'
 all_goals first
  | (exfalso;simp at hc;done)
  | (exfalso;simp at*;done)
  | trace_state
noncomputable def a6I:CT:=j8 (fun(x:Int)=>b6m x)
@[go_sem] def d1T:=fun a=>nm' (fQ' a6I rfl a)
def d4i(n x:List UInt8):(Op.bytesLess n x||n==x)=!sLt x n:=by
 cases h1:Op.bytesLess n x with
 | true=>
   cases h2:sLt x n with
   | true=>have h3:=a2d _ _ _ h1 h2;rw[a1r]at h3;cases h3
   | false=>rfl
 | false=>
   cases h2:sLt x n with
   | true=>
     have:(n==x)=false:=beq_eq_false_iff_ne.2 fun e=>by subst e;have h3:sLt n n=false:=a1r n;rw[h3]at h2;cases h2
     rw[this];rfl
   | false=>rw[a3l _ _ h1 h2];simp
def b0o{n:List UInt8}{v x:c9}{q1:List c9}{q2:Bool}(h:q2=false/\(Op.bytesLess n x.Name=true\/(n==x.Name)=true)):a1S n v (q1,q2) x=(q1++[v]++(bif x.Name==n then[]else[x]),true):=by
 have h2:(!sLt x.Name n)=true:=by rw[<-d4i,q2Q];exact h.2
 rw[a1S,h.1,h2];rfl
def b4u{n:List UInt8}{v x:c9}{q1:List c9}{q2:Bool}(h:(!q2&&(Op.bytesLess n x.Name||n==x.Name))=false):a1S n v (q1,q2) x=(q1++(bif x.Name==n then[]else[x]),q2):=by
 rw[d4i]at h;rw[a1S,h,V2];cases q2 with
 | true=>rfl
 | false=>
   have h2:(!sLt x.Name n)=false:=by simpa using h
   rw[h2];rfl
def b5E(n:List UInt8)(v:c9):∀(l q:List c9) (b:Bool),(l.foldl (a1S n v) (q,b)).1.length<=q.length+2*l.length
 | [],q,b=>by simp
 | x::l,q,b=>by
   rw[q2D];have h:=b5E n v l (a1S n v (q,b) x).1 (a1S n v (q,b) x).2;have h2:(a1S n v (q,b) x).1.length<=q.length+2:=by
    simp only[a1S];cases !b&&!sLt x.Name n<;>cases x.Name==n<;>simp<;>omega
   have e:((a1S n v (q,b) x).1,(a1S n v (q,b) x).2)=a1S n v (q,b) x:=rfl;rw[e]at h;simp only[V7];omega
def a7t{x:c9}(h:x.Rel.Rows=[]):c9.cells false false x=[.s x.Name,.i .i64 x.Rel.Arity,.sl false i5 []]:=by
 cases x with
 | mk a b=>
   cases b with
   | mk c d=>cases h;rfl
@[go_sem] def a8D:ACode:=q' 5 [ax (o' 3 (.box 1 (.t 0))),aX 2 2,aw [.sl i7]] (q' 7 [ax (o' 10 (.bld [.sl i7] [])),aw [.sl i7],aS 1 7 10] (q' 8 [aU
 false] (.seq (q' 11 [aG 0 3,aN,aK 0] (fO 0 15 [ar 14 13] 15 1 (q' 16 [am 14,aV 9] (.seq (q' 17 [am 8,aO 17,am 18,aH 19 true [bm 1,bf 0 3,bL,bm 9,bI 3,bF
 0,bL,bD .leq 20 26],aP 19 27] (ci 28 (.seq (rm' [(true,2,m' 31 1),(true,3,e' 32 2 5),(false,0,f' 29 0 7),(false,1,l' 30 29),(false,4,c' 33 169
 [32]),(false,5,o' 34 (.bld [.s,.i .i64,.sl i5] [(0,1,.t 31),(1,2,.t 33)])),(false,6,o' 35 (.bsl 3 1 [.s,.i .i64,
 .sl i5] [(0,.t 34)])),(false,7,o' 36 (.app 3 48 [.s,.i .i64,.sl i5] (.t 30) (.t 35))),
 (false,8,f' 37 0 7),(false,9,s' 1 37 36)] [[0,1,2,4,3,5,6,7,8,9],[0,1,2,4,5,3,6,7,8,9],[0,1,2,4,5,6,3,7,8,9],[0,1,4,2,
 3,5,6,7,8,9],[0,1,4,2,5,3,6,7,8,9],[0,1,4,2,5,6,3,7,8,9],[0,1,4,5,2,3,6,7,8,9],[0,1,4,5,2,6,3,7,8,9],[0,1,4,
 5,6,2,3,7,8,9]] [10,11]) (g' 8 [aU true])))) (q' 38 [aG 0 3,am 9,aI 3,aG 0 41,am 1,aD .neq 43 44] (ci 45 (rm' [(true,2,f' 48 0 3),(true,3,l' 49
 48),(true,4,m' 50 9),(true,5,i' 51 3 49 50),(true,6,f' 52 0 51),(true,7,l' 53 52),(true,8,f' 54 0 3),(true,9,l' 55 54),(true,10,m' 56 9),
 (true,11,i' 57 3 55 56),(true,12,f' 58 1 57),(true,13,e' 59 2 58),(false,0,f' 46 0 7),(false,1,l' 47 46),(false,14,c' 60 169 [59]),(false,
 15,o' 61 (.bld [.s,.i .i64,.sl i5] [(0,1,.t 53),(1,2,.t 60)])),(false,16,o' 62 (.bsl 3 1 [.s,.i .i64,.sl i5] [(0,.t 61)])),(false,17,o' 63 (.app 3 48 [.s,.i .i64,.sl i5] (.t 47) (.t 62))),(false,18,
 f' 64 0 7),(false,19,s' 1 64 63)] [[0,1,2,3,4,5,6,7,8,9,10,11,12,14,13,15,16,17,18,19],[0,1,2,3,4,5,6,7,8,9,10,11,12,14,
 15,13,16,17,18,19],[0,1,2,3,4,5,6,7,8,9,10,11,12,14,15,16,13,17,18,19],[0,1,2,3,4,5,6,7,8,9,10,11,14,12,13,15,16,
 17,18,19],[0,1,2,3,4,5,6,7,8,9,10,11,14,12,15,13,16,17,18,19],[0,1,2,3,4,5,6,7,8,9,10,11,14,12,15,16,13,17,18,19],
 [0,1,2,3,4,5,6,7,8,9,10,11,14,15,12,13,16,17,18,19],[0,1,2,3,4,5,6,7,8,9,10,11,14,15,12,16,13,17,18,19],[0,1,2,3,
 4,5,6,7,8,9,10,11,14,15,16,12,13,17,18,19]] [6,7]))))) (g' 65 [aA 14]))) (.seq (q' 66 [am 8,aO 66] (ci 67 (rm' [(true,2,m' 70 1),(true,3,
 e' 71 2 5),(false,0,f' 68 0 7),(false,1,l' 69 68),(false,4,c' 72 169 [71]),(false,5,o' 73 (.bld [.s,.i .i64,.sl i5] [(0,1,.t 70),(1,2,.t 72)])),(false,6,o' 74 (.bsl 3 1 [.s,.i .i64,.sl i5] [(0,.t 73)])),(false,7,o' 75 (.app
 3 48 [.s,.i .i64,.sl i5] (.t 69) (.t 74))),(false,8,f' 76 0 7),(false,9,s' 1 76 75)] [[0,1,2,4,3,5,6,7,8,9],
 [0,1,2,4,5,3,6,7,8,9],[0,1,2,4,5,6,3,7,8,9],[0,1,4,2,3,5,6,7,8,9],[0,1,4,2,5,3,6,7,8,9],[0,1,4,2,5,6,3,7,8,
 9],[0,1,4,5,2,3,6,7,8,9],[0,1,4,5,2,6,3,7,8,9],[0,1,4,5,6,2,3,7,8,9]] [10,11]))) (q' 77 [ae 1 7,aS 1 6 77] .ret)))))
def c5n(s:c4)(n:List UInt8)(r:d8)(hpre:((∀x∈s.Rels,x.Rel.Rows=[])/\r.Rows=[])/\s.Rels.length<=1000):spZ 108 [(true,[i6 s.Rels]),(false,[.s n]),(true,[.i .i64 r.Arity,n9 r.Rows])] [] (.one (true,[i6 ((⟨a2e s.Rels n ⟨n,⟨r.Arity,[]⟩⟩⟩:c4).Rels)])):=by
 refine sx' false true none Tryz.func108 a8D [.c 6 true 1] [(169,[],a6I)] ?_;intro hb hE;obtain⟨⟨hz,hr⟩,hlen⟩:=hpre;have hgz:∀i,(s.Rels.getD i default).Rel.Rows=[]:=fun i=>by
  by_cases h:i<s.Rels.length
  ·exact hz _ (A3w h)
  ·rw[show s.Rels.getD i default=default by simp[List.getD,q5D (by omega:s.Rels.length<=i)]];rfl
 simp only[go_sem,hr,hgz];(repeat' first|apply cj'|intro hc|apply a0f);(all_goals(try((first|refine a0B 12 rfl ?_|refine a0B 2 rfl ?_);intro S hS B0 hB;simp only[go_sem,hr,hgz,K6]at hS hB;(repeat(first|replace hS:=And.right hS|replace hS:=CJ.r hS));have Rr7:=congrArg (fun s:St=>s.sl 7) hS;have Rr31:=congrArg (fun s:St=>s.sl 31) hS;have Rr32:=congrArg (fun s:St=>s.sl 32) hS;have Rr53:=congrArg (fun s:St=>s.sl 53) hS;have Rr59:=congrArg (fun s:St=>s.sl 59) hS;have Rr70:=congrArg (fun s:St=>s.sl 70) hS;have Rr71:=congrArg (fun s:St=>s.sl 71) hS;have Rb6:=congrArg (fun s:St=>s.bx 6) hS;have Rb7:=congrArg (fun s:St=>s.bx 7) hS;have Rb10:=congrArg (fun s:St=>s.bx 10) hS;have Rb11:=congrArg (fun s:St=>s.bx 11) hS;have Rb14:=congrArg (fun s:St=>s.bx 14) hS;have Ro200028:=congrArg (fun s:St=>s.ow 200028) hS;have Ro4608:=congrArg (fun s:St=>s.ow 4608) hS;clear hS;simp only[go_sem,hr,hgz]at Rr7 Rr31 Rr32 Rr53 Rr59 Rr70 Rr71 Rb6 Rb7 Rb10 Rb11 Rb14 Ro200028 Ro4608;(try clear hc);intro K hc;simp only[go_sem,hr,hgz,Rr7,Rr31,Rr32,Rr53,Rr59,Rr70,Rr71,Rb6,Rb7,Rb10,Rb11,Rb14,Ro200028,Ro4608,hB,K3]at hc ⊢;simp only[go_sem,hr,hgz,Rr7,Rr31,Rr32,Rr53,Rr59,Rr70,Rr71,Rb6,Rb7,Rb10,Rb11,Rb14,Ro200028,Ro4608,hB,K0]at hc ⊢;(first|(simp only[hc,K5];done)|((repeat' first|exact hc|apply W6);done)))));all_goals try exact om'
 refine lk' false [(true,14,0,200028)] [1,3,5,6,7,13] [6,10,12,7,11] [] (fun i:{i:Nat // i<=s.Rels.length}=>[(8,slV (.b (a6O n ⟨n,⟨r.Arity,[]⟩⟩ (s.Rels.take i.1)).2)),(14,slV (.i .i64 i.1))]) (fun i=>[(14,[.ow 200028])]) (fun i=>[(200028,i7,((a6O n ⟨n,⟨r.Arity,[]⟩⟩ (s.Rels.take i.1)).1).map (c9.cells false false))]) (fun i=>s.Rels.length-i.1) (⟨0,z0D⟩) ?_;intro S0 hS0 i;obtain⟨i,hi⟩:=i;generalize hfo:a6O n ⟨n,⟨r.Arity,[]⟩⟩ (s.Rels.take i)=q;obtain⟨q1,q2⟩:=q;have hql:q1.length<=2*i:=by
  have h:=b5E n ⟨n,⟨r.Arity,[]⟩⟩ (s.Rels.take i) [] false;rw[show(s.Rels.take i).foldl (a1S n ⟨n,⟨r.Arity,[]⟩⟩) ([],false)=(q1,q2)from hfo]at h;rw[V1]at h;simp only[q1Z]at h;omega
 simp only[go_sem,hr,hgz,hS0,hfo];(repeat' first|apply cj'|intro hc|apply a0f);(all_goals(try((first|refine a0B 12 rfl ?_|refine a0B 2 rfl ?_);intro S hS B0 hB;simp only[go_sem,hr,hgz,hS0,hfo,K6]at hS hB;(repeat(first|replace hS:=And.right hS|replace hS:=CJ.r hS));have Rr7:=congrArg (fun s:St=>s.sl 7) hS;have Rr31:=congrArg (fun s:St=>s.sl 31) hS;have Rr32:=congrArg (fun s:St=>s.sl 32) hS;have Rr53:=congrArg (fun s:St=>s.sl 53) hS;have Rr59:=congrArg (fun s:St=>s.sl 59) hS;have Rr70:=congrArg (fun s:St=>s.sl 70) hS;have Rr71:=congrArg (fun s:St=>s.sl 71) hS;have Rb6:=congrArg (fun s:St=>s.bx 6) hS;have Rb7:=congrArg (fun s:St=>s.bx 7) hS;have Rb10:=congrArg (fun s:St=>s.bx 10) hS;have Rb11:=congrArg (fun s:St=>s.bx 11) hS;have Rb14:=congrArg (fun s:St=>s.bx 14) hS;have Ro200028:=congrArg (fun s:St=>s.ow 200028) hS;have Ro4608:=congrArg (fun s:St=>s.ow 4608) hS;clear hS;simp only[go_sem,hr,hgz,hS0,hfo]at Rr7 Rr31 Rr32 Rr53 Rr59 Rr70 Rr71 Rb6 Rb7 Rb10 Rb11 Rb14 Ro200028 Ro4608;(try clear hc);intro K hc;simp only[go_sem,hr,hgz,hS0,hfo,Rr7,Rr31,Rr32,Rr53,Rr59,Rr70,Rr71,Rb6,Rb7,Rb10,Rb11,Rb14,Ro200028,Ro4608,hB,K3]at hc ⊢;simp only[go_sem,hr,hgz,hS0,hfo,Rr7,Rr31,Rr32,Rr53,Rr59,Rr70,Rr71,Rb6,Rb7,Rb10,Rb11,Rb14,Ro200028,Ro4608,hB,K0]at hc ⊢;(first|(simp only[hc,K5];done)|((repeat' first|exact hc|apply W6);done)))));all_goals try exact om'
 ·rename_i hy;have hs:=a1z n ⟨n,⟨r.Arity,[]⟩⟩ (l:=s.Rels) (i:=i) z0C;rw[hfo,b0o hy,hc]at hs;simp only[z0B,q0D]at hs
  (refine lpK_n2 (⟨i+1,z0C⟩) _ z1D ?_;simp only[go_sem,hr,hgz,hS0,hfo,hs]<;>repeat' first|apply W6|exact on'|fail)
  all_goals first|done|(simp only[q1F,q0E,q1C,a7t (hgz i),C.freeRs,q0V];first|done|rfl)|trace_state
 ·rename_i hy;have hs:=a1z n ⟨n,⟨r.Arity,[]⟩⟩ (l:=s.Rels) (i:=i) z0C;rw[hfo,b0o hy,hc]at hs;simp only[z0B,q0D]at hs
  (refine lpK_n2 (⟨i+1,z0C⟩) _ z1D ?_;simp only[go_sem,hr,hgz,hS0,hfo,hs]<;>repeat' first|apply W6|exact on'|fail)
  all_goals first|done|(simp only[q1F,q0E,q1C,a7t (hgz i),C.freeRs,q0V];first|done|rfl)|trace_state
 ·rename_i hy;have hs:=a1z n ⟨n,⟨r.Arity,[]⟩⟩ (l:=s.Rels) (i:=i) z0C;rw[hfo,b4u hy,hc]at hs;simp only[z0B,q0D]at hs
  (refine lpK_n2 (⟨i+1,z0C⟩) _ z1D ?_;simp only[go_sem,hr,hgz,hS0,hfo,hs]<;>repeat' first|apply W6|exact on'|fail)
  all_goals first|done|(simp only[q1F,q0E,q1C,a7t (hgz i),C.freeRs,q0V];first|done|rfl)|trace_state
 ·rename_i hy;have hs:=a1z n ⟨n,⟨r.Arity,[]⟩⟩ (l:=s.Rels) (i:=i) z0C;rw[hfo,b4u hy,hc]at hs;simp only[z0B,q0D]at hs
  (refine lpK_n2 (⟨i+1,z0C⟩) _ z1D ?_;simp only[go_sem,hr,hgz,hS0,hfo,hs]<;>repeat' first|apply W6|exact on'|fail)
  all_goals first|done|(simp only[q1F,q0E,q1C,a7t (hgz i),C.freeRs,q0V];first|done|rfl)|trace_state
 ·have hn:¬i<s.Rels.length:=by omega
  rw[i4 z0C]at hfo;rw[a2e,hfo,hc];simp only[V2];have e2:=a5C false false (q1++[(⟨n,⟨r.Arity,[]⟩⟩:c9)]);rw[q1F]at e2 ⊢;first|exact e2|rfl
 ·rw[i4 z0C]at hfo;rw[a2e,hfo,hc];rfl
noncomputable def a5W:CT:=k8 (fun(x:c4×(List UInt8)×d8) h=>c5n x.1 x.2.1 x.2.2 h)
@[go_sem] def b5v:=fun x0 n x1 x2=>nm' (fP' a5W rfl (⟨x0⟩,n,⟨x1,x2⟩))
end Go.Aw
