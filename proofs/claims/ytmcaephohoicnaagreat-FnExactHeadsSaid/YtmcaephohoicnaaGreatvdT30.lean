/- Environments compared. No condition. -/
import Derived.Test.YtmcaephohoicnaaGreatvdT8
import Derived.Test.YtmcaephohoicnaaGreatpBx11vd
import Derived.Test.YtmcaephohoicnaaGreatpBx8vd
namespace Go.Aw
open Go.Proofs
attribute [local irreducible] aft blk lpK retK AW A0c
set_option linter.all false
set_option maxRecDepth 100000
set_option maxRecDepth 100000 in
def c1w (a b:ByteArray) (w:World):Calls Tryz.prog 320 #[.string a,.string b] w fun e w'=>e=.returned (.int .i64 (Lib.compareBytes a.data.toList b.data.toList))/\w' = w:=by
 go_enter Tryz.func320,Tryz.ntmps320
 go_wp2
 rw [run_callFunc_extern Tryz.func358 (by kernel_rfl) (by kernel_rfl) (by kernel_rfl) (e:=Extern.BytealgCompare.compare) (by kernel_rfl),Lib.run_compareString];simp only [Result.andThen];rw [Oper.upon_value]
 go_wp2
 go_ret
 exact ⟨rfl,rfl⟩
def a2A (a:List UInt8) (b:List UInt8):A0c Tryz.prog 320 [(false,[.s a]),(false,[.s b])] [] (.one (false,[.i .i64 (Lib.compareBytes a b)])):=by
 unfold A0c;refine ⟨by kernel_rfl, ?_⟩;intro F w vs fpa h _ _ hF;simp only [VsRd,VRd,C.RdVals,C.Rd] at h;obtain ⟨_,_,_,_,rfl,rfl,⟨_,hc,hr⟩,_,_,_,_,rfl,rfl,⟨_,hc',hr'⟩,rfl,rfl⟩:=h;simp only [W9,q0I] at hc hc';subst hc;subst hc';simp only [C.Rd] at hr hr';obtain ⟨rfl,h1,rfl⟩:=hr;obtain ⟨rfl,h2,rfl⟩:=hr';refine (c1w ⟨a.toArray⟩ ⟨b.toArray⟩ w).mono ?_;rintro e w' ⟨rfl,rfl⟩;refine ⟨F,_,[],[],rfl, ?_,rfl,⟨fun _ h=>h,fun _ h=>.inl h,hF,q0L,by simp,fun _ _ _=>rfl,V8 _,rfl,Tp.of rfl rfl,rfl⟩⟩;simp only [RRd,VRd];refine ⟨_,rfl, ?_⟩;unfold C.Rd;have hb:∀ x y:List UInt8,-1<=Lib.compareBytes x y/\Lib.compareBytes x y<=1:=by
  intro x
  induction x with
  | nil=>intro y;cases y<;>simp [Lib.compareBytes]
  | cons a x ih=>
    intro y;cases y with
    | nil=>simp [Lib.compareBytes]
    | cons b y=>
      simp only [Lib.compareBytes];repeat' split
      all_goals first | exact ih y | decide
 have:=hb a b;refine ⟨rfl, ?_,rfl⟩;rw [min_i64,max_i64];omega
noncomputable def a0r:CT:=j4 (fun (x:(List UInt8)×(List UInt8))=>a2A x.1 x.2)
@[go_sem] def b0F:=fun a b=>nm' (fQ' a0r rfl (a,b))
def a6F (a:List UInt8) (b:List UInt8):A0c Tryz.prog 251 [(false,[.s a]),(false,[.s b])] [] (.one (false,[.i .i64 (Lib.compareBytes a b)])):=by
 refine sx' false false none Tryz.func251 (q' 4 [aK 0] (q' 5 [aM [0,1],ac 320 [5,6],aV 4] .ret)) [.t 4] [(320,[],a0r)] ?_;intro hb hE;simp only [go_sem];repeat' first | apply cj' | intro hc | exact om' | fail
noncomputable def a1P:CT:=j4 (fun (x:(List UInt8)×(List UInt8))=>a6F x.1 x.2)
@[go_sem] def b6f:=fun a b=>nm' (fQ' a1P rfl (a,b))
def t8 (a b:c6):Int:=bif a.S==[]&&!(b.S==[]) then -1 else bif !(a.S==[])&&b.S==[] then 1 else bif a.S==[] then IntKind.i64.wrap (a.N - b.N) else Lib.compareBytes a.S b.S
def n0 (a b:c6):Bool:=bif a.S==[]&&b.S==[] then decide (a.N < b.N) else Op.bytesLess a.S b.S
def a1r (a b:c6):Bool:=i4 a&&i4 b&&n0 a b
def vEq (a b:c6):Bool:=a.N==b.N&&a.S==b.S
def p8 (op:Int) (a b:c6):Bool:=i4 a&&i4 b&&(bif op==1 then vEq a b else bif op==2 then !vEq a b else bif op==3 then n0 a b else bif op==4 then n0 a b || vEq a b else false)
def b1l (a:c6) (b:c6):A0c Tryz.prog 234 [(true,[.i .i64 a.N,.s a.S]),(true,[.i .i64 b.N,.s b.S])] [] (.one (false,[.i .i64 (t8 a b)])):=by
 refine sx' false false none Tryz.func234 (q' 2 [ao (.box 2 (.t 0)),ao (.box 2 (.t 1)),aK 0] (.seq (.block 0 (q' 6 [aG 1 2,ao (.bin .eql (.t 7) (.k (.v false [.c (.s [])]))),am 8,au (.fa 1 (.t 3)) 9 true,au (.ld false 1 (.t 10)) 9 true,au (.bin .neq (.t 11) (.k (.v false [.c (.s [])]))) 9 true,ao (.pick (.t 9) (.t 12) (bb false)),aV 5] (.cond (.t 5) (q' 4 [ao (.mov (.k (.v false [.c (.i .i64 (-1))])))] .ret) (q' 15 [aG 1 2,ao (.bin .neq (.t 16) (.k (.v false [.c (.s [])]))),am 17,au (.fa 1 (.t 3)) 18 true,au (.ld false 1 (.t 19)) 18 true,au (.bin .eql (.t 20) (.k (.v false [.c (.s [])]))) 18 true,ao (.pick (.t 18) (.t 21) (bb false)),aV 14] (.cond (.t 14) (q' 4 [aK 1] .ret) (q' 24 [aG 1 2,ao (.bin .eql (.t 25) (.k (.v false [.c (.s [])]))),aV 23] (.cond (.t 23) (q' 27 [aG 0 2,aG 0 3,ao (.bin .sub (.t 28) (.t 30)),aV 4] .ret) .skip))))))) (q' 32 [aG 1 2,aG 1 3,ac 251 [33,35],aV 4] .ret))) [.t 4] [(251,[],a1P)] ?_;intro hb hE;simp only [go_sem];repeat' first | apply cj' | intro hc | exact om' | fail
 ·simp only [t8,hc,q3E,q1M,V1]
 ·simp only [t8,hc];rfl
 ·rename_i h1 h2;rcases q2D (b.S==[]) with h | h<;>rw [hc,h] at h1 h2<;>simp only [t8,hc,h]<;>first | rfl | contradiction
 ·rename_i h1 h2;rcases q2D (b.S==[]) with h | h<;>rw [hc,h] at h1 h2<;>simp only [t8,hc,h]<;>first | rfl | contradiction
noncomputable def a0w:CT:=j4 (fun (x:c6×c6)=>b1l x.1 x.2)
@[go_sem] def b9f:=fun x0 x1 x2 x3=>nm' (fQ' a0w rfl (⟨x0,x1⟩,⟨x2,x3⟩))
def a7H (a:c6) (b:c6):A0c Tryz.prog 282 [(true,[.i .i64 a.N,.s a.S]),(true,[.i .i64 b.N,.s b.S])] [] (.one (false,[.b (a1r a b)])):=by
 refine sx' false false none Tryz.func282 (q' 2 [ao (.box 2 (.t 0)),ao (.box 2 (.t 1)),ao (.mov (bb false))] (.seq (q' 5 [ae 2 2,ac 280 [5],ao (.not (.t 6)),am 7,au (.ld true 2 (.t 3)) 8 false,au (.call 280 [.t 9]) 8 false,au (.not (.t 10)) 8 false,ao (.pick (.t 8) (bb true) (.t 11))] (.cond (.t 12) (q' 0 [ab 4 false] .ret) .skip)) (.seq (q' 13 [aG 1 2,ao (.bin .eql (.t 14) (.k (.v false [.c (.s [])]))),am 15,au (.fa 1 (.t 3)) 16 true,au (.ld false 1 (.t 17)) 16 true,au (.bin .eql (.t 18) (.k (.v false [.c (.s [])]))) 16 true,ao (.pick (.t 16) (.t 19) (bb false))] (.cond (.t 20) (q' 21 [aG 0 2,aG 0 3,ar 22 24,aV 4] .ret) .skip)) (q' 26 [aG 1 2,aG 1 3,ar 27 29,aV 4] .ret)))) [.t 4] [(280,[],a0a)] ?_;intro hb hE;simp only [go_sem];repeat' first | apply cj' | intro hc | exact om' | fail
 ·rcases hc with h | h<;>simp [a1r,h]
 ·simp only [a1r,n0, *,q1M,q0N,V1]
 ·simp only [a1r,n0, *,q1M,q0N,V3]
noncomputable def a2u:CT:=j4 (fun (x:c6×c6)=>a7H x.1 x.2)
@[go_sem] def b7k:=fun x0 x1 x2 x3=>nm' (fQ' a2u rfl (⟨x0,x1⟩,⟨x2,x3⟩))
def cmp_lt:∀ x y:List UInt8,decide (Lib.compareBytes x y < 0)=Op.bytesLess x y:=by
 intro x
 induction x with
 | nil=>intro y;cases y<;>simp [Lib.compareBytes,Op.bytesLess]
 | cons a x ih=>
   intro y;cases y with
   | nil=>simp [Lib.compareBytes,Op.bytesLess]
   | cons b y=>
     simp only [Lib.compareBytes,Op.bytesLess];by_cases h1:a < b
     ·simp [h1]
     ·by_cases h2:b < a
      ·have:(a==b)=false:=by simp;rintro rfl;exact h1 h2
       simp [h1,h2,this]
      ·have:a=b:=by
        apply UInt8.toNat_inj.1;simp only [UInt8.lt_iff_toNat_lt] at h1 h2;omega
       simp [this,ih]
def cmp_le:∀ x y:List UInt8,decide (Lib.compareBytes x y<=0)=(Op.bytesLess x y || x==y):=by
 intro x
 induction x with
 | nil=>intro y;cases y<;>simp [Lib.compareBytes,Op.bytesLess]
 | cons a x ih=>
   intro y;cases y with
   | nil=>simp [Lib.compareBytes,Op.bytesLess]
   | cons b y=>
     simp only [Lib.compareBytes,Op.bytesLess];by_cases h1:a < b
     ·simp [h1]
     ·by_cases h2:b < a
      ·have:(a==b)=false:=by simp;rintro rfl;exact h1 h2
       simp [h1,h2,this]
      ·have:a=b:=by
        apply UInt8.toNat_inj.1;simp only [UInt8.lt_iff_toNat_lt] at h1 h2;omega
       simp [this,ih]
def b0E {a b:c6} (ha:i4 a=true) (hb:i4 b=true):decide (t8 a b < 0)=n0 a b:=by
 simp only [t8,n0,i4] at *;rcases (q2D (a.S==[])).symm with h1 | h1<;>rcases (q2D (b.S==[])).symm with h2 | h2<;>simp only [h1,h2,V1,V3,q4G,q3E,q1E,q3F,q0N] at ha hb ⊢
 ·exact cmp_lt _ _
 ·have:b.S=[]:=by simpa using h2
  rw [this];simp [Op.bytesLess]
 ·have:a.S=[]:=by simpa using h1
  rw [this];cases h:b.S with
  | nil=>simp [h] at h2
  | cons x l=>simp [Op.bytesLess]
 ·simp only [a2y,W5,q0H] at ha hb;rw [IntWalk.i64_in _ (by omega)];exact decide_eq_decide.2 (by omega)
def b0D {a b:c6} (ha:i4 a=true) (hb:i4 b=true):decide (t8 a b<=0)=(n0 a b || vEq a b):=by
 simp only [t8,n0,i4,vEq] at *;rcases (q2D (a.S==[])).symm with h1 | h1<;>rcases (q2D (b.S==[])).symm with h2 | h2<;>simp only [h1,h2,V1,V3,q4G,q3E,q1E,q3F,q0N,W5,beq_iff_eq] at ha hb ⊢
 ·rw [cmp_le,ha.1,hb.1];simp
 ·have e:b.S=[]:=by simpa using h2
  rw [e] at h2 ⊢;simp [Op.bytesLess,h1]
 ·have e:a.S=[]:=by simpa using h1
  rw [e];cases h:b.S with
  | nil=>simp [h] at h2
  | cons x l=>simp [Op.bytesLess]
 ·simp only [a2y,W5,q0H] at ha hb;have e1:(a.S==b.S)=true:=by rw [show a.S=[] by simpa using h1,show b.S=[] by simpa using h2];rfl
  have:(a.N==b.N)=decide (a.N=b.N):=rfl;rw [IntWalk.i64_in _ (by omega),e1,this];simp only [q1E,<- Bool.decide_or];exact decide_eq_decide.2 (by omega)
def b1L:∀ x y:List UInt8,Op.bytesLess y x=!(Op.bytesLess x y || x==y):=by
 intro x
 induction x with
 | nil=>intro y;cases y<;>simp [Op.bytesLess]
 | cons a x ih=>
   intro y;cases y with
   | nil=>simp [Op.bytesLess]
   | cons b y=>
     simp only [Op.bytesLess];by_cases h1:a < b
     ·have:¬ b < a:=fun h=>by simp only [UInt8.lt_iff_toNat_lt] at *;omega
      have h3:(b==a)=false:=by simp;rintro rfl;exact this h1
      simp [h1,this,h3]
     ·by_cases h2:b < a
      ·have:(a==b)=false:=by simp;rintro rfl;exact h1 h2
       simp [h1,h2,this]
      ·have:a=b:=by
        apply UInt8.toNat_inj.1;simp only [UInt8.lt_iff_toNat_lt] at h1 h2;omega
       subst this;simp [h1,ih]
def a7W {a b:c6} (ha:i4 a=true) (hb:i4 b=true):n0 b a=!(n0 a b || vEq a b):=by
 simp only [n0,i4,vEq] at *;rcases (q2D (a.S==[])).symm with h1 | h1<;>rcases (q2D (b.S==[])).symm with h2 | h2<;>simp only [h1,h2,V1,V3,q4G,q3E,q1E,q3F,q0N,W5,beq_iff_eq] at ha hb ⊢
 ·rw [b1L,ha.1,hb.1];simp
 ·rw [b1L];have:(a.S==b.S)=false:=by
   cases h:a.S==b.S with
   | false=>rfl
   | true=>rw [eq_of_beq h,h2] at h1;cases h1
  rw [this];simp
 ·rw [b1L];have:(a.S==b.S)=false:=by
   cases h:a.S==b.S with
   | false=>rfl
   | true=>rw [<- eq_of_beq h,h1] at h2;cases h2
  rw [this];simp
 ·have e1:(a.S==b.S)=true:=by rw [show a.S=[] by simpa using h1,show b.S=[] by simpa using h2];rfl
  have:(a.N==b.N)=decide (a.N=b.N):=rfl;rw [e1,this,q1E,<- Bool.decide_or,<- decide_not];exact decide_eq_decide.2 (by omega)
def a1f:Nat->(Nat->Int)->Int
 | 0,_=>0
 | n+1,f=>if a1f n f=0 then f n else a1f n f
def a7w {n:Nat} {f:Nat->Int} (h:∀ i,i < n->f i=0):a1f n f=0:=by
 induction n with
 | zero=>rfl
 | succ n ih=>rw [a1f,if_pos (ih fun i hi=>h i (by omega)),h n (by omega)]
def a7x {i:Nat} {f:Nat->Int} (h:∀ j,j < i->f j=0) (hp:f i≠0):∀ {n:Nat},i < n->a1f n f=f i
 | 0,hn=>by omega
 | n+1,hn=>by
   by_cases e:i=n
   ·subst e;rw [a1f,if_pos (a7w h)]
   ·have:=a7x h hp (n:=n) (by omega);rw [a1f,this,if_neg hp]
def sgn (x:Int):Int:=max (-1) (min x 1)
def b6i {f g:Nat->Int}:∀ {n:Nat},(∀ i,i < n->sgn (f i)=g i)->sgn (a1f n f)=a1f n g
 | 0,_=>by simp only [a1f];decide
 | n+1,h=>by
   have ih:=b6i (n:=n) fun i hi=>h i (by omega)
   have hn:=h n (by omega);rw [a1f,a1f,<- ih,<- hn];unfold sgn;by_cases e:a1f n f=0
   ·rw [if_pos e,e,if_pos (by decide)]
   ·rw [if_neg e,if_neg (by omega)]
def a4Q (a b:c6):Int:=bif n0 a b then -1 else bif n0 b a then 1 else 0
def a8k {a b:c6} (ha:i4 a=true) (hb:i4 b=true):sgn (t8 a b)=a4Q a b:=by
 have h1:=b0E ha hb;have h2:=b0D ha hb;have h3:=a7W ha hb;rw [<- h2] at h3;rw [a4Q,h3,<- h1];unfold sgn;by_cases e:t8 a b < 0
 ·rw [V5 e,V1];omega
 ·rw [V9 e,V3];by_cases e2:t8 a b<=0
  ·rw [V5 e2];simp only [q4G,V3];omega
  ·rw [V9 e2];simp only [q3E,V1];omega
def a1C (a b:List c4):Int:=a1f a.length fun i=>a4Q (a.getD i default).Val (b.getD i default).Val
def b4E (a b:List c4) (i:Nat):Int:=t8 (a.getD i default).Val (b.getD i default).Val
def b1k (x:c4) (y:c4):A0c Tryz.prog 242 [(true,[.s x.Var,.i .i64 x.Val.N,.s x.Val.S]),(true,[.s y.Var,.i .i64 y.Val.N,.s y.Val.S])] [] (.one (false,[.i .i64 (t8 x.Val y.Val)])):=by
 refine sx' false false none Tryz.func242 (q' 2 [ao (.box 3 (.t 0)),ao (.box 3 (.t 1)),aK 0] (q' 5 [af 1 2,aE 2,af 1 3,aE 2,ac 234 [6,8],aV 4] .ret)) [.t 4] [(234,[],a0w)] ?_;intro hb hE;simp only [go_sem];repeat' first | apply cj' | intro hc | exact om' | fail
noncomputable def a3U:CT:=j4 (fun (x:c4×c4)=>b1k x.1 x.2)
@[go_sem] def b9e:=fun x0 x1 x2 x3 x4 x5=>nm' (fQ' a3U rfl (⟨x0,⟨x1,x2⟩⟩,⟨x3,⟨x4,x5⟩⟩))
def b8J (a:List c4) (b:List c4) (hpre:a.length=b.length):A0c Tryz.prog 241 [(false,[l9 a]),(false,[l9 b]),(false,[.f 242 []])] [] (.one (false,[.i .i64 (a1f a.length (b4E a b))])):=by
 refine sx' false false none Tryz.func241 (q' 6 [aK 0] (.seq (q' 11 [am 0,aN,aK 0] (.block 0 (.loop (q' 14 [ar 13 12] (.seq (.cond (.t 14) .skip (.exit 0)) (.seq (.block 1 (q' 15 [am 13,ai 3 11 13,aE 3,ax (w' 8 [.s,.i .i64,.s]),av 7 15,aS 3 8 17] (.seq (q' 18 [aM [7,1],aN,ao (.bin .geq (.t 18) (.t 20))] (.cond (.t 21) (q' 6 [aK 1] .ret) .skip)) (q' 22 [aM [1,7],aI 3,aE 3,ax (w' 9 [.s,.i .i64,.s]),aS 3 9 25] (q' 26 [am 2,ae 3 8,ae 3 9,ao (.callv (.t 26) [.t 27,.t 28]),aV 10] (q' 30 [am 10,ao (.bin .neq (.t 30) (k' 0))] (.cond (.t 31) (q' 32 [am 10,aV 6] .ret) .skip))))))) (g' 33 [aA 13]))))))) (.seq (q' 34 [am 0,aN,am 1,aN,ar 35 37] (.cond (.t 38) (q' 6 [ao (.mov (.k (.v false [.c (.i .i64 (-1))])))] .ret) .skip)) (q' 6 [aK 0] .ret)))) [.t 6] [(242,[],a3U)] ?_;intro hb hE;simp only [go_sem];repeat' first | apply cj' | intro hc | exact om' | fail
 refine lq' false [0,1,2,11,12] [] [] (fun i:{i:Nat // i<=a.length/\∀ j,j < i->b4E a b j=0}=>[(13,slV (.i .i64 i.1))]) nl' nl' (fun i=>a.length - i.1) (⟨0,by simp⟩) ?_;intro S0 hS0 i;obtain ⟨i,hi,ha⟩:=i;simp only [go_sem,hS0];repeat' first | apply cj' | intro hc | exact om' | fail
 ·rw [a7x ha (by simpa [b4E] using hc) (by omega)];rfl
 ·exact nx0 ⟨i+1,by omega,fun j hj=>(q3C.1 hj).elim (ha j) (fun q=>by subst q;simpa [b4E] using hc)⟩
 ·rw [a7w fun j hj=>ha j (by omega)]
noncomputable def b0H:CT:=j9 (fun (x:(List c4)×(List c4)) h=>b8J x.1 x.2 h)
@[go_sem] def c4c:=fun a b=>nm' (fP' b0H rfl (a,b))
def a6y (a:d3) (b:d3) (hpre:a.Binds.length=b.Binds.length):A0c Tryz.prog 186 [(true,[l9 a.Binds]),(true,[l9 b.Binds])] [] (.one (false,[.i .i64 (a1f a.Binds.length (b4E a.Binds b.Binds))])):=by
 refine sx' false false none Tryz.func186 (q' 2 [ao (.box 1 (.t 0)),ao (.box 1 (.t 1)),aK 0] (q' 5 [aG 0 2,aG 0 3,ao (.call 241 [.t 6,.t 8,.k (.v false [.c (.f 242 [])])]),aV 4] .ret)) [.t 4] [(241,[],b0H)] ?_;intro hb hE;simp only [go_sem];repeat' first | apply cj' | intro hc | exact om' | fail
noncomputable def b4C:CT:=j9 (fun (x:d3×d3) h=>a6y x.1 x.2 h)
@[go_sem] def c2d:=fun x0 x1=>nm' (fP' b4C rfl (⟨x0⟩,⟨x1⟩))
def a8g {a b:List c4} {i:Nat} (h:∀ j,j < i->a4Q (a.getD j default).Val (b.getD j default).Val=0) (hp:a4Q (a.getD i default).Val (b.getD i default).Val≠0) (hi:i < a.length):a1C a b=a4Q (a.getD i default).Val (b.getD i default).Val:=a7x (f:=fun i=>a4Q (a.getD i default).Val (b.getD i default).Val) h hp hi
def b6p {a b:List c4} (h:∀ j,j < a.length->a4Q (a.getD j default).Val (b.getD j default).Val=0):a1C a b=0:=a7w h
set_option maxRecDepth 100000
def s9 {α:Type} {l:List α} {i:Nat} (d:α) (h:i < l.length):l.drop i=l.getD i d::l.drop (i+1):=by
 rw [l4 d h];exact q2R h
def a0o (r:c7):Bool:=decide ((r.V.length:Int)<=6)&&r.V.all i4
def z8:List c6->List c6->Int
 | [],[]=>0
 | [],_::_=>-1
 | _::_,[]=>1
 | x::a,y::b=>bif n0 x y then -1 else bif n0 y x then 1 else z8 a b
def a0l:List c6->List c6->Int
 | [],[]=>0
 | [],_::_=>-1
 | _::_,[]=>1
 | x::a,y::b=>if t8 x y=0 then a0l a b else t8 x y
def a4C (a b:c7):Int:=bif a0o a&&a0o b then z8 a.V b.V else 2
def y5 (r:d7) (i:Nat):Bool:=!((r.Rows.getD i default).V.length==r.Arity) || !a0o (r.Rows.getD i default) || decide (0 < i)&&!(z8 (r.Rows.getD (i - 1) default).V (r.Rows.getD i default).V==-1)
def z7 (r:d7):Bool:=decide (0<=r.Arity)&&decide (r.Arity<=6)&&decide ((r.Rows.length:Int)<=300)&&!a2p r.Rows.length (y5 r)
def a0h (l:List d6) (i:Nat):Bool:=!a1g (l.getD i default).Name || !z7 (l.getD i default).Rel || decide (0 < i)&&!Op.bytesLess (l.getD (i - 1) default).Name (l.getD i default).Name
def m8 (s:d5):Bool:=decide ((s.Rels.length:Int)<=24)&&!a2p s.Rels.length (a0h s.Rels)
def a0X {α:Type} {l:List α} {i:Nat} (h:l.length<=i):l.drop i=[]:=q3K h
def c3M {a b:List c6} {i:Nat} (hi:i<=a.length) (hj:i<=b.length) (h:¬ (i < a.length/\i < b.length)):z8 (a.drop i) (b.drop i)=if a.length < b.length then -1 else if b.length < a.length then 1 else 0:=by
 by_cases h1:a.length < b.length
 ·rw [if_pos h1,a0X (show a.length<=i by omega),s9 (l:=b) default (by omega)];rfl
 ·rw [if_neg h1];by_cases h2:b.length < a.length
  ·rw [if_pos h2,a0X (show b.length<=i by omega),s9 (l:=a) default (by omega)];rfl
  ·rw [if_neg h2,a0X (show a.length<=i by omega),a0X (show b.length<=i by omega)];rfl
def b0C {a b:List c6} {i:Nat} (hi:i<=a.length) (hj:i<=b.length) (h:¬ (i < a.length/\i < b.length)):a0l (a.drop i) (b.drop i)=if a.length < b.length then -1 else if b.length < a.length then 1 else 0:=by
 by_cases h1:a.length < b.length
 ·rw [if_pos h1,a0X (show a.length<=i by omega),s9 (l:=b) default (by omega)];rfl
 ·rw [if_neg h1];by_cases h2:b.length < a.length
  ·rw [if_pos h2,a0X (show b.length<=i by omega),s9 (l:=a) default (by omega)];rfl
  ·rw [if_neg h2,a0X (show a.length<=i by omega),a0X (show b.length<=i by omega)];rfl
def a6I:∀ {a b:List c6},(∀ x∈a,i4 x=true)->(∀ x∈b,i4 x=true)->sgn (a0l a b)=z8 a b
 | [],[],_,_=>by decide
 | [],_::_,_,_=>by simp only [a0l,z8];decide
 | _::_,[],_,_=>by simp only [a0l,z8];decide
 | x::a,y::b,ha,hb=>by
   have h:=a8k (ha x (by simp)) (hb y (by simp));have ih:=a6I (a:=a) (b:=b) (fun z hz=>ha z (by simp [hz])) (fun z hz=>hb z (by simp [hz]));rw [a0l,z8];unfold a4Q at h;split
   ·rename_i h0;rw [h0] at h;cases h1:n0 x y with
    | true=>rw [h1,V1] at h;unfold sgn at h;omega
    | false=>
      cases h2:n0 y x with
      | true=>rw [h1,h2,V1,V3] at h;unfold sgn at h;omega
      | false=>exact ih
   ·rename_i h0;cases h1:n0 x y with
    | true=>rw [h1] at h;exact h
    | false=>
      cases h2:n0 y x with
      | true=>rw [h1,h2] at h;exact h
      | false=>rw [h1,h2] at h;unfold sgn at h;simp only [V3] at h;omega
def b1I (a:c6) (b:c6):A0c Tryz.prog 223 [(true,[.i .i64 a.N,.s a.S]),(true,[.i .i64 b.N,.s b.S])] [] (.one (false,[.b (n0 a b)])):=by
 refine sx' false false none Tryz.func223 (q' 2 [ao (.box 2 (.t 0)),ao (.box 2 (.t 1)),ao (.mov (bb false))] (.seq (q' 5 [aG 1 2,ao (.bin .eql (.t 6) (.k (.v false [.c (.s [])]))),am 7,au (.fa 1 (.t 3)) 8 true,au (.ld false 1 (.t 9)) 8 true,au (.bin .eql (.t 10) (.k (.v false [.c (.s [])]))) 8 true,ao (.pick (.t 8) (.t 11) (bb false))] (.cond (.t 12) (q' 13 [aG 0 2,aG 0 3,ar 14 16,aV 4] .ret) .skip)) (q' 18 [aG 1 2,aG 1 3,ar 19 21,aV 4] .ret))) [.t 4] [] ?_;intro hb hE;simp only [go_sem];repeat' first | apply cj' | intro hc | exact om' | fail
 ·rw [n0,hc.1,hc.2];rfl
 ·rw [n0,hc];rfl
noncomputable def a1z:CT:=j4 (fun (x:c6×c6)=>b1I x.1 x.2)
@[go_sem] def b9D:=fun x0 x1 x2 x3=>nm' (fQ' a1z rfl (⟨x0,x1⟩,⟨x2,x3⟩))
def a9q (a:c7) (b:c7):A0c Tryz.prog 161 [(true,[j3 a.V]),(true,[j3 b.V])] [] (.one (false,[.i .i64 (z8 a.V b.V)])):=by
 refine sx' false false none Tryz.func161 (q' 2 [ao (.box 1 (.t 0)),ao (.box 1 (.t 1)),aK 0] (.seq (q' 5 [aK 0] (.block 0 (.loop (.seq (q' 6 [am 5,aG 0 2,aN,ar 6 9,am 10,au (.mov (.t 5)) 11 true,au (.fa 0 (.t 3)) 11 true,au (.ld false 1 (.t 13)) 11 true,au (.len (.t 14)) 11 true,au (.bin .lss (.t 12) (.t 15)) 11 true,ao (.pick (.t 11) (.t 16) (bb false))] (.cond (.t 17) .skip (.exit 0))) (.seq (.block 1 (.seq (.seq (G' 20 [aG 0 2,am 5,aI 2,aE 2,aG 0 3,am 5,aI 2,aE 2,ac 223 [24,29]]) (.cond (.t 30) (q' 4 [ao (.mov (.k (.v false [.c (.i .i64 (-1))])))] .ret) .skip)) (.seq (G' 31 [aG 0 3,am 5,aI 2,aE 2,aG 0 2,am 5,aI 2,aE 2,ac 223 [35,40]]) (.cond (.t 41) (q' 4 [aK 1] .ret) .skip)))) (g' 18 [aB 5])))))) (.seq (q' 42 [aG 0 2,aN,aG 0 3,aN,ar 44 47] (.cond (.t 48) (q' 4 [ao (.mov (.k (.v false [.c (.i .i64 (-1))])))] .ret) .skip)) (.seq (q' 49 [aG 0 2,aN,aG 0 3,aN,ao (.bin .gtr (.t 51) (.t 54))] (.cond (.t 55) (q' 4 [aK 1] .ret) .skip)) (q' 4 [aK 0] .ret))))) [.t 4] [(223,[],a1z)] ?_;intro hb hE;simp only [go_sem];repeat' first | apply cj' | intro hc | exact om' | fail
 refine lq' false [2,3] [4,6] [] (fun i:{i:Nat // i<=a.V.length/\i<=b.V.length/\z8 (a.V.drop i) (b.V.drop i)=z8 a.V b.V}=>[(5,slV (.i .i64 i.1))]) nl' nl' (fun i=>a.V.length - i.1) (⟨0,by simp⟩) ?_;intro S0 hS0 i;obtain ⟨i,hi,hj,he⟩:=i;simp only [go_sem,hS0];repeat' first | apply cj' | intro hc | exact om' | fail
 ·rw [<- he,s9 (l:=a.V) default (by omega),s9 (l:=b.V) default (by omega),z8,hc];rfl
 ·rename_i h1;rw [<- he,s9 (l:=a.V) default (by omega),s9 (l:=b.V) default (by omega),z8,h1,hc];rfl
 ·rename_i h1;have h2:=he;rw [s9 (l:=a.V) default (by omega),s9 (l:=b.V) default (by omega),z8,h1,hc] at h2;exact nx0 ⟨i+1,by omega,by omega,h2⟩
 all_goals have q:(decide ((i:Int) < a.V.length)&&decide ((i:Int) < b.V.length))=false:=by assumption
 all_goals rw [q3R,q1H,q1H] at q
 all_goals rw [<- he,c3M hi hj (by omega)]
 ·rw [if_pos (by omega)]
 ·rw [if_neg (by omega),if_pos (by omega)]
 ·rw [if_neg (by omega),if_neg (by omega)]
noncomputable def a1e:CT:=j4 (fun (x:c7×c7)=>a9q x.1 x.2)
@[go_sem] def b8l:=fun x0 x1=>nm' (fQ' a1e rfl (⟨x0⟩,⟨x1⟩))
def b5p (r:c7):A0c Tryz.prog 216 [(true,[j3 r.V])] [] (.one (false,[.b (a0o r)])):=by
 refine sx' false false none Tryz.func216 (q' 0 [ax (o' 1 (.box 1 (.t 0))),ab 2 false] (.seq (q' 5 [aG 0 1,aN,ao (.bin .gtr (.t 7) (k' 6))] (.cond (.t 8) (q' 0 [ab 2 false] .ret) .skip)) (.seq (q' 9 [aG 0 1,aN,aK 0] (.block 0 (.loop (q' 13 [ar 12 11] (.seq (.cond (.t 13) .skip (.exit 0)) (.seq (.block 1 (q' 14 [ai 2 10 12,aE 2,ax (w' 4 [.i .i64,.s]),aS 2 4 15] (q' 16 [ae 2 4,ac 280 [16],ao (.not (.t 17))] (.cond (.t 18) (q' 0 [ab 2 false] .ret) .skip)))) (g' 19 [aA 12]))))))) (q' 0 [ab 2 true] .ret)))) [.t 2] [(280,[],a0a)] ?_;intro hb hE;simp only [go_sem];repeat' first | apply cj' | intro hc | exact om' | fail
 ·rw [a0o,V9 (by omega)];rfl
 have h6:((r.V.length:Int))<=6:=by omega
 refine lq' false [10,11] [] [] (fun i:{i:Nat // i<=r.V.length/\(r.V.take i).all i4=true}=>[(12,slV (.i .i64 i.1))]) nl' nl' (fun i=>r.V.length - i.1) (⟨0,by simp⟩) ?_;intro S0 hS0 i;obtain ⟨i,hi,ha⟩:=i;simp only [go_sem,hS0];repeat' first | apply cj' | intro hc | exact om' | fail
 ·rw [a0o,all_false (d:=default) (i:=i) (by omega) hc,q3F]
 ·exact nx0 ⟨i+1,by omega,a0W default (by omega) ha hc⟩
 ·rw [f8 (by omega)] at ha;rw [a0o,ha,V5 h6];rfl
noncomputable def a2L:CT:=j4 (fun (x:c7)=>b5p x)
@[go_sem] def c2x:=fun x0=>nm' (fQ' a2L rfl ⟨x0⟩)
def b1h (v:c6):A0c Tryz.prog 232 [(true,[.i .i64 v.N,.s v.S])] [] (.one (false,[.b (!i4 v)])):=by
 refine sx' false false none Tryz.func232 (q' 0 [ax (o' 1 (.box 2 (.t 0))),ab 2 false] (q' 3 [ae 2 1,ac 229 [3],ao (.not (.t 4)),aV 2] .ret)) [.t 2] [(229,[],a0v)] ?_;intro hb hE;simp only [go_sem];repeat' first | apply cj' | intro hc | exact om' | fail
noncomputable def a3S:CT:=j4 (fun (x:c6)=>b1h x)
@[go_sem] def b9b:=fun x0 x1=>nm' (fQ' a3S rfl ⟨x0,x1⟩)
def b8L (l:List c6):A0c Tryz.prog 294 [(false,[j3 l]),(false,[.f 232 []])] [] (.one (false,[.i .i64 (a3C (fun y=>!i4 y) l)])):=by
 refine sx' false false none Tryz.func294 (q' 4 [aK 0] (.seq (q' 6 [am 0,aN,aK 0] (.block 0 (.loop (q' 9 [ar 8 7] (.seq (.cond (.t 9) .skip (.exit 0)) (.seq (.block 1 (q' 10 [am 8,aV 5] (q' 11 [aM [1,0,5],aI 2,aE 2,ao (.callv (.t 11) [.t 15])] (.cond (.t 16) (q' 17 [am 5,aV 4] .ret) .skip)))) (g' 18 [aA 8]))))))) (q' 4 [ao (.mov (.k (.v false [.c (.i .i64 (-1))])))] .ret))) [.t 4] [(232,[],a3S)] ?_;intro hb hE;simp only [go_sem];repeat' first | apply cj' | intro hc | exact om' | fail
 refine lq' false [0,1,7] [] [] (fun i:{i:Nat // i<=l.length/\(l.take i).any (fun y=>!i4 y)=false}=>[(8,slV (.i .i64 i.1))]) nl' nl' (fun i=>l.length - i.1) (⟨0,by simp⟩) ?_;intro S0 hS0 i;obtain ⟨i,hi,ha⟩:=i;simp only [go_sem,hS0];repeat' first | apply cj' | intro hc | exact om' | fail
 ·exact (a0O (p:=fun y=>!i4 y) (d:=default) (by omega) ha (by simpa [-List.getD_eq_getElem?_getD] using hc)).symm
 ·exact nx0 ⟨i+1,by omega,a0t (p:=fun y=>!i4 y) default (by omega) ha (by simpa [-List.getD_eq_getElem?_getD] using hc)⟩
 ·exact (a0s (by rwa [f8 (by omega)] at ha)).symm
noncomputable def b0K:CT:=j4 (fun (x:(List c6))=>b8L x)
@[go_sem] def c4e:=fun l=>nm' (fQ' b0K rfl l)
def b8K (l:List c6):A0c Tryz.prog 231 [(false,[j3 l]),(false,[.f 232 []])] [] (.one (false,[.b (l.any (fun y=>!i4 y))])):=by
 refine sx' false false none Tryz.func231 (q' 0 [ab 4 false] (q' 5 [aM [0,1],ac 294 [5,6],ao (.bin .geq (.t 7) (k' 0)),aV 4] .ret)) [.t 4] [(294,[],b0K)] ?_;intro hb hE;simp only [go_sem];repeat' first | apply cj' | intro hc | exact om' | fail
 ·exact a6t _ _
noncomputable def b0J:CT:=j4 (fun (x:(List c6))=>b8K x)
@[go_sem] def c4d:=fun l=>nm' (fQ' b0J rfl l)
def b4U (r:c7):A0c Tryz.prog 179 [(true,[j3 r.V])] [] (.one (false,[.b (a0o r)])):=by
 refine sx' false false none Tryz.func179 (q' 0 [ax (o' 1 (.box 1 (.t 0))),ab 2 false] (q' 3 [aG 0 1,aN,ao (.bin .leq (.t 5) (k' 6)),am 6,au (.fa 0 (.t 1)) 7 true,au (.ld false 1 (.t 8)) 7 true,au (.call 231 [.t 9,.k (.v false [.c (.f 232 [])])]) 7 true,au (.not (.t 10)) 7 true,ao (.pick (.t 7) (.t 11) (bb false)),aV 2] .ret)) [.t 2] [(231,[],b0J)] ?_;intro hb hE;simp only [go_sem];repeat' first | apply cj' | intro hc | exact om' | fail
 all_goals rw [a9D,q5F,a0o]
noncomputable def a5V:CT:=j4 (fun (x:c7)=>b4U x)
@[go_sem] def c2a:=fun x0=>nm' (fQ' a5V rfl ⟨x0⟩)
def c1H (a:List c6) (b:List c6):A0c Tryz.prog 233 [(false,[j3 a]),(false,[j3 b]),(false,[.f 234 []])] [] (.one (false,[.i .i64 (a0l a b)])):=by
 refine sx' false false none Tryz.func233 (q' 6 [aK 0] (.seq (q' 11 [am 0,aN,aK 0] (.block 0 (.loop (q' 14 [ar 13 12] (.seq (.cond (.t 14) .skip (.exit 0)) (.seq (.block 1 (q' 15 [am 13,ai 2 11 13,aE 2,ax (w' 8 [.i .i64,.s]),av 7 15,aS 2 8 17] (.seq (q' 18 [aM [7,1],aN,ao (.bin .geq (.t 18) (.t 20))] (.cond (.t 21) (q' 6 [aK 1] .ret) .skip)) (q' 22 [aM [1,7],aI 2,aE 2,ax (w' 9 [.i .i64,.s]),aS 2 9 25] (q' 26 [am 2,ae 2 8,ae 2 9,ao (.callv (.t 26) [.t 27,.t 28]),aV 10] (q' 30 [am 10,ao (.bin .neq (.t 30) (k' 0))] (.cond (.t 31) (q' 32 [am 10,aV 6] .ret) .skip))))))) (g' 33 [aA 13]))))))) (.seq (q' 34 [am 0,aN,am 1,aN,ar 35 37] (.cond (.t 38) (q' 6 [ao (.mov (.k (.v false [.c (.i .i64 (-1))])))] .ret) .skip)) (q' 6 [aK 0] .ret)))) [.t 6] [(234,[],a0w)] ?_;intro hb hE;simp only [go_sem];repeat' first | apply cj' | intro hc | exact om' | fail
 refine lq' false [0,1,2,11,12] [] [] (fun i:{i:Nat // i<=a.length/\i<=b.length/\a0l (a.drop i) (b.drop i)=a0l a b}=>[(13,slV (.i .i64 i.1))]) nl' nl' (fun i=>a.length - i.1) (⟨0,by simp⟩) ?_;intro S0 hS0 i;obtain ⟨i,hi,hj,he⟩:=i;simp only [go_sem,hS0];repeat' first | apply cj' | intro hc | exact om' | fail
 ·rw [<- he,b0C hi hj (by omega),if_neg (by omega),if_pos (by omega)]
 ·rw [<- he,s9 (l:=a) default (by omega),s9 (l:=b) default (by omega),a0l,if_neg (by simpa using hc)]
 ·have h2:=he;rw [s9 (l:=a) default (by omega),s9 (l:=b) default (by omega),a0l,if_pos (by simpa using hc)] at h2;exact nx0 ⟨i+1,by omega,by omega,h2⟩
 ·rw [<- he,b0C hi hj (by omega),if_pos (by omega)]
 ·rw [<- he,b0C hi hj (by omega),if_neg (by omega),if_neg (by omega)]
noncomputable def b3M:CT:=j4 (fun (x:(List c6)×(List c6))=>c1H x.1 x.2)
@[go_sem] def c4j:=fun a b=>nm' (fQ' b3M rfl (a,b))
def a6z (a:c7) (b:c7):A0c Tryz.prog 180 [(true,[j3 a.V]),(true,[j3 b.V])] [] (.one (false,[.i .i64 (a0l a.V b.V)])):=by
 refine sx' false false none Tryz.func180 (q' 2 [ao (.box 1 (.t 0)),ao (.box 1 (.t 1)),aK 0] (q' 5 [aG 0 2,aG 0 3,ao (.call 233 [.t 6,.t 8,.k (.v false [.c (.f 234 [])])]),aV 4] .ret)) [.t 4] [(233,[],b3M)] ?_;intro hb hE;simp only [go_sem];repeat' first | apply cj' | intro hc | exact om' | fail
noncomputable def a2I:CT:=j4 (fun (x:c7×c7)=>a6z x.1 x.2)
@[go_sem] def c2e:=fun x0 x1=>nm' (fQ' a2I rfl (⟨x0⟩,⟨x1⟩))
def a9p (a:c7) (b:c7):A0c Tryz.prog 217 [(true,[j3 a.V]),(true,[j3 b.V])] [] (.one (false,[.i .i64 (a4C a b)])):=by
 refine sx' false false none Tryz.func217 (q' 2 [ao (.box 1 (.t 0)),ao (.box 1 (.t 1)),aK 0] (.seq (q' 5 [ae 1 2,ac 216 [5],ao (.not (.t 6)),am 7,au (.ld true 1 (.t 3)) 8 false,au (.call 216 [.t 9]) 8 false,au (.not (.t 10)) 8 false,ao (.pick (.t 8) (bb true) (.t 11))] (.cond (.t 12) (q' 4 [aK 2] .ret) .skip)) (q' 13 [ae 1 2,ae 1 3,ac 161 [13,14],aV 4] .ret))) [.t 4] [(216,[],a2L),(161,[],a1e)] ?_;intro hb hE;simp only [go_sem];repeat' first | apply cj' | intro hc | exact om' | fail
 ·rcases hc with h | h<;>simp [a4C,h]
 ·rw [a4C,hc.1,hc.2];rfl
noncomputable def a3l:CT:=j4 (fun (x:c7×c7)=>a9p x.1 x.2)
@[go_sem] def b8k:=fun x0 x1=>nm' (fQ' a3l rfl (⟨x0⟩,⟨x1⟩))
def a1K {n:Nat} {p:Nat->Bool} (h:a2p n p=false) {j:Nat} (hj:j < n):p j=false:=by
 simp only [a2p,q1R] at h;simpa using b0B h hj
def t7 {r:c7} (h:a0o r=true):∀ x∈r.V,i4 x=true:=by
 simp only [a0o,W5,q0J] at h;exact h.2
def a0Q {r:d7} {i:Nat} (h:y5 r i=false):a0o (r.Rows.getD i default)=true:=by
 simp only [y5,q2N,q1R] at h;exact h.1.2
def bRow_ge {a b:List c6} (ha:∀ x∈a,i4 x=true) (hb:∀ x∈b,i4 x=true):decide (0<=a0l a b)=!(z8 a b==-1):=by
 have h:=a6I ha hb;unfold sgn at h;rw [q3I];simp only [q0H,q1G,beq_eq_false_iff_ne];omega
def c1P {r:d7} {i:Nat} (ha:a2p i (y5 r)=false):(!a0o (r.Rows.getD i default) || !((r.Rows.getD i default).V.length==r.Arity) || (decide (0 < i)&&decide (0<=a0l (r.Rows.getD (i - 1) default).V (r.Rows.getD i default).V)))=y5 r i:=by
 rw [y5];cases h:a0o (r.Rows.getD i default) with
 | false=>simp
 | true=>
   by_cases h0:0 < i
   ·rw [bRow_ge (t7 (a0Q (a1K ha (show i - 1 < i by omega)))) (t7 h)];simp
   ·rw [V9 h0];simp
def b1T {r:d7} {i:Nat} (hi:i < r.Rows.length) (h:y5 r i=true):z7 r=false:=by
 rw [z7,a4D hi h];simp
def b5o (r:d7):A0c Tryz.prog 153 [(true,[.i .i64 r.Arity,v6 r.Rows])] [] (.one (false,[.b (z7 r)])):=by
 refine sx' false false none Tryz.func153 (q' 0 [ax (o' 1 (.box 2 (.t 0))),ab 2 false] (.seq (q' 4 [aG 0 1,ao (.bin .lss (.t 5) (k' 0)),am 6,au (.fa 0 (.t 1)) 7 false,au (.ld false 1 (.t 8)) 7 false,au (.bin .gtr (.t 9) (k' 6)) 7 false,ao (.pick (.t 7) (bb true) (.t 10)),am 11,au (.fa 1 (.t 1)) 12 false,au (.ld false 1 (.t 13)) 12 false,au (.len (.t 14)) 12 false,au (.bin .gtr (.t 15) (k' 300)) 12 false,ao (.pick (.t 12) (bb true) (.t 16))] (.cond (.t 17) (q' 0 [ab 2 false] .ret) .skip)) (.seq (q' 18 [aG 1 1,aN,aK 0] (.block 0 (.loop (q' 22 [ar 21 20] (.seq (.cond (.t 22) .skip (.exit 0)) (.seq (.block 1 (q' 23 [am 21,aV 3] (.seq (.seq (G' 24 [aG 1 1,am 3,aI 1,aG 0 27,aN,aG 0 1,ao (.bin .neq (.t 30) (.t 32)),am 33,au (.fa 1 (.t 1)) 34 false,au (.ld false 1 (.t 35)) 34 false,au (.mov (.t 3)) 34 false,au (.ia 1 (.t 36) (.t 37)) 34 false,au (.ld true 1 (.t 38)) 34 false,au (.call 216 [.t 39]) 34 false,au (.not (.t 40)) 34 false,ao (.pick (.t 34) (bb true) (.t 41))]) (.cond (.t 42) (q' 0 [ab 2 false] .ret) .skip)) (.seq (G' 43 [am 3,ao (.bin .gtr (.t 43) (k' 0)),am 44,au (.fa 1 (.t 1)) 45 true,au (.ld false 1 (.t 46)) 45 true,au (.mov (.t 3)) 45 true,au (.bin .sub (.t 48) (k' 1)) 45 true,au (.ia 1 (.t 47) (.t 49)) 45 true,au (.ld true 1 (.t 50)) 45 true,au (.fa 1 (.t 1)) 45 true,au (.ld false 1 (.t 52)) 45 true,au (.mov (.t 3)) 45 true,au (.ia 1 (.t 53) (.t 54)) 45 true,au (.ld true 1 (.t 55)) 45 true,au (.call 217 [.t 51,.t 56]) 45 true,au (.bin .neq (.t 57) (.k (.v false [.c (.i .i64 (-1))]))) 45 true,ao (.pick (.t 45) (.t 58) (bb false))]) (.cond (.t 59) (q' 0 [ab 2 false] .ret) .skip))))) (g' 60 [aA 21]))))))) (q' 0 [ab 2 true] .ret)))) [.t 2] [(216,[],a2L),(217,[],a3l)] ?_;intro hb hE;simp only [go_sem];repeat' first | apply cj' | intro hc | exact om' | fail
 ·rcases hc with (h | h) | h
  ·rw [z7,V9 (show ¬ 0<=r.Arity by omega)];rfl
  ·rw [z7,V9 (show ¬ r.Arity<=6 by omega)];simp
  ·rw [z7,V9 (show ¬ (r.Rows.length:Int)<=300 by omega)];simp
 have hA:=hc;clear hc;refine lq' false [1,20] [2] [] (fun i:{i:Nat // i<=r.Rows.length/\a2p i (y5 r)=false}=>[(21,slV (.i .i64 i.1))]) nl' nl' (fun i=>r.Rows.length - i.1) (⟨0,by simp [a1p]⟩) ?_;intro S0 hS0 i;obtain ⟨i,hi,ha⟩:=i;have hw:0 < i->IntKind.i64.wrap ((i:Int) - 1)=((i - 1:Nat):Int):=fun h=>by rw [IntWalk.i64_in _ (by omega)];omega
 simp only [go_sem,hS0];repeat' first | apply cj' | intro hc | exact om' | fail
 ·have hq:y5 r i=true:=by
   rw [y5];rcases hc with h | h
   ·simp only [bne] at h;rw [h];rfl
   ·rw [h];simp
  rw [b1T (by omega) hq]
 ·rename_i h1;have hq:y5 r i=true:=by
   rw [hw (by omega)] at hc;rw [a4C,h1.2,show ((i - 1:Nat):Int).toNat=i - 1 from rfl,a0Q (a1K ha (show i - 1 < i by omega))] at hc;rw [y5,V5 (show 0 < i by omega)];have h3:=hc.2;simp only [bne,q1M,V1] at h3;rw [h3];simp
  rw [b1T (by omega) hq]
 ·rename_i h1;have hq:y5 r i=false:=by
   have h2:=h1.1;simp only [bne] at h2;rw [y5,h2,h1.2];by_cases h0:0 < i
   ·rw [hw h0,V5 (show (0:Int) < i by omega),a4C,h1.2,show ((i - 1:Nat):Int).toNat=i - 1 from rfl,a0Q (a1K ha (show i - 1 < i by omega))] at hc;rw [V5 h0];exact hc
   ·rw [V9 h0];rfl
  exact nx0 ⟨i+1,by omega,a1o ha hq⟩
 ·obtain rfl:i=r.Rows.length:=by omega
  rw [z7,ha,V5 (show 0<=r.Arity by omega),V5 (show r.Arity<=6 by omega),V5 (show (r.Rows.length:Int)<=300 by omega)];rfl
noncomputable def a6n:CT:=j4 (fun (x:d7)=>b5o x)
@[go_sem] def c2w:=fun x0 x1=>nm' (fQ' a6n rfl ⟨x0,x1⟩)
def b4T (r:d7):A0c Tryz.prog 105 [(true,[.i .i64 r.Arity,v6 r.Rows])] [] (.one (false,[.b (z7 r)])):=by
 refine sx' false false none Tryz.func105 (q' 0 [ax (o' 1 (.box 2 (.t 0))),ab 2 false] (.seq (q' 5 [aG 1 1,aN,aK 0] (.block 0 (.loop (q' 9 [ar 8 7] (.seq (.cond (.t 9) .skip (.exit 0)) (.seq (.block 1 (q' 10 [am 8,ai 1 6 8,aE 1,ax (w' 4 [.sl i9]),av 3 10,aS 1 4 12] (.seq (G' 13 [ae 1 4,ac 179 [13],ao (.not (.t 14)),am 15,au (.fa 0 (.t 4)) 16 false,au (.ld false 1 (.t 17)) 16 false,au (.len (.t 18)) 16 false,au (.fa 0 (.t 1)) 16 false,au (.ld false 1 (.t 20)) 16 false,au (.bin .neq (.t 19) (.t 21)) 16 false,ao (.pick (.t 16) (bb true) (.t 22)),am 23,au (.mov (.t 3)) 24 false,au (.bin .gtr (.t 25) (k' 0)) 24 false,au (.mov (.t 26)) 24 false,au (.fa 1 (.t 1)) 27 true,au (.ld false 1 (.t 28)) 27 true,au (.mov (.t 3)) 27 true,au (.bin .sub (.t 30) (k' 1)) 27 true,au (.ia 1 (.t 29) (.t 31)) 27 true,au (.ld true 1 (.t 32)) 27 true,au (.ld true 1 (.t 4)) 27 true,au (.call 180 [.t 33,.t 34]) 27 true,au (.bin .geq (.t 35) (k' 0)) 27 true,au (.pick (.t 27) (.t 36) (bb false)) 24 false,ao (.pick (.t 24) (bb true) (.t 37))]) (.cond (.t 38) (q' 0 [ab 2 false] .ret) .skip)))) (g' 39 [aA 8]))))))) (q' 40 [aG 0 1,ao (.call 181 [.t 41,.k (.v false [.c (.i .i64 6)])]),am 42,au (.fa 1 (.t 1)) 43 true,au (.ld false 1 (.t 44)) 43 true,au (.len (.t 45)) 43 true,au (.bin .leq (.t 46) (k' 300)) 43 true,ao (.pick (.t 43) (.t 47) (bb false)),aV 2] .ret))) [.t 2] [(179,[],a5V),(180,[],a2I),(181,[],a8e)] ?_;intro hb hE;simp only [go_sem];repeat' first | apply cj' | intro hc | exact om' | fail
 refine lq' false [1,6,7] [2] [] (fun i:{i:Nat // i<=r.Rows.length/\a2p i (y5 r)=false}=>[(8,slV (.i .i64 i.1))]) nl' nl' (fun i=>r.Rows.length - i.1) (⟨0,by simp [a1p]⟩) ?_;intro S0 hS0 i;obtain ⟨i,hi,ha⟩:=i;have hR:=c1P ha;have hw:0 < i->IntKind.i64.wrap ((i:Int) - 1)=((i - 1:Nat):Int):=fun h=>by rw [IntWalk.i64_in _ (by omega)];omega
 simp only [go_sem,hS0];repeat' first | apply cj' | intro hc | exact om' | fail
 ·have hq:y5 r i=true:=by
   rw [<- hR];rcases hc with (h | h) | ⟨h0,h⟩
   ·rw [h];rfl
   ·simp only [bne] at h;rw [h];simp
   ·rw [hw (by omega)] at h;have h':0<=a0l (r.Rows.getD (i - 1) default).V (r.Rows.getD i default).V:=h;rw [V5 (show 0 < i by omega),V5 h'];simp
  rw [b1T (by omega) hq]
 ·have hq:y5 r i=false:=by
   rw [<- hR];obtain ⟨⟨h1,h2⟩,h3⟩:=hc;simp only [bne] at h2;rw [h1,h2];by_cases h0:0 < i
   ·rw [hw h0,V5 (show (0:Int) < i by omega)] at h3;rw [V5 h0];exact h3
   ·rw [V9 h0];rfl
  exact nx0 ⟨i+1,by omega,a1o ha hq⟩
 ·obtain rfl:i=r.Rows.length:=by omega
  rw [z7,ha];simp
noncomputable def a5U:CT:=j4 (fun (x:d7)=>b4T x)
@[go_sem] def c1Z:=fun x0 x1=>nm' (fQ' a5U rfl ⟨x0,x1⟩)
def b4b {s:d5} {i:Nat} (hi:i < s.Rels.length) (h:a0h s.Rels i=true):m8 s=false:=by
 rw [m8,a4D hi h];simp
def b1G (s:d5):A0c Tryz.prog 88 [(true,[o9 s.Rels])] [] (.one (false,[.b (m8 s)])):=by
 refine sx' false false none Tryz.func88 (q' 0 [ax (o' 1 (.box 1 (.t 0))),ab 2 false] (.seq (q' 4 [aG 0 1,aN,ao (.bin .gtr (.t 6) (k' 24))] (.cond (.t 7) (q' 0 [ab 2 false] .ret) .skip)) (.seq (q' 8 [aG 0 1,aN,aK 0] (.block 0 (.loop (q' 12 [ar 11 10] (.seq (.cond (.t 12) .skip (.exit 0)) (.seq (.block 1 (q' 13 [am 11,aV 3] (.seq (G' 14 [aG 0 1,am 3,aI 3,aG 0 17,ac 152 [19],ao (.not (.t 20)),am 21,au (.fa 0 (.t 1)) 22 false,au (.ld false 1 (.t 23)) 22 false,au (.mov (.t 3)) 22 false,au (.ia 3 (.t 24) (.t 25)) 22 false,au (.fa 1 (.t 26)) 22 false,au (.ld true 2 (.t 27)) 22 false,au (.call 153 [.t 28]) 22 false,au (.not (.t 29)) 22 false,ao (.pick (.t 22) (bb true) (.t 30)),am 31,au (.mov (.t 3)) 32 false,au (.bin .gtr (.t 33) (k' 0)) 32 false,au (.mov (.t 34)) 32 false,au (.fa 0 (.t 1)) 35 true,au (.ld false 1 (.t 36)) 35 true,au (.mov (.t 3)) 35 true,au (.bin .sub (.t 38) (k' 1)) 35 true,au (.ia 3 (.t 37) (.t 39)) 35 true,au (.fa 0 (.t 40)) 35 true,au (.ld false 1 (.t 41)) 35 true,au (.fa 0 (.t 1)) 35 true,au (.ld false 1 (.t 43)) 35 true,au (.mov (.t 3)) 35 true,au (.ia 3 (.t 44) (.t 45)) 35 true,au (.fa 0 (.t 46)) 35 true,au (.ld false 1 (.t 47)) 35 true,au (.bin .geq (.t 42) (.t 48)) 35 true,au (.pick (.t 35) (.t 49) (bb false)) 32 false,ao (.pick (.t 32) (bb true) (.t 50))]) (.cond (.t 51) (q' 0 [ab 2 false] .ret) .skip)))) (g' 52 [aA 11]))))))) (q' 0 [ab 2 true] .ret)))) [.t 2] [(152,[],a0T),(153,[],a6n)] ?_;intro hb hE;simp only [go_sem];repeat' first | apply cj' | intro hc | exact om' | fail
 ·rw [m8,V9 (by omega)];rfl
 have hA:=hc;clear hc;refine lq' false [1,10] [2] [] (fun i:{i:Nat // i<=s.Rels.length/\a2p i (a0h s.Rels)=false}=>[(11,slV (.i .i64 i.1))]) nl' nl' (fun i=>s.Rels.length - i.1) (⟨0,by simp [a1p]⟩) ?_;intro S0 hS0 i;obtain ⟨i,hi,ha⟩:=i;have hw:0 < i->IntKind.i64.wrap ((i:Int) - 1)=((i - 1:Nat):Int):=fun h=>by rw [IntWalk.i64_in _ (by omega)];omega
 simp only [go_sem,hS0];repeat' first | apply cj' | intro hc | exact om' | fail
 ·have hq:a0h s.Rels i=true:=by
   rw [a0h];rcases hc with (h | h) | ⟨h0,h⟩
   ·rw [h];rfl
   ·rw [h];simp
   ·rw [hw (by omega)] at h;have h':Op.bytesLess (s.Rels.getD (i - 1) default).Name (s.Rels.getD i default).Name=false:=h;rw [V5 (show 0 < i by omega),h'];simp
  rw [b4b (by omega) hq]
 ·have hq:a0h s.Rels i=false:=by
   obtain ⟨⟨h1,h2⟩,h3⟩:=hc;rw [a0h,h1,h2];by_cases h0:0 < i
   ·rw [hw h0,V5 (show (0:Int) < i by omega)] at h3;rw [V5 h0];exact h3
   ·rw [V9 h0];rfl
  exact nx0 ⟨i+1,by omega,a1o ha hq⟩
 ·obtain rfl:i=s.Rels.length:=by omega
  rw [m8,ha,V5 (show (s.Rels.length:Int)<=24 by omega)];rfl
noncomputable def a4m:CT:=j4 (fun (x:d5)=>b1G x)
@[go_sem] def b9B:=fun x0=>nm' (fQ' a4m rfl ⟨x0⟩)
def b1i (s:d5):A0c Tryz.prog 47 [(true,[o9 s.Rels])] [] (.one (false,[.b (m8 s)])):=by
 refine sx' false false none Tryz.func47 (q' 0 [ax (o' 1 (.box 1 (.t 0))),ab 2 false] (.seq (q' 5 [aG 0 1,aN,aK 0] (.block 0 (.loop (q' 9 [ar 8 7] (.seq (.cond (.t 9) .skip (.exit 0)) (.seq (.block 1 (q' 10 [am 8,ai 3 6 8,aE 3,ax (w' 4 [.s,.i .i64,.sl o6]),av 3 10,aS 3 4 12] (.seq (G' 13 [aG 0 4,ac 104 [14],ao (.not (.t 15)),am 16,au (.fa 1 (.t 4)) 17 false,au (.ld true 2 (.t 18)) 17 false,au (.call 105 [.t 19]) 17 false,au (.not (.t 20)) 17 false,ao (.pick (.t 17) (bb true) (.t 21)),am 22,au (.mov (.t 3)) 23 false,au (.bin .gtr (.t 24) (k' 0)) 23 false,au (.mov (.t 25)) 23 false,au (.fa 0 (.t 1)) 26 true,au (.ld false 1 (.t 27)) 26 true,au (.mov (.t 3)) 26 true,au (.bin .sub (.t 29) (k' 1)) 26 true,au (.ia 3 (.t 28) (.t 30)) 26 true,au (.fa 0 (.t 31)) 26 true,au (.ld false 1 (.t 32)) 26 true,au (.fa 0 (.t 4)) 26 true,au (.ld false 1 (.t 34)) 26 true,au (.bin .geq (.t 33) (.t 35)) 26 true,au (.pick (.t 26) (.t 36) (bb false)) 23 false,ao (.pick (.t 23) (bb true) (.t 37))]) (.cond (.t 38) (q' 0 [ab 2 false] .ret) .skip)))) (g' 39 [aA 8]))))))) (q' 40 [aG 0 1,aN,ao (.bin .leq (.t 42) (k' 24)),aV 2] .ret))) [.t 2] [(104,[],a0S),(105,[],a5U)] ?_;intro hb hE;simp only [go_sem];repeat' first | apply cj' | intro hc | exact om' | fail
 refine lq' false [1,6,7] [2] [] (fun i:{i:Nat // i<=s.Rels.length/\a2p i (a0h s.Rels)=false}=>[(8,slV (.i .i64 i.1))]) nl' nl' (fun i=>s.Rels.length - i.1) (⟨0,by simp [a1p]⟩) ?_;intro S0 hS0 i;obtain ⟨i,hi,ha⟩:=i;have hw:0 < i->IntKind.i64.wrap ((i:Int) - 1)=((i - 1:Nat):Int):=fun h=>by rw [IntWalk.i64_in _ (by omega)];omega
 simp only [go_sem,hS0];repeat' first | apply cj' | intro hc | exact om' | fail
 ·have hq:a0h s.Rels i=true:=by
   rw [a0h];rcases hc with (h | h) | ⟨h0,h⟩
   ·rw [h];rfl
   ·rw [h];simp
   ·rw [hw (by omega)] at h;have h':Op.bytesLess (s.Rels.getD (i - 1) default).Name (s.Rels.getD i default).Name=false:=h;rw [V5 (show 0 < i by omega),h'];simp
  rw [b4b (by omega) hq]
 ·have hq:a0h s.Rels i=false:=by
   obtain ⟨⟨h1,h2⟩,h3⟩:=hc;rw [a0h,h1,h2];by_cases h0:0 < i
   ·rw [hw h0,V5 (show (0:Int) < i by omega)] at h3;rw [V5 h0];exact h3
   ·rw [V9 h0];rfl
  exact nx0 ⟨i+1,by omega,a1o ha hq⟩
 ·obtain rfl:i=s.Rels.length:=by omega
  rw [m8,ha,q3E,q1E]
noncomputable def a3T:CT:=j4 (fun (x:d5)=>b1i x)
@[go_sem] def b9c:=fun x0=>nm' (fQ' a3T rfl ⟨x0⟩)
def a7R {r:d7} (h:z7 r=true):r.Rows.length<=300:=by
 simp only [z7,W5,q0H] at h;omega
def b6Y {s:d5} (h:m8 s=true):∀ x∈s.Rels,z7 x.Rel=true:=by
 intro x hx;obtain ⟨i,hi,rfl⟩:=q3X hx;simp only [m8,W5,q1G] at h;have:=a1K h.2 hi;simp only [a0h,q2N,q1R,l4 default hi] at this;exact this.1.2
def v8 (s:d5) (n:List UInt8):d7×Bool:=if 0<=a3C (fun x:d6=>x.Name==n) s.Rels then ((s.Rels.getD (a3C (fun x:d6=>x.Name==n) s.Rels).toNat default).Rel,true) else (⟨0,[]⟩,false)
def b1S {s:d5} {n:List UInt8} {i:Nat} (hi:i < s.Rels.length) (ha:(s.Rels.take i).any (fun x=>x.Name==n)=false) (h:((s.Rels.getD i default).Name==n)=true):v8 s n=((s.Rels.getD i default).Rel,true):=by
 rw [v8,a0O (p:=fun x:d6=>x.Name==n) default hi ha h,if_pos (by omega)];rfl
def b1R {s:d5} {n:List UInt8} (ha:s.Rels.any (fun x=>x.Name==n)=false):v8 s n=(⟨0,[]⟩,false):=by
 rw [v8,a0s ha,if_neg (by decide)]
def b3w (s:d5) (n:List UInt8):A0c Tryz.prog 154 [(true,[o9 s.Rels]),(false,[.s n])] [] (.tup [(true,[.i .i64 (((v8 s n).1).Arity),v6 (((v8 s n).1).Rows)]),(false,[.b ((v8 s n).2)])]):=by
 refine sx' false true none Tryz.func154 (q' 2 [ao (.box 1 (.t 0)),ax (w' 4 [.i .i64,.sl o6]),ab 5 false] (.seq (q' 7 [aG 0 2,aN,aK 0] (.block 0 (.loop (q' 11 [ar 10 9] (.seq (.cond (.t 11) .skip (.exit 0)) (.seq (.block 1 (q' 12 [am 10,aV 6] (q' 13 [aG 0 2,am 6,aI 3,aG 0 16,am 1,ao (.bin .eql (.t 18) (.t 19))] (.cond (.t 20) (q' 21 [aG 0 2,am 6,aI 3,aF 1,aE 2,aS 2 4 26,ab 5 true] .ret) .skip)))) (g' 27 [aA 10]))))))) (q' 28 [ao (.bld [.i .i64,.sl o6] []),aS 2 4 28,ab 5 false] .ret))) [.c 4 true 2,.t 5] [] ?_;intro hb hE;simp only [go_sem];repeat' first | apply cj' | intro hc | exact om' | fail
 refine lq' false [1,2,4,9] [4] [] (fun i:{i:Nat // i<=s.Rels.length/\(s.Rels.take i).any (fun x=>x.Name==n)=false}=>[(10,slV (.i .i64 i.1))]) (fun i=>[(8,[.c (.i .i64 0),.nl o6])]) nl' (fun i=>s.Rels.length - i.1) (⟨0,by simp⟩) ?_;intro S0 hS0 i;obtain ⟨i,hi,ha⟩:=i;simp only [go_sem,hS0];repeat' first | apply cj' | intro hc | exact om' | fail
 ·rw [b1S (by omega) ha hc];exact ⟨⟨rfl,rfl⟩,rfl⟩
 ·exact nx0 ⟨i+1,by omega,a0t (p:=fun x:d6=>x.Name==n) default (by omega) ha hc⟩
 ·rw [f8 (by omega)] at ha;rw [b1R ha];exact ⟨⟨rfl,rfl⟩,rfl⟩
noncomputable def a2j:CT:=j4 (fun (x:d5×(List UInt8))=>b3w x.1 x.2)
@[go_sem] def c1q:=fun x0 n=>nm' (fQ' a2j rfl (⟨x0⟩,n))
def b5b (s:d5) (n:List UInt8):A0c Tryz.prog 235 [(true,[o9 s.Rels]),(false,[.s n])] [] (.tup [(true,[.i .i64 (((v8 s n).1).Arity),v6 (((v8 s n).1).Rows)]),(false,[.b ((v8 s n).2)])]):=by
 refine sx' false true none Tryz.func235 (q' 2 [ao (.box 1 (.t 0)),ax (w' 4 [.i .i64,.sl o6]),ab 5 false] (.seq (q' 8 [aG 0 2,aN,aK 0] (.block 0 (.loop (q' 12 [ar 11 10] (.seq (.cond (.t 12) .skip (.exit 0)) (.seq (.block 1 (q' 13 [ai 3 9 11,aE 3,ax (w' 7 [.s,.i .i64,.sl o6]),aS 3 7 14] (q' 15 [aG 0 7,am 1,ao (.bin .eql (.t 16) (.t 17))] (.cond (.t 18) (q' 19 [af 1 7,aE 2,aS 2 4 20,ab 5 true] .ret) .skip)))) (g' 21 [aA 11]))))))) (q' 22 [ao (.bld [.i .i64,.sl o6] []),aS 2 4 22,ab 5 false] .ret))) [.c 4 true 2,.t 5] [] ?_;intro hb hE;simp only [go_sem];repeat' first | apply cj' | intro hc | exact om' | fail
 refine lq' false [1,4,9,10] [] [] (fun i:{i:Nat // i<=s.Rels.length/\(s.Rels.take i).any (fun x=>x.Name==n)=false}=>[(11,slV (.i .i64 i.1))]) (fun i=>[(8,[.c (.i .i64 0),.nl o6])]) nl' (fun i=>s.Rels.length - i.1) (⟨0,by simp⟩) ?_;intro S0 hS0 i;obtain ⟨i,hi,ha⟩:=i;simp only [go_sem,hS0];repeat' first | apply cj' | intro hc | exact om' | fail
 ·rw [b1S (by omega) ha hc];exact ⟨⟨rfl,rfl⟩,rfl⟩
 ·exact nx0 ⟨i+1,by omega,a0t (p:=fun x:d6=>x.Name==n) default (by omega) ha hc⟩
 ·rw [f8 (by omega)] at ha;rw [b1R ha];exact ⟨⟨rfl,rfl⟩,rfl⟩
noncomputable def a2J:CT:=j4 (fun (x:d5×(List UInt8))=>b5b x.1 x.2)
@[go_sem] def c2j:=fun x0 n=>nm' (fQ' a2J rfl (⟨x0⟩,n))
def vNe (a b:List c6) (i:Nat):Bool:=!vEq (a.getD i default) (b.getD i default)
def a0B (a b:List c6):Bool:=decide (a.length=b.length)&&!a2p a.length (vNe a b)
def c3U {a b:c6} (h:vEq a b=true):a=b:=by
 obtain ⟨n,s⟩:=a;obtain ⟨m,r⟩:=b;simp only [vEq,W5,beq_iff_eq] at h;rw [h.1,h.2]
def vEq_rfl (a:c6):vEq a a=true:=by simp [vEq]
def a8j (a b:List c6):a0B a b=decide (a=b):=by
 rw [q3I,q0H];constructor
 ·intro h;simp only [a0B,W5,q0H,q1G] at h;refine q4O h.1 fun i h1 h2=>?_
  have:=a1K h.2 h1;simp only [vNe,q1R,l4 default h1,l4 default h2] at this;exact c3U this
 ·rintro rfl;rw [a0B,V5 rfl,q0N,q1G];cases h:a2p a.length (vNe a a) with
  | false=>rfl
  | true=>
    simp only [a2p,q1G] at h;rw [c2U.2 fun i _=>by simp [vNe,vEq_rfl]] at h;cases h
def a6D (a:c7) (b:c7):A0c Tryz.prog 194 [(true,[j3 a.V]),(true,[j3 b.V])] [] (.one (false,[.b (decide (a.V=b.V))])):=by
 refine sx' false false none Tryz.func194 (q' 2 [ao (.box 1 (.t 0)),ao (.box 1 (.t 1)),ao (.mov (bb false))] (.seq (q' 6 [aG 0 2,aN,aG 0 3,aN,ao (.bin .neq (.t 8) (.t 11))] (.cond (.t 12) (q' 0 [ab 4 false] .ret) .skip)) (.seq (q' 13 [aG 0 2,aN,aK 0] (.block 0 (.loop (q' 17 [ar 16 15] (.seq (.cond (.t 17) .skip (.exit 0)) (.seq (.block 1 (q' 18 [am 16,aV 5] (.seq (G' 19 [aG 0 2,am 5,aI 2,aE 2,aG 0 3,am 5,aI 2,aE 2,ao (.eqs true [.i .i64,.s] (.t 23) (.t 28))]) (.cond (.t 29) (q' 0 [ab 4 false] .ret) .skip)))) (g' 30 [aA 16]))))))) (q' 0 [ab 4 true] .ret)))) [.t 4] [] ?_;intro hb hE;rw [<- a8j];simp only [go_sem];repeat' first | apply cj' | intro hc | exact om' | fail
 ·rw [a0B,V9 (fun h=>by simp [h] at hc)];rfl
 have hl:a.V.length=b.V.length:=by simpa [q3M] using hc
 clear hc;refine lq' false [2,3,15] [4,6] [] (fun i:{i:Nat // i<=a.V.length/\a2p i (vNe a.V b.V)=false}=>[(16,slV (.i .i64 i.1))]) nl' nl' (fun i=>a.V.length - i.1) (⟨0,by simp [a1p]⟩) ?_;intro S0 hS0 i;obtain ⟨i,hi,ha⟩:=i;simp only [go_sem,hS0];repeat' first | apply cj' | intro hc | exact om' | fail
 ·rw [a0B,a4D (i:=i) (by omega) (show vNe a.V b.V i=true by rw [vNe,vEq,hc];rfl)];simp
 ·exact nx0 ⟨i+1,by omega,a1o ha (show vNe a.V b.V i=false by rw [vNe,vEq,hc.1,hc.2];rfl)⟩
 ·obtain rfl:i=a.V.length:=by omega
  rw [a0B,ha,V5 hl];rfl
noncomputable def a1O:CT:=j4 (fun (x:c7×c7)=>a6D x.1 x.2)
@[go_sem] def b6e:=fun x0 x1=>nm' (fQ' a1O rfl (⟨x0⟩,⟨x1⟩))
def c3z (a:List c6) (b:List c6):A0c Tryz.prog 245 [(false,[j3 a]),(false,[j3 b])] [] (.one (false,[.b (decide (a=b))])):=by
 refine sx' false false none Tryz.func245 (q' 0 [ab 4 false] (.seq (q' 6 [am 0,aN,am 1,aN,ao (.bin .neq (.t 7) (.t 9))] (.cond (.t 10) (q' 0 [ab 4 false] .ret) .skip)) (.seq (q' 11 [am 0,aN,aK 0] (.block 0 (.loop (q' 14 [ar 13 12] (.seq (.cond (.t 14) .skip (.exit 0)) (.seq (.block 1 (q' 15 [am 13,aV 5] (.seq (G' 16 [aM [0,5],aI 2,aE 2,aM [1,5],aI 2,aE 2,ao (.eqs true [.i .i64,.s] (.t 19) (.t 23))]) (.cond (.t 24) (q' 0 [ab 4 false] .ret) .skip)))) (g' 25 [aA 13]))))))) (q' 0 [ab 4 true] .ret)))) [.t 4] [] ?_;intro hb hE;rw [<- a8j];simp only [go_sem];repeat' first | apply cj' | intro hc | exact om' | fail
 ·rw [a0B,V9 (fun h=>by simp [h] at hc)];rfl
 have hl:a.length=b.length:=by simpa [q3M] using hc
 clear hc;refine lq' false [0,1,12] [] [] (fun i:{i:Nat // i<=a.length/\a2p i (vNe a b)=false}=>[(13,slV (.i .i64 i.1))]) nl' nl' (fun i=>a.length - i.1) (⟨0,by simp [a1p]⟩) ?_;intro S0 hS0 i;obtain ⟨i,hi,ha⟩:=i;simp only [go_sem,hS0];repeat' first | apply cj' | intro hc | exact om' | fail
 ·rw [a0B,a4D (i:=i) (by omega) (show vNe a b i=true by rw [vNe,vEq,hc];rfl)];simp
 ·exact nx0 ⟨i+1,by omega,a1o ha (show vNe a b i=false by rw [vNe,vEq,hc.1,hc.2];rfl)⟩
 ·obtain rfl:i=a.length:=by omega
  rw [a0B,ha,V5 hl];rfl
noncomputable def b5Z:CT:=j4 (fun (x:(List c6)×(List c6))=>c3z x.1 x.2)
@[go_sem] def c_eqVals_eq:=fun a b=>nm' (fQ' b5Z rfl (a,b))
def a4x (a:c7) (b:c7):A0c Tryz.prog 190 [(true,[j3 a.V]),(true,[j3 b.V])] [] (.one (false,[.b (decide (a.V=b.V))])):=by
 refine sx' false false none Tryz.func190 (q' 2 [ao (.box 1 (.t 0)),ao (.box 1 (.t 1)),ao (.mov (bb false))] (q' 5 [aG 0 2,aG 0 3,ac 245 [6,8],aV 4] .ret)) [.t 4] [(245,[],b5Z)] ?_;intro hb hE;simp only [go_sem];repeat' first | apply cj' | intro hc | exact om' | fail
noncomputable def b0M:CT:=j4 (fun (x:c7×c7)=>a4x x.1 x.2)
@[go_sem] def b9k:=fun x0 x1=>nm' (fQ' b0M rfl (⟨x0⟩,⟨x1⟩))
def a0z (l:List c7) (r:c7):Bool:=l.any fun x=>decide (x.V=r.V)
def b3u (l:List c7) (r:c7):A0c Tryz.prog 160 [(false,[v6 l]),(true,[j3 r.V])] [] (.one (false,[.b (a0z l r)])):=by
 refine sx' false false none Tryz.func160 (q' 0 [ax (o' 3 (.box 1 (.t 1))),ab 4 false] (.seq (q' 6 [am 0,aN,aK 0] (.block 0 (.loop (q' 9 [ar 8 7] (.seq (.cond (.t 9) .skip (.exit 0)) (.seq (.block 1 (q' 10 [am 8,aV 5] (.seq (G' 11 [aM [0,5],aI 1,aE 1,ae 1 3,ac 194 [14,15]]) (.cond (.t 16) (q' 0 [ab 4 true] .ret) .skip)))) (g' 17 [aA 8]))))))) (q' 0 [ab 4 false] .ret))) [.t 4] [(194,[],a1O)] ?_;intro hb hE;simp only [go_sem];repeat' first | apply cj' | intro hc | exact om' | fail
 refine lq' false [0,3,7] [6] [] (fun i:{i:Nat // i<=l.length/\(l.take i).any (fun x=>decide (x.V=r.V))=false}=>[(8,slV (.i .i64 i.1))]) nl' nl' (fun i=>l.length - i.1) (⟨0,by simp⟩) ?_;intro S0 hS0 i;obtain ⟨i,hi,ha⟩:=i;simp only [go_sem,hS0];repeat' first | apply cj' | intro hc | exact om' | fail
 ·rw [a0z,any_true (p:=fun x:c7=>decide (x.V=r.V)) (d:=default) (i:=i) (by omega) (V5 hc)]
 ·exact nx0 ⟨i+1,by omega,a0t (p:=fun x:c7=>decide (x.V=r.V)) default (by omega) ha (V9 hc)⟩
 ·rw [f8 (by omega)] at ha;rw [a0z,ha]
noncomputable def a2i:CT:=j4 (fun (x:(List c7)×c7)=>b3u x.1 x.2)
@[go_sem] def c1o:=fun l x0=>nm' (fQ' a2i rfl (l,⟨x0⟩))
def b5r (s:d5) (n:List UInt8) (r:c7):A0c Tryz.prog 221 [(true,[o9 s.Rels]),(false,[.s n]),(true,[j3 r.V])] [] (.one (false,[.b (a0z (v8 s n).1.Rows r)])):=by
 refine sx' false false none Tryz.func221 (q' 3 [ao (.box 1 (.t 0)),ax (o' 5 (.box 1 (.t 2))),ab 6 false] (q' 10 [ae 1 3,am 1,ac 154 [10,11],aV 9,ao (.ext (.t 9) 0),ao (.ext (.t 9) 1),ax (w' 7 [.i .i64, .sl o6]),aS 2 7 13,aV 8] (q' 15 [aG 1 7,ae 1 5,ac 160 [16,17],aV 6] .ret))) [.t 6] [(154,[],a2j),(160,[],a2i)] ?_;intro hb hE;simp only [go_sem];repeat' first | apply cj' | intro hc | exact om' | fail
noncomputable def a6p:CT:=j4 (fun (x:d5×(List UInt8)×c7)=>b5r x.1 x.2.1 x.2.2)
@[go_sem] def c2z:=fun x0 n x1=>nm' (fQ' a6p rfl (⟨x0⟩,n,⟨x1⟩))
abbrev bsP (l:List c7) (t:c7) (k:Nat):Bool:=decide (0<=a0l (l.getD k default).V t.V)
abbrev bsN (l:List c7) (t:c7):Nat:=a2N l.length (bsP l t)
def mid_eq {i j:Nat} (h:i+j<=4000000):IntKind.i64.wrap ((IntKind.u64.wrap (IntKind.i64.wrap ((i:Int)+j))).fdiv (2 ^ min 1 64))=(((i+j) / 2:Nat):Int):=by
 have e1:IntKind.i64.wrap ((i:Int)+j)=(i:Int)+j:=IntWalk.i64_in _ (by omega);have e2:IntKind.u64.wrap ((i:Int)+j)=(i:Int)+j:=IntWalk.u64_in _ (by omega);have e3:(2:Int) ^ min 1 64=2:=by decide
 rw [e1,e2,e3,Int.fdiv_eq_ediv_of_nonneg _ (by decide)];have e4:IntKind.i64.wrap (((i:Int)+j) / 2)=((i:Int)+j) / 2:=IntWalk.i64_in _ (by omega);rw [e4];omega
def bs_end {l:List c7} {t:c7} {i:Nat} (hi:i<=l.length) (ha:∀ k,k < i->bsP l t k=false) (hz:∀ k,i<=k->k < l.length->bsP l t k=true):bsN l t=i:=by
 by_cases h:i < l.length
 ·exact a1Q ha (hz i (V8 _) h) h
 ·have:i=l.length:=by omega
  subst this;exact a4u ha
def k_bsRow (l:List c7) (t:c7) (hpre:l.length<=1000000/\∀ a b,a<=b->b < l.length->a0l (l.getD b default).V t.V < 0->a0l (l.getD a default).V t.V < 0):A0c Tryz.prog 343 [(false,[v6 l]),(true,[j3 t.V]),(false,[.f 180 []])] [] (.tup [(false,[.i .i64 (((bsN l t:Nat),decide (bsN l t < l.length)&&a0l (l.getD (bsN l t) default).V t.V==0).1)]),(false,[.b (((bsN l t:Nat),decide (bsN l t < l.length)&&a0l (l.getD (bsN l t) default).V t.V==0).2)])]):=by
 refine sx' false false none Tryz.func343 (q' 4 [ao (.box 1 (.t 1)),az 6 0,ab 7 false] (q' 12 [am 0,aN,aV 8] (q' 9 [aV 14,aK 0,am 14] (.seq (.block 0 (.loop (.seq (q' 15 [aM [9,10],ar 15 16] (.cond (.t 17) .skip (.exit 0))) (.block 1 (q' 18 [aM [9,10],ao (.bin .add (.t 18) (.t 19)),ao (.cv .u64 (.t 20)),ao (.bin .shr (.t 21) (.k (.v false [.c (.i .u64 1)]))),ao (.cv .i64 (.t 22)),aV 11] (.seq (G' 24 [aM [2,0,11],aI 1,aE 1,ae 1 4,ao (.callv (.t 24) [.t 28,.t 29]),ao (.bin .lss (.t 30) (k' 0))]) (.cond (.t 31) (g' 9 [av 32 11,ax (a' 33 32),am 33]) (g' 34 [am 11,aV 10])))))))) (.seq (G' 35 [aM [9,9,8],ar 36 37,am 38,au (.mov (.t 2)) 39 true,au (.mov (.t 0)) 39 true,au (.mov (.t 9)) 39 true,au (.ia 1 (.t 41) (.t 42)) 39 true,au (.ld true 1 (.t 43)) 39 true,au (.ld true 1 (.t 4)) 39 true,au (.callv (.t 40) [.t 44,.t 45]) 39 true,au (.bin .eql (.t 46) (k' 0)) 39 true,ao (.pick (.t 39) (.t 47) (bb false)),av 6 35,aV 7]) .ret))))) [.t 6,.t 7] [(180,[],a2I)] ?_;intro hb hE;obtain ⟨hlen,hmo⟩:=hpre;simp only [go_sem];repeat' first | apply cj' | intro hc | exact om' | fail
 refine lq' false [0,2,4,8] [8] [] (fun i:{p:Nat×Nat // p.1<=p.2/\p.2<=l.length/\(∀ k,k < p.1->bsP l t k=false)/\(∀ k,p.2<=k->k < l.length->bsP l t k=true)}=>[(9,slV (.i .i64 i.1.1)),(10,slV (.i .i64 i.1.2))]) nl' nl' (fun i=>i.1.2 - i.1.1) (⟨(0,l.length),by simp,by simp,by intro k h;simp at h,by intro k h1 h2;simp at h1;omega⟩) ?_;intro S0 hS0 i;obtain ⟨⟨i,j⟩,hij,hj,ha,hz⟩:=i;simp only at hij hj ha hz;have hm:=mid_eq (i:=i) (j:=j) (by omega);simp only [go_sem,hS0,hm];repeat' first | apply cj' | intro hc | exact om' | fail
 ·have h1:∀ k,k < (i+j) / 2+1->bsP l t k=false:=by
   intro k hk;have:=hmo k ((i+j) / 2) (by omega) (by omega) hc;exact V9 (by omega)
  (refine lpK_n2 (⟨((i+j) / 2+1,j),by simp only;omega,hj,h1,hz⟩) _ rfl ?_;simp only [go_sem,hS0,hm]<;>repeat' first | apply V7 | exact on' | fail)
 ·have h1:∀ k,(i+j) / 2<=k->k < l.length->bsP l t k=true:=by
   intro k hk hl;refine V5 ?_;have:¬ a0l (l.getD k default).V t.V < 0:=fun h=>hc (hmo _ k hk hl h)
   omega
  (refine lpK_n2 (⟨(i,(i+j) / 2),by simp only;omega,by simp only;omega,ha,h1⟩) _ rfl ?_;simp only [go_sem,hS0,hm]<;>repeat' first | apply V7 | exact on' | fail)
 ·have hz':∀ k,i<=k->k < l.length->bsP l t k=true:=fun k h1 h2=>hz k (by omega) h2
  rw [bs_end (by omega) ha hz'];refine ⟨rfl, ?_⟩
  congr 1
  exact decide_eq_decide.2 (by omega)
noncomputable def b8X:CT:=j9 (fun (x:(List c7)×c7) h=>k_bsRow x.1 x.2 h)
@[go_sem] def c_bsRow_eq:=fun l x0=>nm' (fP' b8X rfl (l,⟨x0⟩))
def b6H (r:d7) (t:c7) (hpre:r.Rows.length<=1000000/\∀ a b,a<=b->b < r.Rows.length->a0l (r.Rows.getD b default).V t.V < 0->a0l (r.Rows.getD a default).V t.V < 0):A0c Tryz.prog 299 [(true,[.i .i64 r.Arity,v6 r.Rows]),(true,[j3 t.V])] [] (.tup [(false,[.i .i64 (((bsN r.Rows t:Nat),decide (bsN r.Rows t < r.Rows.length)&&a0l (r.Rows.getD (bsN r.Rows t) default).V t.V==0).1)]),(false,[.b (((bsN r.Rows t:Nat),decide (bsN r.Rows t < r.Rows.length)&&a0l (r.Rows.getD (bsN r.Rows t) default).V t.V==0).2)])]):=by
 refine sx' false false none Tryz.func299 (q' 2 [ao (.box 2 (.t 0)),ao (.box 1 (.t 1)),aK 0,ao (.mov (bb false))] (q' 6 [aG 1 2,ae 1 3,ao (.call 343 [.t 7,.t 8,.k (.v false [.c (.f 180 [])])]),ao (.ext (.t 9) 0),ao (.ext (.t 9) 1),av 4 10,aV 5] .ret)) [.t 4,.t 5] [(343,[],b8X)] ?_;intro hb hE;obtain ⟨hlen,hmo⟩:=hpre;simp only [go_sem];repeat' first | apply cj' | intro hc | exact om' | fail
 all_goals exact ⟨hlen,hmo⟩
noncomputable def a8d:CT:=j9 (fun (x:d7×c7) h=>b6H x.1 x.2 h)
@[go_sem] def c3l:=fun x0 x1 x2=>nm' (fP' a8d rfl (⟨x0,x1⟩,⟨x2⟩))
def b5U {x y:List UInt8} (h:Op.bytesLess x y=true):(y==[])=false:=by
 cases y with
 | nil=>cases x<;>simp [Op.bytesLess] at h
 | cons a y=>rfl
def c3V {a b c:c6} (h1:n0 a b=true) (h2:n0 b c=true):n0 a c=true:=by
 unfold n0 at *;cases ha:(a.S==[])<;>cases hb:(b.S==[])<;>cases hc:(c.S==[])<;>simp only [ha,hb,hc,q1M,q3F,Bool.false_and,q1E,V1,V3,q0H] at h1 h2 ⊢;all_goals first
  | (rw [b5U h1] at hb;exact absurd hb (by decide))
  | (rw [b5U h2] at hc;exact absurd hc (by decide))
  | omega
  | exact a6H _ _ _ h1 h2
  | (rw [beq_iff_eq] at ha;rw [ha];cases hcs:c.S with
      | nil=>rw [hcs] at hc;cases hc
      | cons x y=>rfl)
def b8S {a b:c6} (ha:i4 a=true) (hb:i4 b=true) (h1:n0 a b=false) (h2:n0 b a=false):a=b:=by
 have:=a7W ha hb;rw [h1,h2,q4H] at this;exact c3U (by simpa using this)
abbrev okL (a:List c6):Prop:=∀ x∈a,i4 x=true
def okL.tl {x:c6} {a:List c6} (h:okL (x::a)):okL a:=fun y hy=>h y (by simp [hy])
def b5y:∀ {a b c:List c6},okL a->okL b->okL c->z8 a b=-1->z8 b c=-1->z8 a c=-1
 | [],[],_,_,_,_,h,_=>by simp [z8] at h
 | [],y::b,[],_,_,_,_,h=>by simp [z8] at h
 | [],y::b,z::c,_,_,_,_,_=>rfl
 | x::a,[],_,_,_,_,h,_=>by simp [z8] at h
 | x::a,y::b,[],_,_,_,_,h=>by simp [z8] at h
 | x::a,y::b,z::c,ha,hb,hc,h1,h2=>by
   have hx:=ha x (by simp);have hy:=hb y (by simp);have hz:=hc z (by simp);rw [z8] at h1 h2 ⊢;cases e1:n0 x y with
   | true=>
     cases e2:n0 y z with
     | true=>rw [c3V e1 e2];rfl
     | false=>
       rw [e2,V3] at h2;cases e3:n0 z y with
       | true=>rw [e3,V1] at h2;omega
       | false=>rw [<- b8S hy hz e2 e3,e1];rfl
   | false=>
     rw [e1,V3] at h1;cases e3:n0 y x with
     | true=>rw [e3,V1] at h1;omega
     | false=>
       rw [e3,V3] at h1;have:=b8S hx hy e1 e3;subst this;cases e2:n0 x z with
       | true=>rfl
       | false=>
         rw [e2,V3] at h2;cases e4:n0 z x with
         | true=>rw [e4,V1] at h2;omega
         | false=>
           rw [e4,V3] at h2;exact b5y ha.tl hb.tl hc.tl h1 h2
def b4a:∀ {a b:List c6},okL a->okL b->(z8 a b=0↔a=b)
 | [],[],_,_=>by simp [z8]
 | [],y::b,_,_=>by simp [z8]
 | x::a,[],_,_=>by simp [z8]
 | x::a,y::b,ha,hb=>by
   have ih:=b4a ha.tl hb.tl;rw [z8];cases e1:n0 x y with
   | true=>
     simp only [V1,W9];refine ⟨fun h=>by omega,fun h=>?_⟩;have h3:=a7W (ha x (by simp)) (hb y (by simp));rw [<- h.1] at e1 h3;rw [e1] at h3;simp at h3
   | false=>
     cases e2:n0 y x with
     | true=>
       simp only [V1,V3,W9];refine ⟨fun h=>by omega,fun h=>?_⟩;rw [h.1] at e1 e2;rw [e1] at e2;cases e2
     | false=>
       have:=b8S (ha x (by simp)) (hb y (by simp)) e1 e2;subst this;simpa using ih
def b8P {r:d7} (h:z7 r=true):∀ {b a:Nat},a < b->b < r.Rows.length->z8 (r.Rows.getD a default).V (r.Rows.getD b default).V=-1:=by
 have hN:∀ i,i < r.Rows.length->y5 r i=false:=by
  intro i hi;simp only [z7,W5,q1G] at h;exact a1K h.2 hi
 have hO:∀ i,i < r.Rows.length->okL (r.Rows.getD i default).V:=fun i hi=>t7 (a0Q (hN i hi))
 intro b
 induction b with
 | zero=>intro a h;omega
 | succ b ih=>
   intro a hab hb;have hs:z8 (r.Rows.getD b default).V (r.Rows.getD (b+1) default).V=-1:=by
    have:=hN (b+1) hb;simp only [y5,q2N,Nat.zero_lt_succ,decide_true,q0N,q1R,beq_iff_eq,Nat.add_sub_cancel] at this;exact this.2
   rcases q3C.1 hab with h1 | rfl
   ·exact b5y (hO a (by omega)) (hO b (by omega)) (hO _ hb) (ih h1 (by omega)) hs
   ·exact hs
def a1m {r:d7} (h:z7 r=true) {i:Nat} (hi:i < r.Rows.length):okL (r.Rows.getD i default).V:=by
 simp only [z7,W5,q1G] at h;exact t7 (a0Q (a1K h.2 hi))
def a5S {a b:List c6} (ha:okL a) (hb:okL b):a0l a b < 0↔z8 a b=-1:=by
 have h:=a6I ha hb;unfold sgn at h;omega
def b4B {a b:List c6} (ha:okL a) (hb:okL b):a0l a b=0↔a=b:=by
 have h:=a6I ha hb;rw [<- b4a ha hb];unfold sgn at h;omega
def c3N {r:d7} (h:z7 r=true) {t:c7} (ht:a0o t=true):∀ a b,a<=b->b < r.Rows.length->a0l (r.Rows.getD b default).V t.V < 0->a0l (r.Rows.getD a default).V t.V < 0:=by
 intro a b hab hb hl;rcases Nat.lt_or_eq_of_le hab with h1 | rfl
 ·rw [a5S (a1m h hb) (t7 ht)] at hl;rw [a5S (a1m h (by omega)) (t7 ht)];exact b5y (a1m h (by omega)) (a1m h hb) (t7 ht) (b8P h h1 hb) hl
 ·exact hl
def rel_has {r:d7} (h:z7 r=true) {t:c7} (ht:a0o t=true):(decide (bsN r.Rows t < r.Rows.length)&&a0l (r.Rows.getD (bsN r.Rows t) default).V t.V==0)=a0z r.Rows t:=by
 rw [q3I];constructor
 ·intro hh;simp only [W5,q0H,beq_iff_eq] at hh;exact any_true (p:=fun x:c7=>decide (x.V=t.V)) (d:=default) hh.1 (V5 ((b4B (a1m h hh.1) (t7 ht)).1 hh.2))
 ·intro hh;rw [a0z,q3Z] at hh;obtain ⟨x,hx,he⟩:=hh;obtain ⟨k,hk,rfl⟩:=q3X hx;rw [q0H] at he;have hg:=l4 (l:=r.Rows) default hk;have e:bsN r.Rows t=k:=by
   refine a1Q (fun j hj=>?_) ?_ hk
   ·refine V9 ?_;have:=(a5S (a1m h (show j < r.Rows.length by omega)) (t7 ht)).2 (by
     have:=b8P h hj hk;rw [hg,he] at this;exact this)
    omega
   ·refine V5 ?_;rw [hg,(b4B (by rw [<- hg];exact a1m h hk) (t7 ht)).2 he];omega
  rw [e,V5 hk,hg,(b4B (by rw [<- hg];exact a1m h hk) (t7 ht)).2 he];rfl
def b8M (r:d7) (t:c7) (hpre:z7 r=true/\a0o t=true):A0c Tryz.prog 238 [(true,[.i .i64 r.Arity,v6 r.Rows]),(true,[j3 t.V])] [] (.one (false,[.b (a0z r.Rows t)])):=by
 refine sx' false false none Tryz.func238 (q' 2 [ao (.box 2 (.t 0)),ao (.box 1 (.t 1)),ao (.mov (bb false))] (q' 8 [ae 2 2,ae 1 3,ac 299 [8,9],aV 7,ao (.ext (.t 7) 0),ao (.ext (.t 7) 1),av 5 11,aV 6] (q' 13 [am 6,aV 4] .ret))) [.t 4] [(299,[],a8d)] ?_;intro hb hE;obtain ⟨hR,hT⟩:=hpre;simp only [go_sem];repeat' first | apply cj' | intro hc | exact om' | fail
 ·exact ⟨by have:=a7R hR;omega,c3N hR hT⟩
 ·exact rel_has hR hT
noncomputable def b0L:CT:=j9 (fun (x:d7×c7) h=>b8M x.1 x.2 h)
@[go_sem] def c4f:=fun x0 x1 x2=>nm' (fP' b0L rfl (⟨x0,x1⟩,⟨x2⟩))
end Go.Aw
namespace Go.Aw
open Go.Proofs Go.Lib
set_option linter.all false
set_option maxRecDepth 100000
set_option maxHeartbeats 4000000
abbrev a6N:Value:=.agg #[.string ⟨#[]⟩,.int .i64 0,.string ⟨#[]⟩]
def b6y (w:World) (a:Option Addr) (n c:Nat) (ax:Addr) (cx:Nat) (v':Value) (w':World) (hr:(Builtin.append_ #[139,139] 139 #[.slice a n c,.slice (some ax) 1 cx]).run Tryz.prog w=.ok v' w'):
  Calls Tryz.prog 297 #[.slice a n c,.int .i64 n,.slice (some ax) 1 cx] w fun x w''=>x=.returned v'/\w'' = w':=by
 have hz1:¬ (((1:Nat):Int)=0):=by omega
 have u0:=run_underlying Tryz.underlying139
 go_enter Tryz.func297,Tryz.ntmps297
 go_wp2_with (at_builtin;refine b1a _ rfl _ _ 139 139 rfl _ _ rfl rfl hr ?_)
 all_goals (try go_ret)
 all_goals (first | exact ⟨rfl,rfl⟩)
def a6u:(Tryz.prog.info? 250).map (fun i=>(i.zero,i.size,i.bytes))=some (some a6N,3,40):=by kernel_rfl
def b2P (b o n c i vb vo vc:Nat) (cs vs:List Value) (w:World) (hi:i < n) (hroom:n+1<=c) (hcm:c<=maxLen) (hvb:vb≠b) (hcl:cs.length=n * 3) (hvl:vs.length=3) (hcs:CellsAt w b o cs) (hvs:CellsAt w vb vo vs) (hob:OwnBlk w b (o+c * 3)) (hov:OwnBlk w vb (vo+3)) (h1c:∀ v∈cs,v.oneCell' = true) (h1v:∀ v∈vs,v.oneCell' = true):
  Calls Tryz.prog 297 #[.slice (some ⟨b,o,none⟩) n c,.int .i64 i,.slice (some ⟨vb,vo,none⟩) 1 vc] w fun x w'=>x=.returned (.slice (some ⟨b,o,none⟩) (n+1) c)/\∃ u,Drew w u/\w' = (u.setCells b (o+(i+1) * 3) (cs.drop (i * 3))).setCells b (o+i * 3) vs:=by
 have u0:=run_underlying Tryz.underlying139;have hz1:¬ (((1:Nat):Int)=0):=by omega
 have hz2:¬ ((i:Int)=(n:Int)):=by omega
 have mixed:Tryz.prog.follows Departure.mixedOrders=true:=by kernel_rfl
 simp only [maxLen] at hcm;have hsz:(Tryz.prog.info? 250).map (·.size)=some 3:=by kernel_rfl
 obtain ⟨cb,eb,hb,hbs⟩:=hob;obtain ⟨cv,ev,hv,hvs2⟩:=hov;have hcell:∀ (W:World) (cc:Array Value),W.heap[b]? = some (.cells cc eb (0,0))->o+c * 3<=cc.size->∀ j,j < c * 3->(W.cell? ⟨b,o+j,none⟩).isSome=true:=fun W cc h h2 j hj=>by
  simp only [World.cell?,h];rw [q0Q (by omega)];rfl
 have hfz:∀ (W:World) (cc:Array Value),W.heap[b]? = some (.cells cc eb (0,0))->∀ x,W.frozen? ⟨b,x,none⟩=false:=fun W cc h x=>by simp [World.frozen?,h]
 have hov:∀ lb cb',(callFunc 341 #[.slice (some ⟨vb,vo,none⟩) 1 vc,.slice (some ⟨b,o+(i+1) * 3,none⟩) lb cb']).run Tryz.prog w=.ok (.value (.bool false)) w:=fun lb cb'=>by
  rw [run_callFunc_extern Tryz.func341 (by kernel_rfl) (by kernel_rfl) (by kernel_rfl) (e:=Extern.SlicesOverlaps.overlaps #[139,139] #[4]) (by kernel_rfl),
   Lib.run_overlaps_apart w 139 4 250 Tryz.underlying139 3 (fun w=>rfl) ⟨vb,vo,none⟩ ⟨b,o+(i+1) * 3,none⟩ 1 vc lb cb' hvb ev eb cv.size cb.size (by simp [World.shape?,hv]) (by simp [World.shape?,hb]) (by omega) (by simp [World.frozen?,hv]) (by simp [World.frozen?,hv])]
  rfl
 have hdl:(cs.drop (i * 3)).length=(n - i) * 3:=by rw [q1P,hcl,Nat.sub_mul]
 have hw1:IntKind.i64.wrap ((i:Int)+1)=(i:Int)+1:=by rw [IntKind.wrap_i64];omega
 have hb1:(0:Int)<=(i:Int)+1:=by omega
 have hin:i<=n:=by omega
 have htn:((i:Int)+1).toNat=i+1:=by omega
 have hb2:¬ (c=i+1):=by omega
 have hb3:(i:Int)<=(n:Int)+1:=by omega
 have hb4:¬ (c=i):=by omega
 have hcp1:∀ ty dc sc,(Builtin.copy_ #[139,139] ty #[.slice (some ⟨b,o+(i+1) * 3,none⟩) (n - i) dc,.slice (some ⟨b,o+i * 3,none⟩) (n+1 - i) sc]).run Tryz.prog w.drew=.ok (goInt (Nat.min (n+1 - i) (n - i))) (w.drew.setCells b (o+(i+1) * 3) (cs.drop (i * 3))):=fun ty dc sc=>
  a2T w.drew _ _ ty 250 3 b (o+(i+1) * 3) _ dc ⟨b,o+i * 3,none⟩ _ sc (cs.drop (i * 3)) Tryz.underlying139 hsz (by rw [hdl];congr 1;simp only [Nat.min_def];split<;>omega)
   (fun j v hj=>by
     rw [List.getElem?_drop] at hj;obtain ⟨hj',rfl⟩:=q0O.1 hj;rw [A0k,q3L];exact hcs (i * 3+j) hj')
   (fun j hj=>by rw [q3L];exact hcell w.drew cb hb hbs _ (by omega)) (fun j hj=>hfz w.drew cb hb _) (fun v hv=>h1c v (q2M hv))
 obtain ⟨W1,hW1⟩:∃ W1,W1=w.drew.setCells b (o+(i+1) * 3) (cs.drop (i * 3)):=⟨_,rfl⟩
 have q1:=A0j b (cs.drop (i * 3)) (o+(i+1) * 3) w.drew cb hb (by omega);rw [<- hW1] at q1;have q2:W1.heap[vb]? = w.heap[vb]?:=by rw [hW1];exact (Z6 b _ _ w.drew).1 vb hvb
 have hcp2:∀ (W:World),W.heap=W1.heap->∀ ty dc,(Builtin.copy_ #[139,139] ty #[.slice (some ⟨b,o+i * 3,none⟩) (n+1 - i) dc,.slice (some ⟨vb,vo,none⟩) 1 vc]).run Tryz.prog W=.ok (goInt (Nat.min 1 (n+1 - i))) (W.setCells b (o+i * 3) vs):=fun W hW ty dc=>
  a2T W _ _ ty 250 3 b (o+i * 3) _ dc ⟨vb,vo,none⟩ 1 vc vs Tryz.underlying139 hsz (by rw [hvl];simp only [Nat.min_def];split<;>omega)
   (fun j v hj=>by
     obtain ⟨hj',rfl⟩:=q0O.1 hj;rw [A0k,World.cell?_of_block (w:=w) (by rw [hW,q2])];exact hvs j hj')
   (fun j hj=>by rw [q3L];exact hcell W _ (by rw [hW];exact q1) (by simp only [q0K,V0,V4,q1P,q1K];omega) _ (by omega)) (fun j hj=>hfz W _ (by rw [hW];exact q1) _) h1v
 rw [<- hW1] at hcp1
 go_enter Tryz.func297,Tryz.ntmps297
 go_wp2_with (simp only [hov])
 go_region_law_o (refine b0Z rfl _ _ 139 139 rfl _ _ (by simp [Act.eval,Act.put]) (by simp [Act.eval,Act.put]) (hcp1 _ _ _) ?_)
 go_wp2_with (at_builtin;refine b1b _ rfl _ _ 139 139 rfl _ _ rfl rfl (hcp2 _ rfl _ _) ?_)
 go_ret
 exact ⟨rfl,w.drew,⟨rfl,rfl,⟨rfl,q4M _⟩,rfl⟩,rfl⟩
def b4P (b o n c i vb vo vc:Nat) (cs vs:List Value) (w:World) (hi:i < n) (hnc:n<=c) (hroom:c < n+1) (hcm:n<=1000000) (hvw:vb < w.heap.size) (hbw:b < w.heap.size) (hcl:cs.length=n * 3) (hvl:vs.length=3) (hcs:CellsAt w b o cs) (hvs:CellsAt w vb vo vs) (h1c:∀ v∈cs,v.oneCell' = true) (h1v:∀ v∈vs,v.oneCell' = true):
  Calls Tryz.prog 297 #[.slice (some ⟨b,o,none⟩) n c,.int .i64 i,.slice (some ⟨vb,vo,none⟩) 1 vc] w fun x w'=>x=.returned (.slice (some ⟨w.heap.size,0,none⟩) (n+1) (grownCap w (n+1) c 250))/\
   ∃ u,Drew (w.alloc (.cells ((cs.take (i * 3)).toArray++Builtin.zeroCells a6N.cells (n+1 - i)++Builtin.zeroCells a6N.cells (grownCap w (n+1) c 250 - (n+1))) 250)) u/\w' = (u.setCells w.heap.size (i * 3) vs).setCells w.heap.size ((i+1) * 3) (cs.drop (i * 3)):=by
 have u0:=run_underlying Tryz.underlying139;have hz1:¬ (((1:Nat):Int)=0):=by omega
 have hz2:¬ ((i:Int)=(n:Int)):=by omega
 have hz3:(c:Int) < (n:Int)+1:=by omega
 have mixed:Tryz.prog.follows Departure.mixedOrders=true:=by kernel_rfl
 have hsz:(Tryz.prog.info? 250).map (·.size)=some 3:=by kernel_rfl
 obtain ⟨i0,hi0,hz0⟩:=W4.1 a6u;simp only [W3] at hz0;obtain ⟨hz0,hzs,hzb⟩:=hz0;have hkk:(n:Int)+1 - (i:Int)=((n+1 - i:Nat):Int):=by omega
 have hik:i+(n+1 - i)=n+1:=by omega
 have hdl:(cs.drop (i * 3)).length=(n - i) * 3:=by rw [q1P,hcl,Nat.sub_mul]
 have hold:(Builtin.firstCells i0.size i (.slice (some ⟨b,o,none⟩) i c)).run Tryz.prog w.drew=.ok (cs.take (i * 3)).toArray w.drew:=by
  rw [hzs];exact run_firstCells_some w.drew 3 i ⟨b,o,none⟩ i c (cs.take (i * 3)) (by rw [V4];omega) (fun j v hj=>by
   rw [A0k];rw [List.getElem?_take] at hj;split at hj
   ·obtain ⟨hj',rfl⟩:=q0O.1 hj;exact hcs j hj'
   ·cases hj)
 have hrz:∀ ty,(Builtin.append_ #[139,3] ty #[.slice (some ⟨b,o,none⟩) i c,.int .i64 ((n:Int)+1 - (i:Int))]).run Tryz.prog w =
   .ok (.slice (some ⟨w.heap.size,0,none⟩) (n+1) (grownCap w (n+1) c 250)) (w.drew.alloc (.cells ((cs.take (i * 3)).toArray++Builtin.zeroCells a6N.cells (n+1 - i)++Builtin.zeroCells a6N.cells (grownCap w (n+1) c 250 - (n+1))) 250)):=fun ty=>by
  have h:=Lib.run_append_grow_zeros w 139 3 ty 250 i0 _ .i64 .i64 Tryz.underlying139 Tryz.underlying3 hi0 hz0 (some ⟨b,o,none⟩) i c (cs.take (i * 3)) hold (n+1 - i) (by omega) (by omega) (by omega) (by omega) (by rw [hzb];omega) (by rw [hzb,hik];exact growslice_fits hroom (by omega));rw [hik] at h;rw [hkk];exact h
 obtain ⟨G,hG⟩:∃ G,G=grownCap w (n+1) c 250:=⟨_,rfl⟩
 obtain ⟨ROW,hROW⟩:∃ ROW:Array Value,ROW=(cs.take (i * 3)).toArray++Builtin.zeroCells a6N.cells (n+1 - i)++Builtin.zeroCells a6N.cells (G - (n+1)):=⟨_,rfl⟩
 have hge:=grownCap_ge w (n+1) c 250;rw [<- hG] at hrz hge ⊢;rw [<- hROW] at hrz ⊢;have hRl:(n+1) * 3<=ROW.size:=by
  rw [hROW];simp only [q3G,q0K,V4,size_zeroCells,show a6N.cells.size=3 from rfl];omega
 obtain ⟨W1,hW1⟩:∃ W1,W1=w.drew.alloc (.cells ROW 250):=⟨_,rfl⟩
 rw [<- hW1] at hrz;have hN:W1.heap[w.heap.size]? = some (.cells ROW 250 (0,0)):=by rw [hW1];exact heap_alloc_new w.drew _
 have hcA:∀ (W:World) (R:Array Value),W.heap[w.heap.size]? = some (.cells R 250 (0,0))->(n+1) * 3<=R.size->∀ j,j < (n+1) * 3->(W.cell? ⟨w.heap.size,j,none⟩).isSome=true:=fun W R h h2 j hj=>by
  simp only [World.cell?,h];rw [q0Q (by omega)];rfl
 have hfz:∀ (W:World) (R:Array Value),W.heap[w.heap.size]? = some (.cells R 250 (0,0))->∀ x,W.frozen? ⟨w.heap.size,x,none⟩=false:=fun W R h x=>by simp [World.frozen?,h]
 have hvW:W1.heap[vb]? = w.heap[vb]?:=by rw [hW1];exact E4 (w:=w.drew) hvw
 have hbW:W1.heap[b]? = w.heap[b]?:=by rw [hW1];exact E4 (w:=w.drew) hbw
 have hcp2:∀ (W:World),W.heap=W1.heap->∀ ty dc,(Builtin.copy_ #[139,139] ty #[.slice (some ⟨w.heap.size,i * 3,none⟩) (n+1 - i) dc,.slice (some ⟨vb,vo,none⟩) 1 vc]).run Tryz.prog W=.ok (goInt (Nat.min 1 (n+1 - i))) (W.setCells w.heap.size (i * 3) vs):=fun W hW ty dc=>
  a2T W _ _ ty 250 3 w.heap.size (i * 3) _ dc ⟨vb,vo,none⟩ 1 vc vs Tryz.underlying139 hsz (by rw [hvl];simp only [Nat.min_def];split<;>omega)
   (fun j v hj=>by
     obtain ⟨hj',rfl⟩:=q0O.1 hj;rw [A0k,World.cell?_of_block (w:=w) (by rw [hW,hvW])];exact hvs j hj')
   (fun j hj=>hcA W ROW (by rw [hW];exact hN) hRl _ (by omega)) (fun j hj=>hfz W ROW (by rw [hW];exact hN) _) h1v
 have q1:=A0j w.heap.size vs (i * 3) W1 ROW hN (by omega);have q2:(W1.setCells w.heap.size (i * 3) vs).heap[b]? = w.heap[b]?:=by rw [(Z6 w.heap.size vs (i * 3) W1).1 b (by omega),hbW]
 have hcp3:∀ (W:World),W.heap=(W1.setCells w.heap.size (i * 3) vs).heap->∀ ty dc sc,(Builtin.copy_ #[139,139] ty #[.slice (some ⟨w.heap.size,(i+1) * 3,none⟩) (n - i) dc,.slice (some ⟨b,o+i * 3,none⟩) (n - i) sc]).run Tryz.prog W=.ok (goInt (Nat.min (n - i) (n - i))) (W.setCells w.heap.size ((i+1) * 3) (cs.drop (i * 3))):=fun W hW ty dc sc=>
  a2T W _ _ ty 250 3 w.heap.size ((i+1) * 3) _ dc ⟨b,o+i * 3,none⟩ _ sc (cs.drop (i * 3)) Tryz.underlying139 hsz (by rw [hdl];congr 1;simp only [Nat.min_def];split<;>omega)
   (fun j v hj=>by
     rw [List.getElem?_drop] at hj;obtain ⟨hj',rfl⟩:=q0O.1 hj;rw [A0k,q3L,World.cell?_of_block (w:=w) (by rw [hW,q2])];exact hcs (i * 3+j) hj')
   (fun j hj=>hcA W _ (by rw [hW];exact q1) (by simp only [q0K,V0,V4,q1P,q1K];omega) _ (by omega)) (fun j hj=>hfz W _ (by rw [hW];exact q1) _) (fun v hv=>h1c v (q2M hv))
 have hw1:IntKind.i64.wrap ((i:Int)+1)=(i:Int)+1:=by rw [IntKind.wrap_i64];omega
 have hb1:(0:Int)<=(i:Int)+1:=by omega
 have hin:i<=n:=by omega
 have htn:((i:Int)+1).toNat=i+1:=by omega
 have hb3:(i:Int)<=(n:Int):=by omega
 have hGn:n+1<=G:=hge;have hG63:G<=9223372036854775807:=by
  have:=grownCap_le_maxLen w (n+1) c 250 (by unfold maxLen;omega);rw [<- hG] at this;unfold maxLen at this;omega
 have hGi:¬ (G=i):=by omega
 have hGim:¬ (G=i+1):=by omega
 have hci:¬ (c=i):=by omega
 subst hW1;have hcA2:=hcp2 ((w.alloc (.cells ROW 250)).drew) rfl;have hcB2:=hcp3 (((w.alloc (.cells ROW 250)).drew.setCells w.heap.size (i * 3) vs).drew) (by
  show ((w.alloc (.cells ROW 250)).drew.setCells w.heap.size (i * 3) vs).heap=_;rfl)
 clear hkk hik hold hROW hG hRl q1 q2 hcA hfz hN hvW hbW
 go_enter Tryz.func297,Tryz.ntmps297
 go_wp2_with (first
  | (at_builtin;refine b1a _ rfl _ _ 139 3 rfl _ _ rfl rfl (hrz _) ?_)
  | (at_builtin;refine b1b _ rfl _ _ 139 139 rfl _ _ rfl rfl (hcA2 _ _) ?_)
  | (at_builtin;refine b1b _ rfl _ _ 139 139 rfl _ _ rfl rfl (hcB2 _ _ _) ?_))
 go_region_law_o (refine b0Z rfl _ _ 139 139 rfl (.slice (some ⟨w.heap.size,(i+1) * 3,none⟩) (n - i) (G - (i+1))) (.slice (some ⟨b,o+i * 3,none⟩) (n - i) (c - i)) (by simp [Act.eval,Act.put]) (by simp [Act.eval,Act.put]) (hcB2 3 (G - (i+1)) (c - i)) ?_)
 go_wp2
 go_ret
 exact ⟨rfl,(w.alloc (.cells ROW 250)).drew.drew,⟨rfl,rfl,⟨rfl,q4A _ 2⟩,rfl⟩,by rw [idrew]⟩
def b4Q:InsRuns Tryz.prog 297 139 250 3 a6N:=⟨b6y,b2P,b4P⟩
def c1I (a:List c4) (k:Int) (x:c4) (hpre:0<=k/\k<=a.length/\a.length<=1000000):A0c Tryz.prog 297 [(false,[.sl true [.s [],.i .i64 0,.s []] (a.map c4.cells)]),(false,[.i .i64 k]),(false,[.sl true [.s [],.i .i64 0,.s []] [[.s x.Var,.i .i64 x.Val.N,.s x.Val.S]]])] [] (.one (false,[.sl true [.s [],.i .i64 0,.s []] ((insL a k x).map c4.cells)])):=by
 obtain ⟨h0,h1,h2⟩:=hpre;obtain ⟨n,rfl⟩:=Int.eq_ofNat_of_zero_le h0;rw [show (insL a n x).map c4.cells=(a.map c4.cells).take n++c4.cells x::(a.map c4.cells).drop n by simp [insL,List.map_take,List.map_drop]];obtain ⟨i0,hi0,hz0⟩:=W4.1 a6u;simp only [W3] at hz0;obtain ⟨hz0,hzs,hzb⟩:=hz0;exact b8G (d:=[.s [],.i .i64 0,.s []]) b4Q (by kernel_rfl) Tryz.underlying139 hi0 hz0 (by rw [hzs];rfl) hzs (by omega) (a.map c4.cells) (c4.cells x) n (by rw [q0G];omega) (by rw [hzb,q0G];omega) (by rw [q0G];exact h2)
noncomputable def b3N:CT:=j9 (fun (x:(List c4)×Int×c4) h=>c1I x.1 x.2.1 x.2.2 h)
@[go_sem] def c4k:=fun a k x0 x1 x2=>nm' (fP' b3N rfl (a,k,⟨x0,⟨x1,x2⟩⟩))
end Go.Aw
namespace Go.Aw
open Go.Proofs
attribute [local irreducible] aft blk lpK retK AW A0c
set_option linter.all false
set_option maxRecDepth 100000
set_option maxHeartbeats 4000000
attribute [local irreducible] RM
def gtB (v:List UInt8) (b:c4):Bool:=Op.bytesLess v b.Var
def y8 (l:List c4) (v:List UInt8) (x:c6):List c4:=l.takeWhile (fun b=>!gtB v b)++⟨v,x⟩::l.dropWhile (fun b=>!gtB v b)
def b5B {α:Type} {p:α->Bool}:∀ {l:List α},l.any p=false->l.takeWhile (fun b=>!p b)=l/\l.dropWhile (fun b=>!p b)=[]
 | [],_=>⟨rfl,rfl⟩
 | x::l,h=>by
   rw [q2C,q2N] at h;have:=b5B h.2;rw [q2I,q2J,h.1];simp [this.1,this.2]
def b5A {α:Type} {p:α->Bool} {b:α} {r:List α} (hb:p b=true):∀ {l:List α},l.any p=false->(l++b::r).takeWhile (fun b=>!p b)=l/\(l++b::r).dropWhile (fun b=>!p b)=b::r
 | [],_=>by rw [q1L,q2I,q2J,hb];exact ⟨rfl,rfl⟩
 | x::l,h=>by
   rw [q2C,q2N] at h;have:=b5A (r:=r) hb h.2;rw [q1C,q2I,q2J,h.1];simp [this.1,this.2]
def b5z {α:Type} {p:α->Bool} {r:List α}:∀ {l:List α},l.any p=true->(l++r).takeWhile (fun b=>!p b)=l.takeWhile (fun b=>!p b)/\(l++r).dropWhile (fun b=>!p b)=l.dropWhile (fun b=>!p b)++r
 | [],h=>by simp at h
 | x::l,h=>by
   rw [q1C,q2I,q2J,q2I,q2J];cases hx:p x with
   | true=>simp
   | false=>
     rw [q2C,hx,q4H] at h;have:=b5z (r:=r) h;simp [this.1,this.2]
def a7T {l:List c4} {v:List UInt8} (x:c6) (h:l.any (gtB v)=false):y8 l v x=l++[⟨v,x⟩]:=by rw [y8,(b5B h).1,(b5B h).2]
def c3P {l:List c4} {v:List UInt8} {b:c4} (x:c6) (h:l.any (gtB v)=false) (hb:gtB v b=true):y8 (l++[b]) v x=l++[⟨v,x⟩]++[b]:=by rw [y8,(b5A hb h).1,(b5A hb h).2];simp
def c1S {l:List c4} {v:List UInt8} {b:c4} (x:c6) (h:l.any (gtB v)=true):y8 (l++[b]) v x=y8 l v x++[b]:=by rw [y8,y8,(b5z h).1,(b5z h).2];simp
def a1b (l:List c4) (v:List UInt8) (x:c6):(y8 l v x).length=l.length+1:=by
 have h:=congrArg List.length (q2E (p:=fun b=>!gtB v b) (l:=l));rw [V0] at h;rw [y8,V0,V6];omega
def b6Q (l:List c4) (v:List UInt8):Int:=bif decide (a3C (gtB v) l < 0) then (l.length:Int) else a3C (gtB v) l
def c3v (l:List c4) (v:List UInt8) (x:c6):0<=b6Q l v/\b6Q l v<=l.length/\insL l (b6Q l v) ⟨v,x⟩=y8 l v x:=by
 cases h:l.any (gtB v) with
 | false=>
   rw [b6Q,a0s h];refine ⟨by simp,by simp, ?_⟩;rw [a7T x h];simp [insL]
 | true=>
   obtain ⟨i,hi,ha,hp⟩:∃ i,i < l.length/\(l.take i).any (gtB v)=false/\gtB v (l.getD i default)=true:=by
    have gen:∀ l:List c4,l.any (gtB v)=true->∃ i,i < l.length/\(l.take i).any (gtB v)=false/\gtB v (l.getD i default)=true:=by
     intro l
     induction l with
     | nil=>intro h;simp at h
     | cons y l ih=>
       intro h;cases hy:gtB v y with
       | true=>exact ⟨0,by simp,by simp,by simpa using hy⟩
       | false=>
         rw [q2C,hy,q4H] at h;obtain ⟨i,h1,h2,h3⟩:=ih h;exact ⟨i+1,by simpa using h1,by simp [hy,h2],by simpa using h3⟩
    exact gen l h
   have e:=a0O (p:=gtB v) (d:=default) hi ha hp;rw [b6Q,e,V9 (by omega)];refine ⟨by simp,by simp;omega, ?_⟩;have hs:l=l.take i++l.getD i default::l.drop (i+1):=by
    rw [l4 default hi];simp
   rw [V3,insL,Int.toNat_natCast,y8];generalize l.getD i default=b at hp hs;generalize l.drop (i+1)=r at hs;have h1:=b5A (r:=r) hp ha;rw [<- hs] at h1;rw [h1.1,h1.2];have h2:l.drop i=b::r:=by
    conv=>lhs;rw [hs]
    rw [List.drop_append_of_le_length (by rw [V4];omega),q3K (by rw [V4];omega)];rfl
   rw [h2]
def gt_not (b v:List UInt8):(!(Op.bytesLess b v || b==v))=Op.bytesLess v b:=by
 cases h1:Op.bytesLess b v with
 | true=>
   cases h2:Op.bytesLess v b with
   | false=>rfl
   | true=>have h3:=a6H _ _ _ h1 h2;rw [a0R] at h3;cases h3
 | false=>
   cases h2:Op.bytesLess v b with
   | false=>rw [a4L _ _ h1 h2];simp
   | true=>
     have:(b==v)=false:=beq_eq_false_iff_ne.2 fun e=>by subst e;have h3:=a0R b;rw [h3] at h2;cases h2
     rw [this];rfl
def a3D (l:List c4) (v:List UInt8) (x:c6):List c4:=bif l.any (gtB v) then y8 l v x else l
def b6N {l:List c4} {v:List UInt8} {x:c6} {b:c4} (h:l.any (gtB v)=false) (hb:gtB v b=true):a3D (l++[b]) v x=a3D l v x++[⟨v,x⟩]++[b]/\(l++[b]).any (gtB v)=true:=by
 have h2:(l++[b]).any (gtB v)=true:=by rw [q1J,q2C,hb];simp
 exact ⟨by rw [a3D,a3D,h2,h,V1,V3,c3P x h hb],h2⟩
def b9X {l:List c4} {v:List UInt8} {x:c6} {b:c4} (h:(!l.any (gtB v)&&gtB v b)=false):a3D (l++[b]) v x=a3D l v x++[b]/\(l++[b]).any (gtB v)=l.any (gtB v):=by
 cases ha:l.any (gtB v) with
 | true=>
   have h2:(l++[b]).any (gtB v)=true:=by rw [q1J,ha];rfl
   exact ⟨by rw [a3D,a3D,h2,ha,V1,V1,c1S x ha],h2⟩
 | false=>
   rw [ha] at h;have h2:(l++[b]).any (gtB v)=false:=by rw [q1J,ha,q2C,show gtB v b=false from h];rfl
   exact ⟨by rw [a3D,a3D,h2,ha,V3,V3],h2⟩
def b6O (l:List c4) (v:List UInt8) (x:c6):(a3D l v x).length<=l.length+1:=by
 rw [a3D];cases l.any (gtB v) with
 | true=>rw [V1,a1b];exact V8 _
 | false=>exact q4M _
def b6C (l:List c4) (hpre:l.length < 1000000):A0c Tryz.prog 298 [(false,[.sl false [.s [],.i .i64 0,.s []] (l.map c4.cells)])] [] (.one (false,[.sl true [.s [],.i .i64 0,.s []] (l.map c4.cells)])):=by
 exact a7v (d:=[.s [],.i .i64 0,.s []]) Tryz.cloneBind (by kernel_rfl) (hi:=rfl) (hz0:=rfl) (hz1:=rfl) (bytes:=40) (hz2:=rfl) (hzs:=rfl) (by decide) (fun w=>rfl) _ (by rw [q0G];omega)
noncomputable def a8a:CT:=j9 (fun (x:(List c4)) h=>b6C x h)
@[go_sem] def c3e:=fun l=>nm' (fP' a8a rfl l)
def b2S (b:c4) (v:List UInt8):A0c Tryz.prog 296 [(true,[.s b.Var,.i .i64 b.Val.N,.s b.Val.S]),(false,[.p [.s v]])] [] (.one (false,[.b (gtB v b)])):=by
 refine sx' false false none Tryz.func296 (q' 0 [ax (o' 2 (.box 3 (.t 0))),ab 3 false] (q' 4 [aG 0 2,al 1,ao (.bin .gtr (.t 5) (.t 6)),aV 3] .ret)) [.t 3] [] ?_;intro hb hE;simp only [go_sem];repeat' first | apply cj' | intro hc | exact om' | fail
 exact gt_not _ _
noncomputable def a4U:CT:=j4 (fun (x:c4×(List UInt8))=>b2S x.1 x.2)
@[go_sem] def c0L:=fun x0 x1 x2 v=>nm' (fQ' a4U rfl (⟨x0,⟨x1,x2⟩⟩,v))
def b6E (l:List c4) (v:List UInt8):A0c Tryz.prog 295 [(false,[l9 l]),(false,[.f 296 [.p [.s v]]])] [] (.one (false,[.i .i64 (a3C (gtB v) l)])):=by
 refine sx' false false none Tryz.func295 (q' 4 [aK 0] (.seq (q' 6 [am 0,aN,aK 0] (.block 0 (.loop (q' 9 [ar 8 7] (.seq (.cond (.t 9) .skip (.exit 0)) (.seq (.block 1 (q' 10 [am 8,aV 5] (q' 11 [aM [1,0,5],aI 3,aE 3,ao (.callv (.t 11) [.t 15])] (.cond (.t 16) (q' 17 [am 5,aV 4] .ret) .skip)))) (g' 18 [aA 8]))))))) (q' 4 [ao (.mov (.k (.v false [.c (.i .i64 (-1))])))] .ret))) [.t 4] [(296,[],a4U)] ?_;intro hb hE;simp only [go_sem];repeat' first | apply cj' | intro hc | exact om' | fail
 refine lq' false [0,1,7] [] [] (fun i:{i:Nat // i<=l.length/\(l.take i).any (gtB v)=false}=>[(8,slV (.i .i64 i.1))]) nl' nl' (fun i=>l.length - i.1) (⟨0,by simp⟩) ?_;intro S0 hS0 i;obtain ⟨i,hi,ha⟩:=i;simp only [go_sem,hS0];repeat' first | apply cj' | intro hc | exact om' | fail
 ·exact (a0O (p:=gtB v) (d:=default) (by omega) ha (by simpa [-List.getD_eq_getElem?_getD] using hc)).symm
 ·exact nx0 ⟨i+1,by omega,a0t (p:=gtB v) default (by omega) ha (by simpa [-List.getD_eq_getElem?_getD] using hc)⟩
 ·exact (a0s (by rwa [f8 (by omega)] at ha)).symm
noncomputable def a8c:CT:=j4 (fun (x:(List c4)×(List UInt8))=>b6E x.1 x.2)
@[go_sem] def c3h:=fun l v=>nm' (fQ' a8c rfl (l,v))
@[go_sem] def a3K:ACode:=q' 5 [ax (o' 3 (.box 1 (.t 0))),ao (.box 2 (.t 2)),aw [.sl f7]] (q' 7 [ax (o' 11 (.bld [.sl f7] [])),aw [.sl f7],aS 1 7 11] (q' 0 [ab 8 false] (.seq (q' 12 [aG 0 3,aN,aK 0] (.block 0 (.loop (q' 16 [ar 15 14] (.seq (.cond (.t 16) .skip (.exit 0))
 (.seq (.block 1 (q' 17 [ai 3 13 15,aE 3,ax (w' 10 [.s,.i .i64,.s]),aS 3 10 18] (.seq (q' 19 [am 8,ao (.not (.t 19)),am 20,au (.mov (.t 1)) 21 true,au (.fa 0
 (.t 10)) 21 true,au (.ld false 1 (.t 23)) 21 true,au (.bin .lss (.t 22) (.t 24)) 21 true,ao (.pick (.t 21) (.t 25) (bb false))] (.cond (.t 26) (q' 27 [aG 0
 7,am 1,ae 2 5,ao (.bld [.s,.i .i64,.s] [(0,1,.t 29),(1,2,.t 30)]),ao (.bsl 3 1 [.s,.i .i64,.s] [(0,.t 31)]),ao (.app 3 40 [.s,.i .i64,.s] (.t 28)
 (.t 32)),af 0 7,aS 1 34 33] (g' 0 [ab 8 true])) .skip)) (g' 35 [aG 0 7,ae 3 10,ao (.bsl 3 1 [.s,.i .i64,.s] [(0,.t 37)]),ao (.app 3 40 [.s,.i .i64,.s]
 (.t 36) (.t 38)),af 0 7,aS 1 40 39])))) (g' 41 [aA 15]))))))) (.seq (q' 42 [am 8,ao (.not (.t 42))] (.cond (.t 43) (g' 44 [aG 0 7,am 1,ae 2 5,ao (.bld [.s,.i
 .i64,.s] [(0,1,.t 46),(1,2,.t 47)]),ao (.bsl 3 1 [.s,.i .i64,.s] [(0,.t 48)]),ao (.app 3 40 [.s,.i .i64,.s] (.t 45) (.t 49)),af 0 7,aS 1 51 50])
 .skip)) (q' 52 [ae 1 7,aS 1 6 52] .ret)))))
def b3A (e:d3) (v:List UInt8) (x:c6) (hpre:e.Binds.length<=1000):A0c Tryz.prog 218 [(true,[l9 e.Binds]),(false,[.s v]),(true,[.i .i64 x.N,.s x.S])] [] (.one (true,[kTBind ((⟨y8 e.Binds v x⟩:d3).Binds)])):=by
 refine sx' false false none Tryz.func218 a3K [.c 6 true 1] [] ?_;intro hb hE;simp only [go_sem];repeat' first | apply cj' | intro hc | exact om' | fail
 refine lk' false [(true,14,0,200028)] [1,5,6,7,13,14] [10,12] [] (fun i:{i:Nat // i<=e.Binds.length}=>[(8,slV (.b ((e.Binds.take i.1).any (gtB v)))),(15,slV (.i .i64 i.1))]) (fun i=>[(14,[.ow 200028])]) (fun i=>[(200028,f7,(a3D (e.Binds.take i.1) v x).map c4.cells)]) (fun i=>e.Binds.length - i.1) (⟨0,by simp⟩) ?_;intro S0 hS0 i;obtain ⟨i,hi⟩:=i;have hol:=b6O (e.Binds.take i) v x;rw [V4] at hol;have hsn:i < e.Binds.length->e.Binds.take (i+1)=e.Binds.take i++[e.Binds.getD i default]:=fun h=>i6 default h
 simp only [go_sem,hS0];repeat' first | apply cj' | intro hc | exact om' | fail
 ·have h1:=b6N (x:=x) hc.1 hc.2;rw [<- hsn (by omega)] at h1
  (refine lpK_n2 (⟨i+1,by omega⟩) _ (by simp only [go_sem];try rfl) ?_;simp only [go_sem,hS0]<;>repeat' first | apply V7 | exact on' | fail)
  all_goals (first | exact congrArg (List.map c4.cells) h1.1.symm | (rw [h1.2];done) | (rw [h1.2];exact congrArg _ hc.1.symm))
 ·have h1:=b9X (x:=x) hc;rw [<- hsn (by omega)] at h1
  (refine lpK_n2 (⟨i+1,by omega⟩) _ (by simp only [go_sem];try rfl) ?_;simp only [go_sem,hS0]<;>repeat' first | apply V7 | exact on' | fail)
  all_goals (first | exact congrArg (List.map c4.cells) h1.1.symm | (rw [h1.2];done) | (rw [h1.2];exact congrArg _ hc.1.symm))
 ·rw [f8 (by omega)] at hc ⊢;rw [a3D,hc,V3,a7T x hc]
 ·rw [f8 (by omega)] at hc ⊢;rw [a3D,hc,V1]
noncomputable def a5n:CT:=j9 (fun (x:d3×(List UInt8)×c6) h=>b3A x.1 x.2.1 x.2.2 h)
@[go_sem] def c1u:=fun x0 v x1 x2=>nm' (fP' a5n rfl (⟨x0⟩,v,⟨x1,x2⟩))
def a5s (a b:c6):Bool:=a.N==b.N&&a.S==b.S
def b2N (b:List c4) (t:c9) (v:c6):Option (List c4):=bif (f9 ⟨b⟩ t).2 then (bif a5s (f9 ⟨b⟩ t).1 v then some b else none) else some (y8 b t.Var v)
def a0y (b:List c4) (args:List c9) (vs:List c6):Nat->Option (List c4)
 | 0=>some b
 | n+1=>(a0y b args vs n).bind fun c=>b2N c (args.getD n default) (vs.getD n default)
def a2x (e:d3) (args:List c9) (row:c7):d3×Bool:=bif decide (args.length=row.V.length) then (match a0y e.Binds args row.V args.length with | some c=>(⟨c⟩,true) | none=>(default,false)) else (default,false)
def b3R {b:List c4} {args:List c9} {vs:List c6} {i:Nat} (h:a0y b args vs i=none):∀ {n:Nat},i<=n->a0y b args vs n=none
 | 0,hn=>by
   obtain rfl:i=0:=by omega
   exact h
 | n+1,hn=>by
   rcases q2P i (n+1) with h1 | h1
   ·rw [a0y,b3R h (show i<=n by omega)];rfl
   ·obtain rfl:i=n+1:=by omega
    exact h
def a6r {b:List c4} {args:List c9} {vs:List c6}:∀ {n:Nat} {c:List c4},a0y b args vs n=some c->c.length<=b.length+n
 | 0,c,h=>by simp only [a0y,W0] at h;subst h;exact V8 _
 | n+1,c,h=>by
   rw [a0y] at h;obtain ⟨d,h1,h2⟩:=q1W.1 h;have:=a6r h1;rw [b2N] at h2;cases hv:(f9 ⟨d⟩ (args.getD n default)).2 with
   | true=>
     rw [hv,V1] at h2;cases hs:a5s (f9 ⟨d⟩ (args.getD n default)).1 (vs.getD n default) with
     | true=>rw [hs,V1,W0] at h2;subst h2;omega
     | false=>rw [hs] at h2;cases h2
   | false=>
     rw [hv,V3,W0] at h2;subst h2;rw [a1b];omega
def b9O {b c:List c4} {args:List c9} {vs:List c6} {i:Nat} (h:a0y b args vs i=some c) (hv:(f9 ⟨c⟩ (args.getD i default)).2=false):a0y b args vs (i+1)=some (y8 c (args.getD i default).Var (vs.getD i default)):=by
 rw [a0y,h,q2Z,b2N,hv,V3]
def b0U {b c:List c4} {args:List c9} {vs:List c6} {i:Nat} (h:a0y b args vs i=some c) (hv:(f9 ⟨c⟩ (args.getD i default)).2=true) (hs:a5s (f9 ⟨c⟩ (args.getD i default)).1 (vs.getD i default)=true):a0y b args vs (i+1)=some c:=by
 rw [a0y,h,q2Z,b2N,hv,hs];rfl
def b4N {b c:List c4} {args:List c9} {vs:List c6} {i n:Nat} (h:a0y b args vs i=some c) (hn:i < n) (hv:(f9 ⟨c⟩ (args.getD i default)).2=true) (hs:a5s (f9 ⟨c⟩ (args.getD i default)).1 (vs.getD i default)=false):a0y b args vs n=none:=by
 refine b3R (i:=i+1) ?_ hn;rw [a0y,h,q2Z,b2N,hv,hs];rfl
def a6L {e:d3} {t:c9} (h:(t.Var==[])=false):f9 e t=o7 e t.Var:=by rw [f9,h];rfl
def a4O {e:d3} {t:c9} (h:(t.Var==[])=true):f9 e t=(t.Val,true):=by rw [f9,h];rfl
end Go.Aw
namespace Go.Aw
open Go.Proofs
set_option linter.all false
set_option maxRecDepth 100000
def a0N (l:List c4) (v:List UInt8):o7 ⟨l⟩ v=match l.find? (fun b=>b.Var==v) with | some b=>(b.Val,true) | none=>(default,false):=by
 cases h:l.find? (fun b=>b.Var==v) with
 | none=>
   refine a4s fun j hj=>?_
   have:=List.find?_eq_none.1 h (l.getD j default) (by rw [l4 default hj];exact q0R hj);simpa using this
 | some b=>
   obtain ⟨hp,l1,l2,rfl,hno⟩:=List.find?_eq_some_iff_append.1 h;have e:(l1++b::l2).getD l1.length default=b:=by simp
   rw [a4t (e:=⟨l1++b::l2⟩) (i:=l1.length) (by simp) (fun j hj=>?_) (by simp only [e];exact hp)]
   ·simp only [e]
   ·have hm:(l1++b::l2).getD j default=l1[j]:=by
     rw [W6,q4P hj,V2 hj];rfl
    simp only [hm];have:=hno l1[j] (q0R hj);simpa using this
def b0P {l:List c4} {v:List UInt8} (h:(o7 ⟨l⟩ v).2=false):l.find? (fun b=>b.Var==v)=none:=by
 rw [a0N] at h;cases hf:l.find? (fun b=>b.Var==v) with
 | none=>rfl
 | some b=>rw [hf] at h;cases h
def a4H {l:List c4} {v:List UInt8} (h:(o7 ⟨l⟩ v).2=false):¬ v∈l.map c4.Var:=by
 intro hm;obtain ⟨b,hb,rfl⟩:=q0U.1 hm;have:=List.find?_eq_none.1 (b0P h) b hb;simp at this
def off_of {l:List c4} {v:List UInt8} (h:¬ v∈l.map c4.Var):(o7 ⟨l⟩ v).2=false:=by
 rw [a0N,List.find?_eq_none.2 (fun b hb hv=>h (q0U.2 ⟨b,hb,by simpa using hv⟩))]
def c3G {l:List c4} {v:List UInt8}:(o7 ⟨l⟩ v).2=true↔v∈l.map c4.Var:=by
 constructor
 ·intro h;refine Classical.byContradiction fun hn=>?_
  rw [off_of hn] at h;cases h
 ·intro h;cases hv:(o7 ⟨l⟩ v).2 with
  | true=>rfl
  | false=>exact absurd h (a4H hv)
def b1X (l:List c4) (v:List UInt8):l.takeWhile (fun b=>!gtB v b)++l.dropWhile (fun b=>!gtB v b)=l:=q2E
def c1C {l:List c4} {v w:List UInt8} {x:c6} (hw:w≠v):o7 ⟨y8 l v x⟩ w=o7 ⟨l⟩ w:=by
 rw [a0N,a0N]
 conv=>rhs;rw [<- b1X l v]
 rw [y8,q4Y,q4Y,q3H,show ((v==w)=false) from beq_eq_false_iff_ne.2 (Ne.symm hw)]
def b6q {l:List c4} {v:List UInt8} {x:c6} (h:(o7 ⟨l⟩ v).2=false):o7 ⟨y8 l v x⟩ v=(x,true):=by
 have h1:=b0P h;rw [<- b1X l v,q4Y] at h1;rw [a0N,y8,q4Y];cases h2:(l.takeWhile fun b=>!gtB v b).find? (fun b=>b.Var==v) with
 | some b=>rw [h2] at h1;cases h1
 | none=>simp
def c3W {a b:c6} (h:a5s a b=true):a=b:=by
 obtain ⟨n,s⟩:=a;obtain ⟨m,t⟩:=b;simp only [a5s,W5,beq_iff_eq] at h;obtain ⟨rfl,rfl⟩:=h;rfl
def Back (c:List c4) (t:c9) (x:c6):Prop:=f9 ⟨c⟩ t=(x,true)
def Back.set {c:List c4} {t:c9} {x y:c6} {v:List UInt8} (h:Back c t x) (hv:(o7 ⟨c⟩ v).2=false):Back (y8 c v y) t x:=by
 unfold Back at *;rw [f9] at h ⊢;cases ht:t.Var==[] with
 | true=>rw [ht] at h;exact h
 | false=>
   rw [ht,V3] at h;have hn:t.Var≠v:=by intro e;rw [<- e,h] at hv;cases hv
   rw [V3,c1C hn];exact h
def y4 {c:List c4} {t:c9} (h:(f9 ⟨c⟩ t).2=false):(t.Var==[])=false/\(o7 ⟨c⟩ t.Var).2=false:=by
 rw [f9] at h;cases ht:t.Var==[] with
 | true=>rw [ht] at h;cases h
 | false=>rw [ht] at h;exact ⟨rfl,h⟩
def a5C {b c:List c4} {t:c9} {v:c6} (h:b2N b t v=some c):(c=b/\Back b t v)\/(c=y8 b t.Var v/\(t.Var==[])=false/\(o7 ⟨b⟩ t.Var).2=false):=by
 rw [b2N] at h;cases hv:(f9 ⟨b⟩ t).2 with
 | true=>
   rw [hv,V1] at h;cases hs:a5s (f9 ⟨b⟩ t).1 v with
   | true=>
     rw [hs,V1,W0] at h;refine .inl ⟨h.symm, ?_⟩;unfold Back;rw [<- c3W hs,<- hv]
   | false=>rw [hs] at h;cases h
 | false=>
   rw [hv,V3,W0] at h;exact .inr ⟨h.symm,y4 hv⟩
def c1E {b c:List c4} {t:c9} {v:c6} (h:b2N b t v=some c):Back c t v/\∀ s x,Back b s x->Back c s x:=by
 rcases a5C h with ⟨rfl,h1⟩ | ⟨rfl,h1,h2⟩
 ·exact ⟨h1,fun _ _ h=>h⟩
 ·refine ⟨?_,fun s x h=>h.set h2⟩;unfold Back;rw [f9,h1,V3,b6q h2]
def a7A {b:List c4} {args:List c9} {vs:List c6}:∀ {n:Nat} {c:List c4},a0y b args vs n=some c->(∀ i,i < n->Back c (args.getD i default) (vs.getD i default))/\∀ s x,Back b s x->Back c s x
 | 0,c,h=>by
   simp only [a0y,W0] at h;subst h;exact ⟨fun i hi=>by omega,fun _ _ h=>h⟩
 | n+1,c,h=>by
   rw [a0y] at h;obtain ⟨d,h1,h2⟩:=q1W.1 h;obtain ⟨i1,i2⟩:=a7A h1;obtain ⟨j1,j2⟩:=c1E h2;refine ⟨fun i hi=>?_,fun s x h=>j2 s x (i2 s x h)⟩;rcases q2P i n with h3 | h3
   ·exact j2 _ _ (i1 i h3)
   ·obtain rfl:i=n:=by omega
    exact j1
def EnvS (l:List c4):Prop:=(∀ b∈l,a3z b.Var=true/\i4 b.Val=true)/\SS Op.bytesLess (l.map c4.Var)
def a1q {l:List c4} {v:List UInt8} (x:c6) (h:¬ v∈l.map c4.Var):(y8 l v x).map c4.Var=y7 Op.bytesLess (l.map c4.Var) v:=by
 rw [y7,if_neg h,List.takeWhile_map,List.dropWhile_map,y8,q2H,q0M];rfl
def c3Q {l:List c4} {v:List UInt8} {x:c6} {b:c4}:b∈y8 l v x↔b=⟨v,x⟩\/b∈l:=by
 conv=>rhs;rw [<- b1X l v]
 rw [y8,W8,q0A,W8];constructor
 ·rintro (h | h | h)
  ·exact .inr (.inl h)
  ·exact .inl h
  ·exact .inr (.inr h)
 ·rintro (h | h | h)
  ·exact .inr (.inl h)
  ·exact .inl h
  ·exact .inr (.inr h)
def EnvS.set {l:List c4} {v:List UInt8} {x:c6} (h:EnvS l) (hv:a3z v=true) (hx:i4 x=true) (hn:(o7 ⟨l⟩ v).2=false):EnvS (y8 l v x):=by
 refine ⟨fun b hb=>?_,by rw [a1q x (a4H hn)];exact SS.put u3 h.2 v⟩;rcases c3Q.1 hb with rfl | hb
 ·exact ⟨hv,hx⟩
 ·exact h.1 b hb
def b2a {t:c9} (h:o5 t=true) (hv:(t.Var==[])=false):a3z t.Var=true:=by
 rw [o5,hv] at h;simp only [q3E,V1,W5] at h;exact h.1
def EnvS.fit {b c:List c4} {t:c9} {v:c6} (h:EnvS b) (ht:o5 t=true) (hv:i4 v=true) (hf:b2N b t v=some c):EnvS c:=by
 rcases a5C hf with ⟨rfl,_⟩ | ⟨rfl,h1,h2⟩
 ·exact h
 ·exact h.set (b2a ht h1) hv h2
def EnvS.fits {b:List c4} {args:List c9} {vs:List c6} (h:EnvS b) (ha:args.all o5=true) (hv:vs.all i4=true):∀ {n:Nat} {c:List c4},n<=args.length->n<=vs.length->a0y b args vs n=some c->EnvS c
 | 0,c,_,_,hf=>by
   simp only [a0y,W0] at hf;subst hf;exact h
 | n+1,c,hn,hm,hf=>by
   rw [a0y] at hf;obtain ⟨d,h1,h2⟩:=q1W.1 hf;refine (EnvS.fits h ha hv (by omega) (by omega) h1).fit (q0J.1 ha _ ?_) (q0J.1 hv _ ?_) h2
   ·rw [l4 default (by omega)];exact q0R _
   ·rw [l4 default (by omega)];exact q0R _
def fitR_on {e:d3} {args:List c9} {row:c7} (h:(a2x e args row).2=true):args.length=row.V.length/\a0y e.Binds args row.V args.length=some (a2x e args row).1.Binds:=by
 rw [a2x] at h ⊢;by_cases hl:args.length=row.V.length
 ·rw [V5 hl,V1] at h ⊢;split at h
  ·rename_i c hc;exact ⟨hl,hc⟩
  ·cases h
 ·rw [V9 hl] at h;cases h
def a7y {c:List c4} {args:List c9} {row:c7} (hl:args.length=row.V.length) (h:∀ i,i < args.length->Back c (args.getD i default) (row.V.getD i default)):o8 ⟨c⟩ args=(row,true):=by
 have h1:args.all (fun t=>(f9 ⟨c⟩ t).2)=true:=by
  rw [q0J];intro t ht;obtain ⟨i,hi,rfl⟩:=q3X ht;have:=h i hi;unfold Back at this;rw [l4 default hi] at this;rw [this]
 have h2:args.map (fun t=>(f9 ⟨c⟩ t).1)=row.V:=by
  refine q4O (by rw [q0G];exact hl) fun i hi hj=>?_
  rw [q0G] at hi;have:=h i hi;unfold Back at this;rw [l4 default hi,l4 default hj] at this;rw [q5D,this]
 rw [o8,h1,V1,h2]
def b8T (a:c6):n0 a a=false:=by
 rw [n0,a0R,V9 (by omega)];cases a.S==[]&&a.S==[]<;>rfl
def b3Z:∀ a:List c6,z8 a a=0
 | []=>rfl
 | x::a=>by rw [z8,b8T];exact b3Z a
def b4c {r:c7} (h:a0o r=true):r.V.length<=6/\r.V.all i4=true:=by
 simp only [a0o,W5,q0H] at h;exact ⟨by omega,h.2⟩
def STO.two {α β γ:Type} {lb:β->β->Bool} {lg:γ->γ->Bool} (ob:STO lb) (og:STO lg) (f:α->β) (g:α->γ) (inj:∀ x y,f x=f y->g x=g y->x=y):STO fun x y=>lb (f x) (f y) || (!lb (f y) (f x)&&lg (g x) (g y)) where
 irr x:=by rw [ob.irr,og.irr];rfl
 tr x y z h1 h2:=by
  simp only [q2F,W5,q1G] at h1 h2 ⊢;rcases h1 with h1 | ⟨h1,h1'⟩
  ·rcases h2 with h2 | ⟨h2,h2'⟩
   ·exact .inl (ob.tr _ _ _ h1 h2)
   ·cases h:lb (f y) (f z) with
    | true=>exact .inl (ob.tr _ _ _ h1 h)
    | false=>rw [<- ob.tri _ _ h h2];exact .inl h1
  ·cases h:lb (f x) (f y) with
   | true=>
     rcases h2 with h2 | ⟨h2,h2'⟩
     ·exact .inl (ob.tr _ _ _ h h2)
     ·cases h3:lb (f y) (f z) with
      | true=>exact .inl (ob.tr _ _ _ h h3)
      | false=>rw [<- ob.tri _ _ h3 h2];exact .inl h
   | false=>
     rw [ob.tri _ _ h h1];rcases h2 with h2 | ⟨h2,h2'⟩
     ·exact .inl h2
     ·exact .inr ⟨h2,og.tr _ _ _ h1' h2'⟩
 tri x y h1 h2:=by
  simp only [q2N,q3R,q1R] at h1 h2;obtain ⟨a1,a2⟩:=h1;obtain ⟨b1,b2⟩:=h2;rcases a2 with a2 | a2
  ·rw [b1] at a2;cases a2
  rcases b2 with b2 | b2
  ·rw [a1] at b2;cases b2
  exact inj _ _ (ob.tri _ _ a1 b1) (og.tri _ _ a2 b2)
def a1F {α:Type} (lt:α->α->Bool):List α->List α->Bool
 | _,[]=>false
 | [],_::_=>true
 | x::a,y::b=>lt x y || (!lt y x&&a1F lt a b)
def STO.lex {α:Type} {lt:α->α->Bool} (o:STO lt):STO (a1F lt) where
 irr x:=by
  induction x with
  | nil=>rfl
  | cons x a ih=>rw [a1F,o.irr,ih];rfl
 tr x:=by
  induction x with
  | nil=>
    intro y z h1 h2;cases z with
    | nil=>cases y<;>simp [a1F] at h2
    | cons z c=>rfl
  | cons x a ih=>
    intro y z h1 h2;cases y with
    | nil=>simp [a1F] at h1
    | cons y b=>
      cases z with
      | nil=>simp [a1F] at h2
      | cons z c=>
        simp only [a1F,q2F,W5,q1G] at h1 h2 ⊢;rcases h1 with h1 | ⟨h1,h1'⟩
        ·rcases h2 with h2 | ⟨h2,h2'⟩
         ·exact .inl (o.tr _ _ _ h1 h2)
         ·cases h:lt y z with
          | true=>exact .inl (o.tr _ _ _ h1 h)
          | false=>rw [<- o.tri _ _ h h2];exact .inl h1
        ·cases h:lt x y with
         | true=>
           rcases h2 with h2 | ⟨h2,h2'⟩
           ·exact .inl (o.tr _ _ _ h h2)
           ·cases h3:lt y z with
            | true=>exact .inl (o.tr _ _ _ h h3)
            | false=>rw [<- o.tri _ _ h3 h2];exact .inl h
         | false=>
           rw [o.tri _ _ h h1];rcases h2 with h2 | ⟨h2,h2'⟩
           ·exact .inl h2
           ·exact .inr ⟨h2,ih _ _ h1' h2'⟩
 tri x:=by
  induction x with
  | nil=>
    intro y h1 h2;cases y with
    | nil=>rfl
    | cons y b=>simp [a1F] at h1
  | cons x a ih=>
    intro y h1 h2;cases y with
    | nil=>simp [a1F] at h2
    | cons y b=>
      simp only [a1F,q2N,q3R,q1R] at h1 h2;obtain ⟨a1,a2⟩:=h1;obtain ⟨b1,b2⟩:=h2;rcases a2 with a2 | a2
      ·rw [b1] at a2;cases a2
      rcases b2 with b2 | b2
      ·rw [a1] at b2;cases b2
      rw [o.tri _ _ a1 b1,ih _ a2 b2]
def vLt (a b:c6):Bool:=Op.bytesLess a.S b.S || (!Op.bytesLess b.S a.S&&iLt a.N b.N)
def a6K:STO vLt:=STO.two u3 b9Q c6.S c6.N fun x y h1 h2=>by cases x;cases y;simp_all
def bLt (a b:c4):Bool:=Op.bytesLess a.Var b.Var || (!Op.bytesLess b.Var a.Var&&vLt a.Val b.Val)
def b4A:STO bLt:=STO.two u3 a6K c4.Var c4.Val fun x y h1 h2=>by cases x;cases y;simp_all
def q0 (a b:d3):Bool:=a1F bLt a.Binds b.Binds
def a0M:STO q0 where
 irr x:=b4A.lex.irr _
 tr x y z:=b4A.lex.tr _ _ _
 tri x y h1 h2:=by
  have:=b4A.lex.tri _ _ h1 h2;cases x;cases y;simp_all
def b5C {a b:c6} (ha:i4 a=true) (hb:i4 b=true):vLt a b=n0 a b:=by
 have hn:∀ v:c6,i4 v=true->(v.S==[])=false->v.N=0:=by
  intro v hv hs;rw [i4,hs,V3,W5] at hv;simpa using hv.1
 rw [vLt,n0];cases h1:a.S==[] with
 | true=>
   rw [beq_iff_eq] at h1;cases h2:b.S==[] with
   | true=>
     rw [beq_iff_eq] at h2;rw [h1,h2];rfl
   | false=>
     rw [h1];cases hbs:b.S with
     | nil=>rw [hbs] at h2;cases h2
     | cons x y=>rfl
 | false=>
   rw [Bool.false_and,V3,hn a ha h1];cases h2:b.S==[] with
   | true=>
     rw [beq_iff_eq] at h2;rw [h2];cases has:a.S with
     | nil=>rw [has] at h1;cases h1
     | cons x y=>rfl
   | false=>
     rw [hn b hb h2,b9Q.irr,q3F,Bool.or_false]
def c1z (n:Nat) (f:Nat->Int):a1f (n+1) f=if f 0=0 then a1f n (fun i=>f (i+1)) else f 0:=by
 induction n with
 | zero=>simp [a1f]
 | succ n ih=>
   rw [a1f,ih];by_cases h:f 0=0
   ·rw [if_pos h,if_pos h,a1f]
   ·rw [if_neg h,if_neg h,if_neg h]
def okB (l:List c4):Prop:=∀ b∈l,i4 b.Val=true
def b0O:∀ {a b:List c4},okB a->okB b->a.map c4.Var=b.map c4.Var->a1C a b=bif a1F bLt a b then -1 else bif a1F bLt b a then 1 else 0
 | [],[],_,_,_=>rfl
 | [],y::b,_,_,h=>by cases h
 | x::a,[],_,_,h=>by cases h
 | x::a,y::b,ha,hb,h=>by
   simp only [q0M,W9] at h;have ih:=b0O (a:=a) (b:=b) (fun z hz=>ha z (by simp [hz])) (fun z hz=>hb z (by simp [hz])) h.2;have hx:=ha x (by simp);have hy:=hb y (by simp);rw [a1C] at ih;have e1:bLt x y=n0 x.Val y.Val:=by rw [bLt,h.1,a0R,b5C hx hy];simp
   have e2:bLt y x=n0 y.Val x.Val:=by rw [bLt,h.1,a0R,b5C hy hx];simp
   rw [a1C,V6,c1z];simp only [q1F,q1X,a1F,e1,e2,ih];rw [a4Q];cases h1:n0 x.Val y.Val with
   | true=>rfl
   | false=>
     cases h2:n0 y.Val x.Val with
     | true=>rfl
     | false=>rfl
def b0S (args:List c9) (e:d3) (row:c7):Option d3:=bif (a2x e args row).2 then some (a2x e args row).1 else none
def a1T (args:List c9) (rows:List c7) (e:d3):List d3:=rows.filterMap (b0S args e)
def m7 (args:List c9) (rows:List c7) (now:List d3):List d3:=now.flatMap (a1T args rows)
def y6 (r:c8) (s:d5):Nat->Option (List d3)
 | 0=>some [⟨[]⟩]
 | n+1=>(y6 r s n).bind fun now=>bif (r.Body.getD n default).Kind==1 then (bif decide ((m7 (r.Body.getD n default).Atom.Args (v8 s (r.Body.getD n default).Atom.Name).1.Rows now).length<=2000) then some (m7 (r.Body.getD n default).Atom.Args (v8 s (r.Body.getD n default).Atom.Name).1.Rows now) else none) else some now
def z6 (r:c8) (s:d5):List d3×Bool:=match y6 r s r.Body.length with | some l=>(l,true) | none=>([],false)
def b1c {r:c8} {s:d5} {i:Nat} (h:y6 r s i=none):∀ {n:Nat},i<=n->y6 r s n=none
 | 0,hn=>by
   obtain rfl:i=0:=by omega
   exact h
 | n+1,hn=>by
   rcases q2P i (n+1) with h1 | h1
   ·rw [y6,b1c h (show i<=n by omega)];rfl
   ·obtain rfl:i=n+1:=by omega
    exact h
def b3D (args:List c9) (rows:List c7) (now:List d3) (j:Nat):(m7 args rows (now.take j)).length<=(m7 args rows now).length:=by
 conv=>rhs;rw [<- q0S j now]
 rw [m7,m7,q3W,V0];omega
def b8Q {args:List c9} {rows:List c7} {now:List d3} {j:Nat} (h:j < now.length):m7 args rows (now.take (j+1))=m7 args rows (now.take j)++a1T args rows (now.getD j default):=by
 rw [i6 default h,m7,m7,q3W];simp
def c3O {args:List c9} {rows:List c7} {e c:d3} {k:Nat} (h:k < rows.length) (hf:b0S args e (rows.getD k default)=some c):a1T args (rows.take (k+1)) e=a1T args (rows.take k) e++[c]:=by
 rw [i6 default h,a1T,a1T,List.filterMap_append,List.filterMap_cons,hf];rfl
def rows_no {args:List c9} {rows:List c7} {e:d3} {k:Nat} (h:k < rows.length) (hf:b0S args e (rows.getD k default)=none):a1T args (rows.take (k+1)) e=a1T args (rows.take k) e:=by
 rw [i6 default h,a1T,a1T,List.filterMap_append,List.filterMap_cons,hf];simp
def c1R (args:List c9) (rows:List c7) (e:d3):(a1T args rows e).length<=rows.length:=List.length_filterMap_le _ _
def b0T {args:List c9} {e:d3} {row:c7} (h:(a2x e args row).2=true):b0S args e row=some (a2x e args row).1:=by rw [b0S,h];rfl
def b4M {args:List c9} {e:d3} {row:c7} (h:(a2x e args row).2=false):b0S args e row=none:=by rw [b0S,h];rfl
def b3S {r:c8} {s:d5} {i j:Nat} {now:List d3} (hj:y6 r s i=some now) (hi:i < r.Body.length) (hk:((r.Body.getD i default).Kind==1)=true) (hl:2000 < (m7 (r.Body.getD i default).Atom.Args (v8 s (r.Body.getD i default).Atom.Name).1.Rows (now.take j)).length):z6 r s=([],false):=by
 have h1:=b3D (r.Body.getD i default).Atom.Args (v8 s (r.Body.getD i default).Atom.Name).1.Rows now j;have h2:y6 r s (i+1)=none:=by rw [y6,hj,q2Z,hk,V1,V9 (by omega)];rfl
 rw [z6,b1c h2 (show i+1<=r.Body.length by omega)]
def b6z {r:c8} {s:d5} {i:Nat} {now:List d3} (hj:y6 r s i=some now) (hk:((r.Body.getD i default).Kind==1)=true) (hl:(m7 (r.Body.getD i default).Atom.Args (v8 s (r.Body.getD i default).Atom.Name).1.Rows now).length<=2000):y6 r s (i+1)=some (m7 (r.Body.getD i default).Atom.Args (v8 s (r.Body.getD i default).Atom.Name).1.Rows now):=by
 rw [y6,hj,q2Z,hk,V1,V5 hl];rfl
def b1d {r:c8} {s:d5} {i:Nat} {now:List d3} (hj:y6 r s i=some now) (hk:((r.Body.getD i default).Kind==1)=false):y6 r s (i+1)=some now:=by
 rw [y6,hj,q2Z,hk];rfl
def b6A {r:c8} {s:d5} {now:List d3} (hj:y6 r s r.Body.length=some now):z6 r s=(now,true):=by rw [z6,hj]
def a7B {r:c8} {s:d5} {n:Nat} {now:List d3} (h:y6 r s n=some now):now.length<=2000:=by
 induction n generalizing now with
 | zero=>simp only [y6,W0] at h;subst h;simp
 | succ n ih=>
   rw [y6] at h;obtain ⟨d,h1,h2⟩:=q1W.1 h;cases hk:(r.Body.getD n default).Kind==1 with
   | false=>rw [hk,V3,W0] at h2;subst h2;exact ih h1
   | true=>
     rw [hk,V1] at h2;by_cases hl:(m7 (r.Body.getD n default).Atom.Args (v8 s (r.Body.getD n default).Atom.Name).1.Rows d).length<=2000
     ·rw [V5 hl,V1,W0] at h2;subst h2;exact hl
     ·rw [V9 hl] at h2;cases h2
def ExtB (b c:List c4):Prop:=∀ s x,Back b s x->Back c s x
def ExtB.refl (b:List c4):ExtB b b:=fun _ _ h=>h
def ExtB.trans {b c d:List c4} (h1:ExtB b c) (h2:ExtB c d):ExtB b d:=fun s x h=>h2 s x (h1 s x h)
def dom1 (vs:List (List UInt8)) (t:c9):List (List UInt8):=bif t.Var==[] then vs else y7 Op.bytesLess vs t.Var
def c3s {b c:List c4} {t:c9} {v:c6} (h:b2N b t v=some c):c.map c4.Var=dom1 (b.map c4.Var) t:=by
 rcases a5C h with ⟨rfl,h1⟩ | ⟨rfl,h1,h2⟩
 ·rw [dom1];cases ht:t.Var==[] with
  | true=>rfl
  | false=>
    unfold Back at h1;rw [f9,ht,V3] at h1;rw [V3,y7,if_pos (c3G.1 (by rw [h1]))]
 ·rw [dom1,h1,V3,a1q v (a4H h2)]
def b6w {b:List c4} {args:List c9} {vs:List c6}:∀ {n:Nat} {c:List c4},n<=args.length->a0y b args vs n=some c->c.map c4.Var=(args.take n).foldl dom1 (b.map c4.Var)
 | 0,c,_,h=>by
   simp only [a0y,W0] at h;subst h;rfl
 | n+1,c,hn,h=>by
   rw [a0y] at h;obtain ⟨d,h1,h2⟩:=q1W.1 h;rw [i6 default (by omega),q4K,<- b6w (by omega) h1,c3s h2];rfl
structure FitFact (args:List c9) (e:d3) (row:c7) (c:d3):Prop where
 len:args.length=row.V.length
 back:∀ i,i < args.length->Back c.Binds (args.getD i default) (row.V.getD i default)
 ext:ExtB e.Binds c.Binds
 dom:c.Binds.map c4.Var=args.foldl dom1 (e.Binds.map c4.Var)
 ok:EnvS e.Binds->args.all o5=true->row.V.all i4=true->EnvS c.Binds
 lenB:c.Binds.length<=e.Binds.length+args.length
def a0Y {args:List c9} {e:d3} {row:c7} {c:d3} (h:b0S args e row=some c):FitFact args e row c:=by
 cases h2:(a2x e args row).2 with
 | false=>rw [b4M h2] at h;cases h
 | true=>
   rw [b0T h2,W0] at h;subst h;obtain ⟨hl,hf⟩:=fitR_on h2;refine ⟨hl,(a7A hf).1,(a7A hf).2, ?_,fun hE ha hv=>hE.fits ha hv (V8 _) (by omega) hf,a6r hf⟩;rw [b6w (V8 _) hf,List.take_length]
def c1D {l:List c4} (hn:(l.map c4.Var).Nodup) {b:c4} (hb:b∈l):l.find? (fun x=>x.Var==b.Var)=some b:=by
 induction l with
 | nil=>cases hb
 | cons a l ih=>
   rw [q0M,q0Z] at hn;rw [q3H];rcases q0A.1 hb with rfl | hb
   ·rw [beq_self_eq_true]
   ·have:(a.Var==b.Var)=false:=beq_eq_false_iff_ne.2 fun e=>hn.1 (e▸q0U.2 ⟨b,hb,rfl⟩)
    rw [this];exact ih hn.2 hb
def b7c {v:List UInt8} (h:a3z v=true):(v==[])=false:=by
 cases v with
 | nil=>revert h;decide
 | cons a v=>rfl
def EnvS.nodup {l:List c4} (h:EnvS l):(l.map c4.Var).Nodup:=SS.nodup u3 h.2
def EnvS.at {l:List c4} (h:EnvS l) {b:c4} (hb:b∈l):o7 ⟨l⟩ b.Var=(b.Val,true):=by
 rw [a0N,c1D h.nodup hb]
def b9N {a b c:List c4} (ha:EnvS a) (hb:EnvS b) (hv:a.map c4.Var=b.map c4.Var) (h1:ExtB a c) (h2:ExtB b c):a=b:=by
 have key:∀ {l:List c4},EnvS l->ExtB l c->l=(l.map c4.Var).map fun v=>⟨v,(o7 ⟨c⟩ v).1⟩:=by
  intro l hl he;rw [q4V];refine (List.map_id _).symm.trans (q2Y fun b hb=>?_);have h3:=he ⟨b.Var,default⟩ b.Val (by
   unfold Back;rw [f9];simp only [b7c (hl.1 b hb).1,V3];exact hl.at hb)
  unfold Back at h3;rw [f9] at h3;simp only [b7c (hl.1 b hb).1,V3] at h3;simp only [Function.comp,h3,id]
 rw [key ha h1,key hb h2,hv]
structure Alk (vs:List (List UInt8)) (l:List d3):Prop where
 nd:l.Nodup
 ok:∀ e∈l,EnvS e.Binds
 dom:∀ e∈l,e.Binds.map c4.Var=vs
def c2W {c:List c4} {args:List c9} {row row':c7} (hl:args.length=row.V.length) (hl':args.length=row'.V.length) (h:∀ i,i < args.length->Back c (args.getD i default) (row.V.getD i default)) (h':∀ i,i < args.length->Back c (args.getD i default) (row'.V.getD i default)):row=row':=by
 have:=(a7y hl h).symm.trans (a7y hl' h');exact (Prod.mk.inj this).1
def Alk.stage {vs:List (List UInt8)} {l:List d3} {args:List c9} {rows:List c7} (h:Alk vs l) (ha:args.all o5=true) (hr:rows.Nodup) (hv:∀ x∈rows,x.V.all i4=true):Alk (args.foldl dom1 vs) (m7 args rows l):=by
 have mem:∀ {c:d3},c∈m7 args rows l->∃ e∈l,∃ row∈rows,b0S args e row=some c:=by
  intro c hc;obtain ⟨e,he,hc⟩:=q2Q.1 hc;obtain ⟨row,hrow,hf⟩:=q4F.1 hc;exact ⟨e,he,row,hrow,hf⟩
 refine ⟨?_,fun c hc=>?_,fun c hc=>?_⟩
 ·unfold List.Nodup;rw [m7,List.pairwise_flatMap];refine ⟨fun e he=>?_, ?_⟩
  ·rw [a1T,List.pairwise_filterMap];refine List.Pairwise.imp ?_ hr;intro x y hxy c hc d hd hcd;subst hcd;have f1:=a0Y hc;have f2:=a0Y hd;exact hxy (c2W f1.len f2.len f1.back f2.back)
  ·refine List.Pairwise.imp_of_mem ?_ h.nd;intro e e' he he' hne c hc d hd hcd;subst hcd;obtain ⟨_,_,hf⟩:=q4F.1 hc;obtain ⟨_,_,hf'⟩:=q4F.1 hd;have f1:=a0Y hf;have f2:=a0Y hf';have:=b9N (h.ok e he) (h.ok e' he') ((h.dom e he).trans (h.dom e' he').symm) f1.ext f2.ext;exact hne (by cases e;cases e';simp_all)
 ·obtain ⟨e,he,row,hrow,hf⟩:=mem hc;exact (a0Y hf).ok (h.ok e he) ha (hv row hrow)
 ·obtain ⟨e,he,row,hrow,hf⟩:=mem hc;rw [(a0Y hf).dom,h.dom e he]
end Go.Aw
