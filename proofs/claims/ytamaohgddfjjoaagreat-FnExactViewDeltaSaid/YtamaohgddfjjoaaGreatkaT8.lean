/- Letters, digits, words, values: what the functions compute. No condition. -/
import Derived.Test.YtamaohgddfjjoaaGreatkBx9ka
import Derived.Lib.Bytealg
import Derived.Test.YtamaohgddfjjoaaGreatkaShelf
import Derived.Test.YtamaohgddfjjoaaGreatkMx1ka
import Derived.Test.YtamaohgddfjjoaaGreatkBx7ka
namespace Go.Aw
set_option maxHeartbeats 4000000
open Go.Proofs
attribute [local irreducible] aft blk lpK retK AW A0d
set_option linter.all false
set_option maxRecDepth 100000
def a1d(n:Int):Bool:=decide (97<=n)&&decide (n<=122)
def a4O(n:Int):Bool:=decide (48<=n)&&decide (n<=57)
def a6P(n:Int):Bool:=decide (0<=n)&&decide (n<=281474976710655)
def b1q(x:UInt8):Bool:=a1d x.toNat||a4O x.toNat
def a0Y(s:List UInt8):Bool:=s.all b1q&&(decide (1<=s.length)&&decide (s.length<=12)&&a1d (s.getD 0 0).toNat)
def n0(v:d4):Bool:=bif v.S==[]then a6P v.N else v.N==0&&a0Y v.S
def b8C(c:Int):spZ 238 [(false,[.i .u8 c])] [] (.one (false,[.b (a1d c)])):=by
 refine sy' Tryz.func238 (q' 2 [aU false] (q' 3 [am 0,ao (.bin .geq (.t 3) (bu 97)),am 4,aH 5 true [bm 0,bo (.bin .leq (.t 6) (bu 122))],aP 5 7,aV 2] .ret)) [.t 2] [] ?_;intro hb hE;simp only[go_sem];repeat' first|apply cj'|intro hc|exact om'|fail
 rfl
noncomputable def a3K:CT:=j8 (fun(x:Int)=>b8C x)
@[go_sem] def d2V:=fun c=>nm' (fQ' a3K rfl c)
def c1W(c:Int):spZ 239 [(false,[.i .u8 c])] [] (.one (false,[.b (a4O c)])):=by
 refine sy' Tryz.func239 (q' 2 [aU false] (q' 3 [am 0,ao (.bin .geq (.t 3) (bu 48)),am 4,aH 5 true [bm 0,bo (.bin .leq (.t 6) (bu 57))],aP 5 7,aV 2] .ret)) [.t 2] [] ?_;intro hb hE;simp only[go_sem];repeat' first|apply cj'|intro hc|exact om'|fail
 rfl
noncomputable def a4v:CT:=j8 (fun(x:Int)=>c1W x)
@[go_sem] def d4R:=fun c=>nm' (fQ' a4v rfl c)
def b8D(n:Int):spZ 86 [(false,[.i .i64 n])] [] (.one (false,[.b (a6P n)])):=by
 refine sy' Tryz.func86 (q' 2 [aU false] (q' 3 [am 0,aC .geq 3 0,am 4,aH 5 true [bm 0,bC .leq 6 281474976710655],aP 5 7,aV 2] .ret)) [.t 2] [] ?_;intro hb hE;simp only[go_sem];repeat' first|apply cj'|intro hc|exact om'|fail
 rfl
noncomputable def a7M:CT:=j8 (fun(x:Int)=>b8D x)
@[go_sem] def d2W:=fun n=>nm' (fQ' a7M rfl n)
def c4w(s:List UInt8):spZ 184 [(false,[.s s])] [] (.one (false,[.b (a0Y s)])):=by
 refine sy' Tryz.func184 (q' 2 [aU false] (.seq (q' 4 [am 0,ao (.lens (.t 4)),aK 0] (fO 0 7 [ar 6 5] 7 1 (q' 8 [am 6,aV 3] (q' 9 [aM [0,3],ao (.ixs (.t 9) (.t 10)),ac 238 [11],aO 12,am 13,aH 14 true [bm 0,bm 3,bo (.ixs (.t 15) (.t 16)),bc 239 [17],bO 18],aP 14 19] (ci 20 (q' 2 [aU false] .ret)))) (g' 21 [aA 6]))) (q' 22 [am 0,ao (.lens (.t 22)),aC .geq 23 1,am 24,aH 25 true [bm 0,bo (.lens (.t 26)),bC .leq 27 12],aP 25 28,am 29,aH 30 true [bm 0,bo (.ixs (.t 31) (k' 0)),bc 238 [32]],aP 30 33,aV 2] .ret))) [.t 2] [(238,[],a3K),(239,[],a4v)] ?_;intro hb hE;simp only[go_sem];repeat' first|apply cj'|intro hc|exact om'|fail
 refine lq' false [0,5] [] [] (fun i:{i:Nat // i<=s.length/\(s.take i).all b1q=true}=>[(6,slV (.i .i64 i.1))]) nl' nl' (fun i=>s.length-i.1) (⟨0,z0D⟩) ?_;intro S0 hS0 i;obtain⟨i,hi,ha⟩:=i;simp only[go_sem,hS0];repeat' first|apply cj'|intro hc|exact om'|fail
 ·have h:b1q (s.getD i 0)=false:=by simp only[b1q,hc,Bool.or_self]
  rw[a0Y,all_false z0C h];rfl
 ·exact nx0 ⟨i+1,z0C,by rw[A7b (d:=0) z0C,ha];simpa[b1q,-List.getD_eq_getElem?_getD,<-Bool.not_or]using hc⟩
 ·rw[a0Y,all_of_take z0C ha]
  norm_cast
noncomputable def a1W:CT:=j8 (fun(x:(List UInt8))=>c4w x)
@[go_sem] def d7a:=fun s=>nm' (fQ' a1W rfl s)
def c1M(v:d4):spZ 203 [(true,[.i .i64 v.N,.s v.S])] [] (.one (false,[.b (n0 v)])):=by
 refine sy' Tryz.func203 (q' 1 [aX 2 0,aU false] (.seq (q' 3 [aG 1 1,aY .eql 4 []] (ci 5 (q' 6 [aG 0 1,ac 86 [7],aV 2] .ret))) (q' 9 [aG 0 1,aC .eql 10 0,am 11,aH 12 true [bf 1 1,bL,bc 184 [14]],aP 12 15,aV 2] .ret))) [.t 2] [(86,[],a7M),(184,[],a1W)] ?_;intro hb hE;simp only[go_sem];repeat' first|apply cj'|intro hc|exact om'|fail
 ·simp only[n0,hc,W8]
 ·simp only[n0,hc,V2]
noncomputable def a2z:CT:=j8 (fun(x:d4)=>c1M x)
@[go_sem] def d4H:=fun x0 x1=>nm' (fQ' a2z rfl ⟨x0,x1⟩)
def c5i(n:Int):spZ 159 [(false,[.i .i64 n])] [] (.one (false,[.b (a6P n)])):=by
 refine sy' Tryz.func159 (q' 2 [aU false] (q' 3 [am 0,aC .geq 3 0,am 4,aH 5 true [bm 0,bC .leq 6 281474976710655],aP 5 7,aV 2] .ret)) [.t 2] [] ?_;intro hb hE;simp only[go_sem];repeat' first|apply cj'|intro hc|exact om'|fail
 rfl
noncomputable def b1c:CT:=j8 (fun(x:Int)=>c5i x)
@[go_sem] def d7M:=fun n=>nm' (fQ' b1c rfl n)
def c5h(s:List UInt8):spZ 179 [(false,[.s s])] [] (.one (false,[.b (a0Y s)])):=by
 refine sy' Tryz.func179 (q' 2 [aU false] (.seq (q' 6 [am 0,ao (.lens (.t 6)),aC .lss 7 1,am 8,aH 9 false [bm 0,bo (.lens (.t 10)),bC .gtr 11 12],aQ 9 12] (ci 13 (q' 2 [aU false] .ret))) (.seq (q' 3 [aK 0] (fo 0 14 [aM [3,0],ao (.lens (.t 15)),ar 14 16] 17 1 (q' 20 [aM [0,3],ao (.ixs (.t 20) (.t 21)),ao (.bin .geq (.t 22) (bu 97)),am 23,aH 24 true [bm 0,bm 3,bo (.ixs (.t 25) (.t 26)),bo (.bin .leq (.t 27) (bu 122))],aP 24 28,aV 4] (q' 30 [aM [0,3],ao (.ixs (.t 30) (.t 31)),ao (.bin .geq (.t 32) (bu 48)),am 33,aH 34 true [bm 0,bm 3,bo (.ixs (.t 35) (.t 36)),bo (.bin .leq (.t 37) (bu 57))],aP 34 38,aV 5] (q' 40 [am 4,aO 40,am 41,aH 42 true [bm 5,bO 43,bm 44],aH 45 false [bm 3,bC .eql 46 0],aH 42 true [bQ 45 47],aP 42 48] (ci 49 (q' 2 [aU false] .ret))))) (g' 18 [aB 3]))) (q' 2 [aU true] .ret)))) [.t 2] [] ?_;intro hb hE;simp only[go_sem];repeat' first|apply cj'|intro hc|exact om'|fail
 ·cases h:a0Y s with
  | false=>rfl
  | true=>
    simp only[a0Y,K7]at h;omega
 refine lq' false [0] [] [] (fun i:{i:Nat // i<=s.length/\(s.take i).all b1q=true/\(0<i->a1d (s.getD 0 0).toNat=true)}=>[(3,slV (.i .i64 i.1))]) nl' nl' (fun i=>s.length-i.1) (⟨0,z0D⟩) ?_;intro S0 hS0 i;obtain⟨i,hi,ha,hl⟩:=i;simp only[go_sem,hS0];repeat' first|apply cj'|intro hc|exact om'|fail
 ·cases h:a0Y s with
  | false=>rfl
  | true=>
    simp only[a0Y,K7]at h;have h2:=all_getD (d:=0) h.1 (show i<s.length by omega);have hc1:a1d (s.getD i 0).toNat=false/\(a4O (s.getD i 0).toNat=false\/((i:Int)==0)=true):=hc;simp only[b1q,hc1.1,q3Q]at h2;rcases hc1.2 with h3|h3
    ·rw[h3]at h2;cases h2
    ·have:i=0:=by simpa using h3
     subst this;exact absurd h.2.2 (by rw[hc1.1];exact Bool.false_ne_true)
 ·have hc1:(!a1d (s.getD i 0).toNat&&(!a4O (s.getD i 0).toNat||((i:Int)==0)))=false:=hc;have h1:b1q (s.getD i 0)=true:=by
   revert hc1
   simp only[b1q];generalize a1d (s.getD i 0).toNat=L;generalize a4O (s.getD i 0).toNat=D;cases L<;>cases D<;>simp
  have h2:a1d (s.getD 0 0).toNat=true:=by
   rcases Nat.eq_zero_or_pos i with h0|h0
   ·subst h0
    revert hc1
    cases a1d (s.getD 0 0).toNat<;>simp
   ·exact hl h0
  exact nx0 ⟨i+1,z0C,by rw[A7b (d:=0) z0C,ha,h1];rfl,fun _=>h2⟩
 ·have h:s.all b1q=true:=all_of_take z0C ha;have h2:=hl z0C;simp only[a0Y,h,h2,q1L,q0Z];simp;omega
noncomputable def a1X:CT:=j8 (fun(x:(List UInt8))=>c5h x)
@[go_sem] def d7L:=fun s=>nm' (fQ' a1X rfl s)
def c2E(v:d4):spZ 195 [(true,[.i .i64 v.N,.s v.S])] [] (.one (false,[.b (n0 v)])):=by
 refine sy' Tryz.func195 (q' 1 [aX 2 0,aU false] (.seq (q' 3 [aG 1 1,aY .eql 4 []] (ci 5 (q' 6 [aG 0 1,ac 159 [7],aV 2] .ret))) (q' 9 [aG 0 1,aC .eql 10 0,am 11,aH 12 true [bf 1 1,bL,bc 179 [14]],aP 12 15,aV 2] .ret))) [.t 2] [(159,[],b1c),(179,[],a1X)] ?_;intro hb hE;simp only[go_sem];repeat' first|apply cj'|intro hc|exact om'|fail
 ·simp only[n0,hc,W8]
 ·simp only[n0,hc,V2]
noncomputable def a1v:CT:=j8 (fun(x:d4)=>c2E x)
@[go_sem] def d5A:=fun x0 x1=>nm' (fQ' a1v rfl ⟨x0,x1⟩)
def a6Q(n:Int):Bool:=decide (65<=n)&&decide (n<=90)
def d1k(x:UInt8):Bool:=a1d x.toNat||a6Q x.toNat||a4O x.toNat
def a8s(s:List UInt8):Bool:=s.all d1k&&(decide (1<=s.length)&&decide (s.length<=12)&&a6Q (s.getD 0 0).toNat)
def clsI(n:Int):Int:=if 97<=n/\n<=122 then 1 else if 65<=n/\n<=90 then 2 else if 48<=n/\n<=57 then 3 else 0
def cls2(n:Int):(clsI n != 2)=!a6Q n:=by
 unfold clsI a6Q;rw[<-q6A];by_cases h:65<=n/\n<=90
 ·rw[if_neg z0C,if_pos h];simp[h]
 ·rw[if_neg h];(repeat' split)<;>simp[h]
def cls0(x:UInt8):(clsI x.toNat==0)=!d1k x:=by
 unfold clsI d1k a6Q a1d a4O;rw[<-q6A,<-q6A,<-q6A]
 (repeat' split)<;>simp[*]
def c1Y(c:Int):spZ 432 [(false,[.i .u8 c])] [] (.one (false,[.b (a6Q c)])):=by
 refine sy' Tryz.func432 (q' 2 [aU false] (q' 3 [am 0,ao (.bin .geq (.t 3) (bu 65)),am 4,aH 5 true [bm 0,bo (.bin .leq (.t 6) (bu 90))],aP 5 7,aV 2] .ret)) [.t 2] [] ?_;intro hb hE;simp only[go_sem];repeat' first|apply cj'|intro hc|exact om'|fail
 rfl
noncomputable def a9a:CT:=j8 (fun(x:Int)=>c1Y x)
@[go_sem] def d4T:=fun c=>nm' (fQ' a9a rfl c)
def c7K(s:List UInt8):spZ 419 [(false,[.s s])] [] (.one (false,[.b (a8s s)])):=by
 refine sy' Tryz.func419 (q' 2 [aU false] (.seq (q' 4 [am 0,ao (.lens (.t 4)),aK 0] (fO 0 7 [ar 6 5] 7 1 (q' 8 [am 6,aV 3] (q' 9 [aM [0,3],ao (.ixs (.t 9) (.t 10)),ac 238 [11],aO 12,am 13,aH 14 true [bm 0,bm 3,bo (.ixs (.t 15) (.t 16)),bc 432 [17],bO 18],aP 14 19,am 20,aH 21 true [bm 0,bm 3,bo (.ixs (.t 22) (.t 23)),bc 239 [24],bO 25],aP 21 26] (ci 27 (q' 2 [aU false] .ret)))) (g' 28 [aA 6]))) (q' 29 [am 0,ao (.lens (.t 29)),aC .geq 30 1,am 31,aH 32 true [bm 0,bo (.lens (.t 33)),bC .leq 34 12],aP 32 35,am 36,aH 37 true [bm 0,bo (.ixs (.t 38) (k' 0)),bc 432 [39]],aP 37 40,aV 2] .ret))) [.t 2] [(238,[],a3K),(432,[],a9a),(239,[],a4v)] ?_;intro hb hE;simp only[go_sem];repeat' first|apply cj'|intro hc|exact om'|fail
 refine lq' false [0,5] [] [] (fun i:{i:Nat // i<=s.length/\(s.take i).all d1k=true}=>[(6,slV (.i .i64 i.1))]) nl' nl' (fun i=>s.length-i.1) (⟨0,z0D⟩) ?_;intro S0 hS0 i;obtain⟨i,hi,ha⟩:=i;simp only[go_sem,hS0];repeat' first|apply cj'|intro hc|exact om'|fail
 ·have h:d1k (s.getD i 0)=false:=by simp only[d1k,hc,Bool.or_self]
  rw[a8s,all_false z0C h];rfl
 ·exact nx0 ⟨i+1,z0C,by rw[A7b (d:=0) z0C,ha];simpa[d1k,-List.getD_eq_getElem?_getD,<-Bool.not_or]using hc⟩
 ·rw[a8s,all_of_take z0C ha]
  norm_cast
noncomputable def b3c:CT:=j8 (fun(x:(List UInt8))=>c7K x)
@[go_sem] def d9c:=fun s=>nm' (fQ' b3c rfl s)
def b8Z(c:Int):spZ 431 [(false,[.i .u8 c])] [] (.one (false,[.i .i64 (clsI c)])):=by
 refine sy' Tryz.func431 (q' 2 [aK 0] (.seq (q' 3 [am 0,ao (.bin .geq (.t 3) (bu 97)),am 4,aH 5 true [bm 0,bo (.bin .leq (.t 6) (bu 122))],aP 5 7] (ci 8 (q' 2 [aK 1] .ret))) (.seq (q' 9 [am 0,ao (.bin .geq (.t 9) (bu 65)),am 10,aH 11 true [bm 0,bo (.bin .leq (.t 12) (bu 90))],aP 11 13] (ci 14 (q' 2 [aK 2] .ret))) (.seq (q' 15 [am 0,ao (.bin .geq (.t 15) (bu 48)),am 16,aH 17 true [bm 0,bo (.bin .leq (.t 18) (bu 57))],aP 17 19] (ci 20 (q' 2 [aK 3] .ret))) (q' 2 [aK 0] .ret))))) [.t 2] [] ?_;intro hb hE;simp only[go_sem];repeat' first|apply cj'|intro hc|exact om'|fail
 all_goals((try simp only[q3U,q1J]at*);simp only[clsI];(repeat' split)<;>omega)
noncomputable def a8c:CT:=j8 (fun(x:Int)=>b8Z x)
@[go_sem] def d3s:=fun c=>nm' (fQ' a8c rfl c)
def c8f(s:List UInt8):spZ 416 [(false,[.s s])] [] (.one (false,[.b (a8s s)])):=by
 refine sy' Tryz.func416 (q' 2 [aU false] (.seq (q' 4 [am 0,ao (.lens (.t 4)),aC .lss 5 1,am 6,aH 7 false [bm 0,bo (.lens (.t 8)),bC .gtr 9 12],aQ 7 10,am 11,aH 12 false [bm 0,bo (.ixs (.t 13) (k' 0)),bc 431 [14],bC .neq 15 2],aQ 12 16] (ci 17 (q' 2 [aU false] .ret))) (.seq (q' 3 [aK 0] (fo 0 18 [aM [3,0],ao (.lens (.t 19)),ar 18 20] 21 1 (q' 24 [aM [0,3],ao (.ixs (.t 24) (.t 25)),ac 431 [26],aC .eql 27 0] (ci 28 (q' 2 [aU false] .ret))) (g' 22 [aB 3]))) (q' 2 [aU true] .ret)))) [.t 2] [(431,[],a8c)] ?_;intro hb hE;simp only[go_sem,cls2,cls0];repeat' first|apply cj'|intro hc|exact om'|fail
 ·symm;unfold a8s;rcases hc with(h|h)|h
  ·rw[V3 (p:=1<=s.length) z0C];simp
  ·rw[V3 (p:=s.length<=12) z0C];simp
  ·rw[h];simp
 have hh:=hc;refine lq' false [0] [] [] (fun i:{i:Nat // i<=s.length/\(s.take i).all d1k=true}=>[(3,slV (.i .i64 i.1))]) nl' nl' (fun i=>s.length-i.1) (⟨0,z0D⟩) ?_;intro S0 hS0 i;obtain⟨i,hi,ha⟩:=i;simp only[go_sem,cls2,cls0,hS0];repeat' first|apply cj'|intro hc|exact om'|fail
 ·rw[a8s,all_false z0C hc];rfl
 ·(refine lpK_n2 (⟨i+1,z0C,by rw[A7b (d:=0) z0C,ha,hc];rfl⟩) _ rfl ?_;simp only[go_sem,cls2,cls0,hS0]<;>repeat' first|apply W6|exact on'|fail)
 ·symm;rw[a8s,all_of_take z0C ha,hh.2,V0 z0C,V0 z0C];rfl
noncomputable def b3t:CT:=j8 (fun(x:(List UInt8))=>c8f x)
@[go_sem] def d9D:=fun s=>nm' (fQ' b3t rfl s)
def getB(e:d6)(v:List UInt8):Nat:=a2K e.Binds.length fun i=>(e.Binds.getD i default).Var==v
def a0a(e:d6)(v:List UInt8):d4×Bool:=if getB e v<e.Binds.length then((e.Binds.getD (getB e v) default).Val,true)else(default,false)
variable{out:List (List UInt8)}{v:List UInt8}{α:Type}{l t:List α}{s:α}{lt:α->α->Bool}
def a9J{e:d6}(h:∀j,j<e.Binds.length->((e.Binds.getD j default).Var==v)=false):a0a e v=(default,false):=by
 have:=a2p h;rw[a0a,getB,this,if_neg z0C]
def a9K{e:d6}{i:Nat}(hi:i<e.Binds.length)(h:∀j,j<i->((e.Binds.getD j default).Var==v)=false)(hp:((e.Binds.getD i default).Var==v)=true):a0a e v=((e.Binds.getD i default).Val,true):=by
 have:=a2q h hp hi;rw[a0a,getB,this,if_pos hi]
def c7T(e:d6)(v:List UInt8):spZ 314 [(true,[w4 e.Binds]),(false,[.s v])] [] (.tup [(true,[.i .i64 (((a0a e v).1).N),.s (((a0a e v).1).S)]),(false,[.b ((a0a e v).2)])]):=by
 refine sy' Tryz.func314 (q' 2 [aX 1 0,ax (w' 4 [.i .i64,.s]),ab 5 false] (.seq (q' 8 [aG 0 2,aN,aK 0] (fO 0 12 [ar 11 10] 12 1 (q' 13 [ai 3 9 11,aE 3,ax (w' 7 [.s,.i .i64,.s]),aS 3 7 14] (q' 15 [aG 0 7,am 1,aD .eql 16 17] (ci 18 (q' 19 [af 1 7,aE 2,aS 2 4 20,ab 5 true] .ret)))) (g' 21 [aA 11]))) (q' 22 [ao (.bld [.i .i64,.s] []),aS 2 4 22,ab 5 false] .ret))) [.c 4 true 2,.t 5] [] ?_;intro hb hE;simp only[go_sem];repeat' first|apply cj'|intro hc|exact om'|fail
 refine lq' false [1,4,9,10] [] [] (fun i:{i:Nat // i<=e.Binds.length/\∀j,j<i->((e.Binds.getD j default).Var==v)=false}=>[(11,slV (.i .i64 i.1))]) (fun i=>[(8,[.c (.i .i64 0),.c (.s [])])]) nl' (fun i=>e.Binds.length-i.1) (⟨0,z0D⟩) ?_;intro S0 hS0 i;obtain⟨i,hi,ha⟩:=i;simp only[go_sem,hS0];repeat' first|apply cj'|intro hc|exact om'|fail
 ·rw[a9K z0C ha hc];exact⟨⟨rfl,rfl⟩,rfl⟩
 ·exact nx0 ⟨i+1,z0C,fun j hj=>(q3P.1 hj).elim (ha j) (fun q=>q▸hc)⟩
 ·rw[a9J fun j hj=>ha j z0C];exact⟨⟨rfl,rfl⟩,rfl⟩
noncomputable def b3m:CT:=j8 (fun(x:d6×(List UInt8))=>c7T x.1 x.2)
@[go_sem] def d9r:=fun x0 v=>nm' (fQ' b3m rfl (⟨x0⟩,v))
def c5q(e:d6)(v:List UInt8):spZ 293 [(true,[w4 e.Binds]),(false,[.s v])] [] (.tup [(true,[.i .i64 (((a0a e v).1).N),.s (((a0a e v).1).S)]),(false,[.b ((a0a e v).2)])]):=by
 refine sy' Tryz.func293 (q' 2 [aX 1 0,ax (w' 4 [.i .i64,.s]),ab 5 false] (.seq (q' 8 [aG 0 2,aN,aK 0] (fO 0 12 [ar 11 10] 12 1 (q' 13 [ai 3 9 11,aE 3,ax (w' 7 [.s,.i .i64,.s]),aS 3 7 14] (q' 15 [aG 0 7,am 1,aD .eql 16 17] (ci 18 (q' 19 [af 1 7,aE 2,aS 2 4 20,ab 5 true] .ret)))) (g' 21 [aA 11]))) (q' 22 [ao (.bld [.i .i64,.s] []),aS 2 4 22,ab 5 false] .ret))) [.c 4 true 2,.t 5] [] ?_;intro hb hE;simp only[go_sem];repeat' first|apply cj'|intro hc|exact om'|fail
 refine lq' false [1,4,9,10] [] [] (fun i:{i:Nat // i<=e.Binds.length/\∀j,j<i->((e.Binds.getD j default).Var==v)=false}=>[(11,slV (.i .i64 i.1))]) (fun i=>[(8,[.c (.i .i64 0),.c (.s [])])]) nl' (fun i=>e.Binds.length-i.1) (⟨0,z0D⟩) ?_;intro S0 hS0 i;obtain⟨i,hi,ha⟩:=i;simp only[go_sem,hS0];repeat' first|apply cj'|intro hc|exact om'|fail
 ·rw[a9K z0C ha hc];exact⟨⟨rfl,rfl⟩,rfl⟩
 ·exact nx0 ⟨i+1,z0C,fun j hj=>(q3P.1 hj).elim (ha j) (fun q=>q▸hc)⟩
 ·rw[a9J fun j hj=>ha j z0C];exact⟨⟨rfl,rfl⟩,rfl⟩
noncomputable def a3s:CT:=j8 (fun(x:d6×(List UInt8))=>c5q x.1 x.2)
@[go_sem] def d7U:=fun x0 v=>nm' (fQ' a3s rfl (⟨x0⟩,v))
def kept(s:List UInt8):Bool:=s==[115,116,97,116,101]||s==[101,118,101,110,116]||s==[118,105,101,119]||s==[110,111,116]
def z9(t:d5):Bool:=bif !(t.Var==[])then a8s t.Var&&(t.Val.N==0&&t.Val.S==[])else n0 t.Val&&!kept t.Val.S
def d0G(s:List UInt8):spZ 335 [(false,[.s s])] [] (.one (false,[.b (kept s)])):=by
 refine sy' Tryz.func335 (q' 2 [aU false] (q' 3 [am 0,aY .eql 3 [115,116,97,116,101],am 4,aH 5 false [bm 0,bY .eql 6 [101,118,101,110,116]],aQ 5 7,am 8,aH 9 false [bm 0,bY .eql 10 [118,105,101,119]],aQ 9 11,am 12,aH 13 false [bm 0,bY .eql 14 [110,111,116]],aQ 13 15,aV 2] .ret)) [.t 2] [] ?_;intro hb hE;simp only[go_sem];repeat' first|apply cj'|intro hc|exact om'|fail
 all_goals(first|rfl)
noncomputable def a9A:CT:=j8 (fun(x:(List UInt8))=>d0G x)
@[go_sem] def e0D:=fun s=>nm' (fQ' a9A rfl s)
def d0A(s:List UInt8):spZ 354 [(false,[.s s])] [] (.one (false,[.b (kept s)])):=by
 refine sy' Tryz.func354 (q' 2 [aU false] (q' 3 [am 0,aY .eql 3 [115,116,97,116,101],am 4,aH 5 false [bm 0,bY .eql 6 [101,118,101,110,116]],aQ 5 7,am 8,aH 9 false [bm 0,bY .eql 10 [118,105,101,119]],aQ 9 11,am 12,aH 13 false [bm 0,bY .eql 14 [110,111,116]],aQ 13 15,aV 2] .ret)) [.t 2] [] ?_;intro hb hE;simp only[go_sem];repeat' first|apply cj'|intro hc|exact om'|fail
 all_goals(first|rfl)
noncomputable def a8R:CT:=j8 (fun(x:(List UInt8))=>d0A x)
@[go_sem] def e0x:=fun s=>nm' (fQ' a8R rfl s)
def b6q(t:d5):spZ 395 [(true,[.s t.Var,.i .i64 t.Val.N,.s t.Val.S])] [] (.one (false,[.b (z9 t)])):=by
 refine sy' Tryz.func395 (q' 1 [aX 3 0,aU false] (.seq (q' 3 [aG 0 1,aY .neq 4 []] (ci 5 (q' 6 [aG 0 1,ac 416 [7],am 8,aH 9 true [bf 1 1,bE 2,bo (.bld [.i .i64,.s] []),bo (.eqs false [.i .i64,.s] (.t 11) (.t 12))],aP 9 13,aV 2] .ret))) (q' 15 [af 1 1,aE 2,ac 195 [16],am 17,aH 18 true [bf 1 1,bF 1,bL,bc 335 [21],bO 22],aP 18 23,aV 2] .ret))) [.t 2] [(416,[],b3t),(195,[],a1v),(335,[],a9A)] ?_;intro hb hE;simp only[go_sem];repeat' first|apply cj'|intro hc|exact om'|fail
 all_goals(first|(rw[z9,hc];rfl)|(have hc2:(!(t.Var==[]))=true:=hc;rw[z9,hc2];rfl)|(have hc2:(!(t.Var==[]))=false:=hc;rw[z9,hc2];rfl))
noncomputable def a3c:CT:=j8 (fun(x:d5)=>b6q x)
@[go_sem] def d1X:=fun x0 x1 x2=>nm' (fQ' a3c rfl ⟨x0,⟨x1,x2⟩⟩)
def c4H(t:d5):spZ 403 [(true,[.s t.Var,.i .i64 t.Val.N,.s t.Val.S])] [] (.one (false,[.b (z9 t)])):=by
 refine sy' Tryz.func403 (q' 1 [aX 3 0,aU false] (.seq (q' 3 [aG 0 1,aY .neq 4 []] (ci 5 (q' 6 [aG 0 1,ac 419 [7],am 8,aH 9 true [bf 1 1,bE 2,bo (.bld [.i .i64,.s] []),bo (.eqs false [.i .i64,.s] (.t 11) (.t 12))],aP 9 13,aV 2] .ret))) (q' 15 [af 1 1,aE 2,ac 203 [16],am 17,aH 18 true [bf 1 1,bF 1,bL,bc 354 [21],bO 22],aP 18 23,aV 2] .ret))) [.t 2] [(419,[],b3c),(203,[],a2z),(354,[],a8R)] ?_;intro hb hE;simp only[go_sem];repeat' first|apply cj'|intro hc|exact om'|fail
 all_goals(first|(rw[z9,hc];rfl)|(have hc2:(!(t.Var==[]))=true:=hc;rw[z9,hc2];rfl)|(have hc2:(!(t.Var==[]))=false:=hc;rw[z9,hc2];rfl))
noncomputable def a5L:CT:=j8 (fun(x:d5)=>c4H x)
@[go_sem] def d7l:=fun x0 x1 x2=>nm' (fQ' a5L rfl ⟨x0,⟨x1,x2⟩⟩)
def k9(e:d6)(t:d5):d4×Bool:=bif t.Var==[]then(t.Val,true)else a0a e t.Var
def c2e(e:d6)(t:d5):spZ 266 [(true,[w4 e.Binds]),(true,[.s t.Var,.i .i64 t.Val.N,.s t.Val.S])] [] (.tup [(true,[.i .i64 (((k9 e t).1).N),.s (((k9 e t).1).S)]),(false,[.b ((k9 e t).2)])]):=by
 refine sy' Tryz.func266 (q' 2 [aX 1 0,aX 3 1,aw [.i .i64,.s],aU false] (.seq (q' 6 [aG 0 3,aY .eql 7 []] (ci 8 (q' 9 [af 1 3,aE 2,aS 2 4 10,ab 5 true] .ret))) (q' 11 [ae 1 2,aG 0 3,ac 314 [11,13],aZ 14 0,aZ 14 1,aS 2 4 15,aV 5] .ret))) [.c 4 true 2,.t 5] [(314,[],b3m)] ?_;intro hb hE;simp only[go_sem];repeat' first|apply cj'|intro hc|exact om'|fail
 all_goals(first|(rw[k9,hc];exact⟨⟨rfl,rfl⟩,rfl⟩))
noncomputable def a1u:CT:=j8 (fun(x:d6×d5)=>c2e x.1 x.2)
@[go_sem] def d5a:=fun x0 x1 x2 x3=>nm' (fQ' a1u rfl (⟨x0⟩,⟨x1,⟨x2,x3⟩⟩))
def y8(e:d6)(args:List d5):d3×Bool:=bif args.all (fun t=>(k9 e t).2)then(⟨args.map fun t=>(k9 e t).1⟩,true)else(default,false)
def a6a{β:Type}(f:α->β){i:Nat}{d:α}(h:i<l.length):(l.take i).map f++[f (l.getD i d)]=(l.take (i+1)).map f:=by
 rw[q2Y,q1F,W5,V6 h];rfl
def d0C(e:d6)(args:List d5)(hpre:args.length<=6):spZ 209 [(true,[w4 e.Binds]),(false,[l8 args])] [] (.tup [(true,[a5t (((y8 e args).1).V)]),(false,[.b ((y8 e args).2)])]):=by
 refine sx' true false none Tryz.func209 (q' 2 [aX 1 0,ax (w' 4 [.sl l9]),ab 5 false] (q' 6 [ax (o' 11 (.bld [.sl l9] [])),aw [.sl l9],aS 1 6 11] (.seq (q' 12 [am 1,aN,aK 0] (fO 0 15 [ar 14 13] 15 1 (q' 16 [ai 3 12 14,aE 3,ax (w' 8 [.s,.i .i64,.s]),aS 3 8 17] (q' 19 [ae 1 2,ae 3 8,ac 266 [19,20],aV 18,aZ 18 0,aZ 18 1,ax (w' 9 [.i .i64,.s]),aS 2 9 22,aV 10] (.seq (q' 24 [am 10,aO 24] (ci 25 (q' 26 [ao (.bld [.sl l9] []),aS 1 4 26,ab 5 false] .ret))) (g' 27 [aG 0 6,ae 2 9,ao (.bsl 2 1 [.i .i64,.s] [(0,.t 29)]),ao (.app 2 24 [.i .i64,.s] (.t 28) (.t 30)),af 0 6,aS 1 32 31])))) (g' 33 [aA 14]))) (q' 34 [ae 1 6,aS 1 4 34,ab 5 true] .ret)))) [.c 4 true 1,.t 5] [(266,[],a1u)] ?_;intro hb hE;simp only[go_sem,V1];repeat' first|apply cj'|intro hc|exact om'|fail
 refine lk' true [(true,12,0,3968)] [2,4,6,12,13] [4] [] (fun i:{i:Nat // i<=args.length/\(args.take i).all (fun t=>(k9 e t).2)=true}=>[(14,slV (.i .i64 i.1))]) (fun i=>[(8,[.nl l9]),(12,[.ow 3968])]) (fun i=>[(3968,l9,((args.take i.1).map fun t=>(k9 e t).1).map d4.cells)]) (fun i=>args.length-i.1) (⟨0,z0D⟩) ?_;intro S0 hS0 i;obtain⟨i,hi,ha⟩:=i;simp only[go_sem,V1,hS0];repeat' first|apply cj'|intro hc|exact om'|fail
 ·rw[y8,all_false (p:=fun t=>(k9 e t).2) (d:=default) (i:=i) z0C hc];exact⟨rfl,rfl⟩
 ·(refine lpK_n2 (⟨i+1,z0C,by rw[A7b (d:=default) z0C,ha,hc];rfl⟩) _ z1Y ?_;simp only[go_sem,V1,hS0]<;>repeat' first|apply W6|exact on'|fail)
  all_goals(rw[<-a6a (fun t=>(k9 e t).1) (d:=default) (show i<args.length by omega)])
 ·rw[y8,all_of_take z0C ha,q0Y z0C];exact⟨rfl,rfl⟩
noncomputable def a8Y:CT:=k8 (fun(x:d6×(List d5)) h=>d0C x.1 x.2 h)
@[go_sem] def e0z:=fun x0 x1=>nm' (fP' a8Y rfl (⟨x0⟩,x1))
def a9P(e:d6)(args:List d5)(hpre:args.length<=6):spZ 248 [(true,[w4 e.Binds]),(false,[l8 args])] [] (.tup [(true,[a5t (((y8 e args).1).V)]),(false,[.b ((y8 e args).2)])]):=by
 refine sx' true false none Tryz.func248 (q' 2 [aX 1 0,ax (w' 4 [.sl l9]),ab 5 false] (q' 6 [ax (o' 12 (.bld [.sl l9] [])),aw [.sl l9],aS 1 6 12] (.seq (q' 13 [am 1,aN,aK 0] (fO 0 16 [ar 15 14] 16 1 (q' 17 [ai 3 13 15,aE 3,ax (w' 8 [.s,.i .i64,.s]),aS 3 8 18] (q' 19 [af 1 8,aE 2,ax (w' 9 [.i .i64,.s]),aS 2 9 20] (.seq (q' 21 [aG 0 8,aY .neq 22 []] (ci 23 (q' 25 [ae 1 2,aG 0 8,ac 293 [25,27],aV 24,aZ 24 0,aZ 24 1,ax (w' 10 [.i .i64,.s]),aS 2 10 29,aV 11] (.seq (q' 31 [am 11,aO 31] (ci 32 (q' 33 [ao (.bld [.sl l9] []),aS 1 4 33,ab 5 false] .ret))) (g' 34 [ae 2 10,aS 2 9 34]))))) (g' 35 [aG 0 6,ae 2 9,ao (.bsl 2 1 [.i .i64,.s] [(0,.t 37)]),ao (.app 2 24 [.i .i64,.s] (.t 36) (.t 38)),af 0 6,aS 1 40 39])))) (g' 41 [aA 15]))) (q' 42 [ae 1 6,aS 1 4 42,ab 5 true] .ret)))) [.c 4 true 1,.t 5] [(293,[],a3s)] ?_;intro hb hE;simp only[go_sem,V1];repeat' first|apply cj'|intro hc|exact om'|fail
 refine lk' true [(true,12,0,4992)] [2,4,6,13,14] [4] [] (fun i:{i:Nat // i<=args.length/\(args.take i).all (fun t=>(k9 e t).2)=true}=>[(15,slV (.i .i64 i.1))]) (fun i=>[(8,[.nl l9]),(12,[.ow 4992])]) (fun i=>[(4992,l9,((args.take i.1).map fun t=>(k9 e t).1).map d4.cells)]) (fun i=>args.length-i.1) (⟨0,z0D⟩) ?_;intro S0 hS0 i;obtain⟨i,hi,ha⟩:=i;simp only[go_sem,V1,hS0];repeat' first|apply cj'|intro hc|exact om'|fail
 ·rename_i h1;have hv:k9 e (args.getD i default)=a0a e (args.getD i default).Var:=by
   have:((args.getD i default).Var==[])=false:=by simpa using h1
   rw[k9,this];rfl
  rw[y8,all_false (p:=fun t=>(k9 e t).2) (d:=default) (i:=i) z0C (by simp only[hv];exact hc)];exact⟨rfl,rfl⟩
 ·rename_i h1;have hv:k9 e (args.getD i default)=a0a e (args.getD i default).Var:=by
   have:((args.getD i default).Var==[])=false:=by simpa using h1
   rw[k9,this];rfl
  (refine lpK_n2 (⟨i+1,z0C,by rw[A7b (d:=default) z0C,ha,hv,hc];rfl⟩) _ z1Y ?_;simp only[go_sem,V1,hS0]<;>repeat' first|apply W6|exact on'|fail)
  all_goals(rw[<-a6a (fun t=>(k9 e t).1) (d:=default) (show i<args.length by omega),hv])
 ·have hv:k9 e (args.getD i default)=((args.getD i default).Val,true):=by
   have:((args.getD i default).Var==[])=true:=by simpa using hc
   rw[k9,this];rfl
  (refine lpK_n2 (⟨i+1,z0C,by rw[A7b (d:=default) z0C,ha,hv];rfl⟩) _ z1Y ?_;simp only[go_sem,V1,hS0]<;>repeat' first|apply W6|exact on'|fail)
  all_goals(rw[<-a6a (fun t=>(k9 e t).1) (d:=default) (show i<args.length by omega),hv])
 ·rw[y8,all_of_take z0C ha,q0Y z0C];exact⟨rfl,rfl⟩
noncomputable def a9E:CT:=k8 (fun(x:d6×(List d5)) h=>a9P x.1 x.2 h)
@[go_sem] def d5H:=fun x0 x1=>nm' (fP' a9E rfl (⟨x0⟩,x1))
def d0Q(s:List UInt8):Bool:=a0Y s&&!kept s
def a4p(a:f7):Bool:=d0Q a.Name&&decide ((a.Args.length:Int)<=6)&&a.Args.all z9
def d1i(t:d5):Bool:=t.Var==[]&&(t.Val.N==0&&t.Val.S==[])
def a2W(l:d7):Bool:=bif l.Kind==3 then decide (1<=l.Op)&&decide (l.Op<=4)&&l.Atom.Name==[]&&(l.Atom.Args.length:Int)==0&&z9 l.A&&z9 l.B else(l.Kind==1||l.Kind==2)&&a4p l.Atom&&l.Op==0&&d1i l.A&&d1i l.B
def k7(r:c8):Bool:=decide (1<=r.Kind)&&decide (r.Kind<=3)&&a4p r.Head&&decide ((r.Body.length:Int)<=8)&&r.Body.all a2W
def a2X(d:e7):Bool:=decide (1<=d.Kind)&&decide (d.Kind<=3)&&d0Q d.Name&&(decide (0<=d.Arity)&&decide (d.Arity<=6))
def y6(p:c6):Bool:=p.Decls.all a2X&&decide ((p.Decls.length:Int)<=16)&&decide ((p.Rules.length:Int)<=24)&&p.Rules.all k7
def c2I(s:List UInt8):spZ 281 [(false,[.s s])] [] (.one (false,[.b (d0Q s)])):=by
 refine sy' Tryz.func281 (q' 2 [aU false] (q' 3 [am 0,ac 179 [3],am 4,aH 5 true [bm 0,bc 335 [6],bO 7],aP 5 8,aV 2] .ret)) [.t 2] [(179,[],a1X),(335,[],a9A)] ?_;intro hb hE;simp only[go_sem];repeat' first|apply cj'|intro hc|exact om'|fail
 all_goals(first|rfl)
noncomputable def a4H:CT:=j8 (fun(x:(List UInt8))=>c2I x)
@[go_sem] def d5E:=fun s=>nm' (fQ' a4H rfl s)
def c4F(s:List UInt8):spZ 296 [(false,[.s s])] [] (.one (false,[.b (d0Q s)])):=by
 refine sy' Tryz.func296 (q' 2 [aU false] (q' 3 [am 0,ac 184 [3],am 4,aH 5 true [bm 0,bc 354 [6],bO 7],aP 5 8,aV 2] .ret)) [.t 2] [(184,[],a1W),(354,[],a8R)] ?_;intro hb hE;simp only[go_sem];repeat' first|apply cj'|intro hc|exact om'|fail
 all_goals(first|rfl)
noncomputable def a5J:CT:=j8 (fun(x:(List UInt8))=>c4F x)
@[go_sem] def d7j:=fun s=>nm' (fQ' a5J rfl s)
def b6o(a:f7):spZ 336 [(true,[.s a.Name,l8 a.Args])] [] (.one (false,[.b (a4p a)])):=by
 refine sy' Tryz.func336 (q' 1 [aX 2 0,aU false] (.seq (q' 5 [aG 0 1,ac 281 [6],aO 7,am 8,aH 9 false [bf 1 1,bL,bN,bC .gtr 12 6],aQ 9 13] (ci 14 (q' 2 [aU false] .ret))) (.seq (q' 15 [aG 1 1,aN,aK 0] (fO 0 19 [ar 18 17] 19 1 (q' 20 [ai 3 16 18,aE 3,ax (w' 4 [.s,.i .i64,.s]),aS 3 4 21] (q' 22 [ae 3 4,ac 395 [22],aO 23] (ci 24 (q' 2 [aU false] .ret)))) (g' 25 [aA 18]))) (q' 2 [aU true] .ret)))) [.t 2] [(281,[],a4H),(395,[],a3c)] ?_;intro hb hE;simp only[go_sem];repeat' first|apply cj'|intro hc|exact om'|fail
 ·rcases hc with h|h
  ·rw[a4p,h];rfl
  ·rw[a4p,V3 (p:=(a.Args.length:Int)<=6) z0C];simp
 have hh:=hc;refine lq' false [16,17] [] [] (fun i:{i:Nat // i<=a.Args.length/\(a.Args.take i).all z9=true}=>[(18,slV (.i .i64 i.1))]) nl' nl' (fun i=>a.Args.length-i.1) (⟨0,z0D⟩) ?_;intro S0 hS0 i;obtain⟨i,hi,ha⟩:=i;simp only[go_sem,hS0];repeat' first|apply cj'|intro hc|exact om'|fail
 ·rw[a4p,all_false z0C hc,q2J]
 ·exact nx0 ⟨i+1,z0C,a0p default z0C ha hc⟩
 ·rw[a4p,all_of_take z0C ha,hh.1,V0 z0C];rfl
noncomputable def a3b:CT:=j8 (fun(x:f7)=>b6o x)
@[go_sem] def d1V:=fun x0 x1=>nm' (fQ' a3b rfl ⟨x0,x1⟩)
def b9a(l:d7):spZ 337 [(true,[.i .i64 l.Kind,.s l.Atom.Name,l8 l.Atom.Args,.i .i64 l.Op,.s l.A.Var,.i .i64 l.A.Val.N,.s l.A.Val.S,.s l.B.Var,.i .i64 l.B.Val.N,.s l.B.Val.S])] [] (.one (false,[.b (a2W l)])):=by
 refine sy' Tryz.func337 (q' 1 [aX 10 0,aU false] (.seq (q' 4 [aG 0 1,aC .eql 5 3] (ci 6 (q' 7 [aG 3 1,aC .geq 8 1,am 9,aH 10 true [bf 3 1,bL,bC .leq 12 4],aP 10 13,am 14,aH 15 true [bf 1 1,bF 0,bL,bY .eql 18 []],aP 15 19,am 20,aH 21 true [bf 1 1,bF 1,bL,bN,bC .eql 25 0],aP 21 26,am 27,aH 28 true [bf 4 1,bE 3,bc 395 [30]],aP 28 31,am 32,aH 33 true [bf 7 1,bE 3,bc 395 [35]],aP 33 36,aV 2] .ret))) (q' 3 [ax (o' 38 (.bld [.s,.i .i64,.s] [])),aw [.s,.i .i64,.s],aS 3 3 38] (q' 39 [aG 0 1,aC .eql 40 1,am 41,aH 42 false [bf 0 1,bL,bC .eql 44 2],aQ 42 45,am 46,aH 47 true [bf 1 1,bE 2,bc 336 [49]],aP 47 50,am 51,aH 52 true [bf 3 1,bL,bC .eql 54 0],aP 52 55,am 56,aH 57 true [bf 4 1,bE 3,be 3 3,bo (.eqs false [.s,.i .i64,.s] (.t 59) (.t 60))],aP 57 61,am 62,aH 63 true [bf 7 1,bE 3,be 3 3,bo (.eqs false [.s, .i .i64,.s] (.t 65) (.t 66))],aP 63 67,aV 2] .ret)))) [.t 2] [(395,[],a3c),(336,[],a3b)] ?_;intro hb hE;simp only[go_sem];repeat' first|apply cj'|intro hc|exact om'|fail
 ·rw[a2W,hc];rfl
 ·rw[a2W,hc];rfl
noncomputable def a8d:CT:=j8 (fun(x:d7)=>b9a x)
@[go_sem] def d3t:=fun x0 x1 x2 x3 x4 x5 x6 x7 x8 x9=>nm' (fQ' a8d rfl ⟨x0,⟨x1,x2⟩,x3,⟨x4,⟨x5,x6⟩⟩,⟨x7,⟨x8,x9⟩⟩⟩)
def b6p(r:c8):spZ 282 [(true,[.i .i64 r.Kind,.s r.Head.Name,l8 r.Head.Args,a0g r.Body])] [] (.one (false,[.b (k7 r)])):=by
 refine sy' Tryz.func282 (q' 1 [aX 4 0,aU false] (.seq (q' 4 [aG 0 1,aC .lss 5 1,am 6,aH 7 false [bf 0 1,bL,bC .gtr 9 3],aQ 7 10,am 11,aH 12 false [bf 1 1,bE 2,bc 336 [14],bO 15],aQ 12 16,am 17,aH 18 false [bf 3 1,bL,bN,bC .gtr 21 8],aQ 18 22] (ci 23 (q' 2 [aU false] .ret))) (.seq (q' 24 [aG 3 1,aN,aK 0] (fO 0 28 [ar 27 26] 28 1 (q' 29 [am 27,aV 3] (q' 30 [aG 3 1,am 3,aI 10,aE 10,ac 337 [34],aO 35] (ci 36 (q' 2 [aU false] .ret)))) (g' 37 [aA 27]))) (q' 2 [aU true] .ret)))) [.t 2] [(337,[],a8d),(336,[],a3b)] ?_;intro hb hE;simp only[go_sem];repeat' first|apply cj'|intro hc|exact om'|fail
 ·rcases hc with((h|h)|h)|h
  ·rw[k7,V3 (p:=1<=r.Kind) z0C];simp
  ·rw[k7,V3 (p:=r.Kind<=3) z0C];simp
  ·rw[k7,h];simp
  ·rw[k7,V3 (p:=(r.Body.length:Int)<=8) z0C];simp
 have hh:=hc;refine lq' false [1,26] [2] [] (fun i:{i:Nat // i<=r.Body.length/\(r.Body.take i).all a2W=true}=>[(27,slV (.i .i64 i.1))]) nl' nl' (fun i=>r.Body.length-i.1) (⟨0,z0D⟩) ?_;intro S0 hS0 i;obtain⟨i,hi,ha⟩:=i;simp only[go_sem,hS0];repeat' first|apply cj'|intro hc|exact om'|fail
 ·rw[k7,all_false z0C hc,q2J]
 ·exact nx0 ⟨i+1,z0C,a0p default z0C ha hc⟩
 ·rw[k7,all_of_take z0C ha,hh.1.2,V0 z0C,V0 z0C,V0 z0C];rfl
noncomputable def a1N:CT:=j8 (fun(x:c8)=>b6p x)
@[go_sem] def d1W:=fun x0 x1 x2 x3=>nm' (fQ' a1N rfl ⟨x0,⟨x1,x2⟩,x3⟩)
def b6j(p:c6):spZ 244 [(true,[m9 p.Decls,m7 p.Rules])] [] (.one (false,[.b (y6 p)])):=by
 refine sy' Tryz.func244 (q' 1 [aX 2 0,aU false] (.seq (q' 6 [aG 0 1,aN,aC .gtr 8 16,am 9,aH 10 false [bf 1 1,bL,bN,bC .gtr 13 24],aQ 10 14] (ci 15 (q' 2 [aU false] .ret))) (.seq (q' 16 [aG 0 1,aN,aK 0] (fO 0 20 [ar 19 18] 20 1 (q' 21 [ai 3 17 19,aE 3,ax (w' 4 [.i .i64,.s,.i .i64]),aS 3 4 22] (q' 23 [aG 0 4,aC .lss 24 1,am 25,aH 26 false [bf 0 4,bL,bC .gtr 28 3],aQ 26 29,am 30,aH 31 false [bf 1 4,bL,bc 281 [33],bO 34],aQ 31 35,am 36,aH 37 false [bf 2 4,bL,bC .lss 39 0],aQ 37 40,am 41,aH 42 false [bf 2 4,bL,bC .gtr 44 6],aQ 42 45] (ci 46 (q' 2 [aU false] .ret)))) (g' 47 [aA 19]))) (.seq (q' 48 [aG 1 1,aN,aK 0] (fO 2 52 [ar 51 50] 52 3 (q' 53 [am 51,aV 5] (q' 54 [aG 1 1,am 5,aI 4,aE 4,ac 282 [58],aO 59] (ci 60 (q' 2 [aU false] .ret)))) (g' 61 [aA 51]))) (q' 2 [aU true] .ret))))) [.t 2] [(282,[],a1N),(281,[],a4H)] ?_;intro hb hE;simp only[go_sem];repeat' first|apply cj'|intro hc|exact om'|fail
 ·rcases hc with h|h
  ·rw[y6,V3 (p:=(p.Decls.length:Int)<=16) z0C];simp
  ·rw[y6,V3 (p:=(p.Rules.length:Int)<=24) z0C];simp
 have hh:=hc;refine lq' false [1,17,18] [2] [] (fun i:{i:Nat // i<=p.Decls.length/\(p.Decls.take i).all a2X=true}=>[(19,slV (.i .i64 i.1))]) nl' nl' (fun i=>p.Decls.length-i.1) (⟨0,z0D⟩) ?_;intro S0 hS0 i;obtain⟨i,hi,ha⟩:=i;simp only[go_sem,hS0];repeat' first|apply cj'|intro hc|exact om'|fail
 ·have h:a2X (p.Decls.getD i default)=false:=by clear hb hS0 ha;grind [a2X]
  rw[y6,all_false z0C h];rfl
 ·have h:a2X (p.Decls.getD i default)=true:=by clear hb hS0 ha;grind [a2X]
  exact nx0 ⟨i+1,z0C,a0p default z0C ha h⟩
 ·have hd:p.Decls.all a2X=true:=all_of_take z0C ha;clear ha;refine lq' false [1,50] [2] [] (fun i:{i:Nat // i<=p.Rules.length/\(p.Rules.take i).all k7=true}=>[(51,slV (.i .i64 i.1))]) nl' nl' (fun i=>p.Rules.length-i.1) (⟨0,z0D⟩) ?_;intro S1 hS1 i;obtain⟨i,hi,ha⟩:=i;simp only[go_sem,hS0,hS1];repeat' first|apply cj'|intro hc|exact om'|fail
  ·rw[y6,all_false (l:=p.Rules) z0C hc];simp
  ·exact nx1 ⟨i+1,z0C,a0p default z0C ha hc⟩
  ·rw[y6,hd,all_of_take (l:=p.Rules) z0C ha,V0 z0C,V0 z0C];rfl
noncomputable def a3a:CT:=j8 (fun(x:c6)=>b6j x)
@[go_sem] def d1P:=fun x0 x1=>nm' (fQ' a3a rfl ⟨x0,x1⟩)
def b8z(t:d5):spZ 402 [(true,[.s t.Var,.i .i64 t.Val.N,.s t.Val.S])] [] (.one (false,[.b (!z9 t)])):=by
 refine sy' Tryz.func402 (q' 1 [aX 3 0,aU false] (q' 3 [ae 3 1,ac 403 [3],aO 4,aV 2] .ret)) [.t 2] [(403,[],a5L)] ?_;intro hb hE;simp only[go_sem];repeat' first|apply cj'|intro hc|exact om'|fail
 all_goals(first|rfl)
noncomputable def a7K:CT:=j8 (fun(x:d5)=>b8z x)
@[go_sem] def d2S:=fun x0 x1 x2=>nm' (fQ' a7K rfl ⟨x0,⟨x1,x2⟩⟩)
def c1G(l:List d5):spZ 418 [(false,[l8 l]),(false,[.f 402 []])] [] (.one (false,[.i .i64 (a1a (fun y=>!z9 y) l)])):=by
 refine sy' Tryz.func418 (q' 4 [aK 0] (.seq (q' 6 [am 0,aN,aK 0] (fO 0 9 [ar 8 7] 9 1 (q' 10 [am 8,aV 5] (q' 11 [aM [1,0,5],aI 3,aE 3,ao (.callv (.t 11) [.t 15])] (ci 16 (q' 17 [am 5,aV 4] .ret)))) (g' 18 [aA 8]))) (q' 4 [ao (.mov (.k (.v false [.c (.i .i64 (-1))])))] .ret))) [.t 4] [(402,[],a7K)] ?_;intro hb hE;simp only[go_sem];repeat' first|apply cj'|intro hc|exact om'|fail
 refine lq' false [0,1,7] [] [] (fun i:{i:Nat // i<=l.length/\(l.take i).any (fun y=>!z9 y)=false}=>[(8,slV (.i .i64 i.1))]) nl' nl' (fun i=>l.length-i.1) (⟨0,z0D⟩) ?_;intro S0 hS0 i;obtain⟨i,hi,ha⟩:=i;simp only[go_sem,hS0];repeat' first|apply cj'|intro hc|exact om'|fail
 ·exact(w9 (p:=fun y=>!z9 y) (d:=default) z0C ha z0G).symm
 ·exact nx0 ⟨i+1,z0C,t7 (p:=fun y=>!z9 y) default z0C ha z0G⟩
 ·exact(w8 z0J).symm
noncomputable def a8O:CT:=j8 (fun(x:(List d5))=>c1G x)
@[go_sem] def d4B:=fun l=>nm' (fQ' a8O rfl l)
def c1E(l:List d5):spZ 401 [(false,[l8 l]),(false,[.f 402 []])] [] (.one (false,[.b (l.any (fun y=>!z9 y))])):=by
 refine sy' Tryz.func401 (q' 4 [aU false] (q' 5 [aM [0,1],ac 418 [5,6],aC .geq 7 0,aV 4] .ret)) [.t 4] [(418,[],a8O)] ?_;intro hb hE;simp only[go_sem];repeat' first|apply cj'|intro hc|exact om'|fail
 ·exact a1l _ _
noncomputable def a8M:CT:=j8 (fun(x:(List d5))=>c1E x)
@[go_sem] def d4z:=fun l=>nm' (fQ' a8M rfl l)
def c4x(a:f7):spZ 355 [(true,[.s a.Name,l8 a.Args])] [] (.one (false,[.b (a4p a)])):=by
 refine sy' Tryz.func355 (q' 1 [aX 2 0,aU false] (q' 3 [aG 0 1,ac 296 [4],am 5,aH 6 true [bf 1 1,bL,bN,bC .leq 9 6],aP 6 10,am 11,aH 12 true [bf 1 1,bL,bo (.call 401 [.t 14,.k (.v false [.c (.f 402 [])])]),bO 15],aP 12 16,aV 2] .ret)) [.t 2] [(296,[],a5J),(401,[],a8M)] ?_;intro hb hE;simp only[go_sem];repeat' first|apply cj'|intro hc|exact om'|fail
 all_goals(rw[a4p];grind)
noncomputable def a5G:CT:=j8 (fun(x:f7)=>c4x x)
@[go_sem] def d7b:=fun x0 x1=>nm' (fQ' a5G rfl ⟨x0,x1⟩)
def c7P(l:d7):spZ 358 [(true,[.i .i64 l.Kind,.s l.Atom.Name,l8 l.Atom.Args,.i .i64 l.Op,.s l.A.Var,.i .i64 l.A.Val.N,.s l.A.Val.S,.s l.B.Var,.i .i64 l.B.Val.N,.s l.B.Val.S])] [] (.one (false,[.b (a2W l)])):=by
 refine sy' Tryz.func358 (q' 1 [aX 10 0,aU false] (.seq (q' 3 [aG 0 1] (.block 0 (.seq (q' 6 [aC .eql 4 1,aV 5] (cd 5 .skip (g' 7 [aC .eql 4 2,aV 5]))) (cd 5 (q' 8 [af 1 1,aE 2,ac 355 [9],am 10,aH 11 true [bf 3 1,bL,bC .eql 13 0],aP 11 14,am 15,aH 16 true [bf 4 1,bE 3,bo (.bld [.s,.i .i64,.s] []),bo (.eqs false [.s,.i .i64,.s] (.t 18) (.t 19))],aP 16 20,am 21,aH 22 true [bf 7 1,bE 3,bo (.bld [.s,.i .i64,.s] []),bo (.eqs false [.s,.i .i64,.s] (.t 24) (.t 25))],aP 22 26,aV 2] .ret) (q' 29 [aC .eql 4 3,aV 28] (ci 28 (q' 30 [aG 3 1,aC .geq 31 1,am 32,aH 33 true [bf 3 1,bL,bC .leq 35 4],aP 33 36,am 37,aH 38 true [bf 1 1,bF 0,bL,bY .eql 41 []],aP 38 42,am 43,aH 44 true [bf 1 1,bF 1,bL,bN,bC .eql 48 0],aP 44 49,am 50,aH 51 true [bf 4 1,bE 3,bc 403 [53]],aP 51 54,am 55,aH 56 true [bf 7 1,bE 3,bc 403 [58]],aP 56 59,aV 2] .ret))))))) (q' 2 [aU false] .ret))) [.t 2] [(403,[],a5L),(355,[],a5G)] ?_;intro hb hE;simp only[go_sem];repeat' first|apply cj'|intro hc|exact om'|fail
 all_goals(first|rfl|(clear hb;(try simp only[a9Z,q5J]);first|rfl|(simp only[a2W,d1i];done)|grind [a2W,d1i]))
noncomputable def b3i:CT:=j8 (fun(x:d7)=>c7P x)
@[go_sem] def d9l:=fun x0 x1 x2 x3 x4 x5 x6 x7 x8 x9=>nm' (fQ' b3i rfl ⟨x0,⟨x1,x2⟩,x3,⟨x4,⟨x5,x6⟩⟩,⟨x7,⟨x8,x9⟩⟩⟩)
def b8F(l:d7):spZ 357 [(true,[.i .i64 l.Kind,.s l.Atom.Name,l8 l.Atom.Args,.i .i64 l.Op,.s l.A.Var,.i .i64 l.A.Val.N,.s l.A.Val.S,.s l.B.Var,.i .i64 l.B.Val.N,.s l.B.Val.S])] [] (.one (false,[.b (!a2W l)])):=by
 refine sy' Tryz.func357 (q' 1 [aX 10 0,aU false] (q' 3 [ae 10 1,ac 358 [3],aO 4,aV 2] .ret)) [.t 2] [(358,[],b3i)] ?_;intro hb hE;simp only[go_sem];repeat' first|apply cj'|intro hc|exact om'|fail
 all_goals(first|rfl|(clear hb;(try simp only[a9Z,q5J]);first|rfl|(simp only[a2W];done)|grind [a2W]))
noncomputable def a7O:CT:=j8 (fun(x:d7)=>b8F x)
@[go_sem] def d2Y:=fun x0 x1 x2 x3 x4 x5 x6 x7 x8 x9=>nm' (fQ' a7O rfl ⟨x0,⟨x1,x2⟩,x3,⟨x4,⟨x5,x6⟩⟩,⟨x7,⟨x8,x9⟩⟩⟩)
@[go_sem] def c5y:ACode:=q' 4 [aK 0] (.seq (q' 6 [am 0,aN,aK 0] (fO 0 9 [ar 8 7] 9 1 (q' 10 [am 8,aV 5] (q' 11 [aM [1,0,5],aI 10,aE 10,ao (.callv (.t 11) [.t 15])] (ci 16 (q' 17 [am
 5,aV 4] .ret)))) (g' 18 [aA 8]))) (q' 4 [ao (.mov (.k (.v false [.c (.i .i64 (-1))])))] .ret))
def e1r(l:List d7):spZ 404 [(false,[a0g l]),(false,[.f 357 []])] [] (.one (false,[.i .i64 (a1a (fun y=>!a2W y) l)])):=by
 refine sy' Tryz.func404 c5y [.t 4] [(357,[],a7O)] ?_;intro hb hE;simp only[go_sem];repeat' first|apply cj'|intro hc|exact om'|fail
 refine lq' false [0,1,7] [] [] (fun i:{i:Nat // i<=l.length/\(l.take i).any (fun y=>!a2W y)=false}=>[(8,slV (.i .i64 i.1))]) nl' nl' (fun i=>l.length-i.1) (⟨0,z0D⟩) ?_;intro S0 hS0 i;obtain⟨i,hi,ha⟩:=i;simp only[go_sem,hS0];repeat' first|apply cj'|intro hc|exact om'|fail
 ·exact(w9 (p:=fun y=>!a2W y) (d:=default) z0C ha z0G).symm
 ·exact nx0 ⟨i+1,z0C,t7 (p:=fun y=>!a2W y) default z0C ha z0G⟩
 ·exact(w8 z0J).symm
noncomputable def c9t:CT:=j8 (fun(x:(List d7))=>e1r x)
@[go_sem] def c_idxLit_eq:=fun l=>nm' (fQ' c9t rfl l)
@[go_sem] def c5x:ACode:=q' 4 [aU false] (q' 5 [aM [0,1],ac 404 [5,6],aC .geq 7 0,aV 4] .ret)
def e1o(l:List d7):spZ 356 [(false,[a0g l]),(false,[.f 357 []])] [] (.one (false,[.b (l.any (fun y=>!a2W y))])):=by
 refine sy' Tryz.func356 c5x [.t 4] [(404,[],c9t)] ?_;intro hb hE;simp only[go_sem];repeat' first|apply cj'|intro hc|exact om'|fail
 ·exact a1l _ _
noncomputable def c9q:CT:=j8 (fun(x:(List d7))=>e1o x)
@[go_sem] def c_conLit_eq:=fun l=>nm' (fQ' c9q rfl l)
def c4G(r:c8):spZ 299 [(true,[.i .i64 r.Kind,.s r.Head.Name,l8 r.Head.Args,a0g r.Body])] [] (.one (false,[.b (k7 r)])):=by
 refine sy' Tryz.func299 (q' 1 [aX 4 0,aU false] (q' 3 [aG 0 1,aC .geq 4 1,am 5,aH 6 true [bf 0 1,bL,bC .leq 8 3],aP 6 9,am 10,aH 11 true [bf 1 1,bE 2,bc 355 [13]],aP 11 14,am 15,aH 16 true [bf 3 1,bL,bN,bC .leq 19 8],aP 16 20,am 21,aH 22 true [bf 3 1,bL,bo (.call 356 [.t 24,.k (.v false [.c (.f 357 [])])]),bO 25],aP 22 26,aV 2] .ret)) [.t 2] [(355,[],a5G),(356,[],c9q)] ?_;intro hb hE;simp only[go_sem];repeat' first|apply cj'|intro hc|exact om'|fail
 all_goals(first|rfl|(clear hb;(try simp only[a9Z,q5J]);first|rfl|(simp only[k7];done)|grind [k7]))
noncomputable def a5K:CT:=j8 (fun(x:c8)=>c4G x)
@[go_sem] def d7k:=fun x0 x1 x2 x3=>nm' (fQ' a5K rfl ⟨x0,⟨x1,x2⟩,x3⟩)
def b1W(r:c8):spZ 298 [(true,[.i .i64 r.Kind,.s r.Head.Name,l8 r.Head.Args,a0g r.Body])] [] (.one (false,[.b (!k7 r)])):=by
 refine sy' Tryz.func298 (q' 1 [aX 4 0,aU false] (q' 3 [ae 4 1,ac 299 [3],aO 4,aV 2] .ret)) [.t 2] [(299,[],a5K)] ?_;intro hb hE;simp only[go_sem];repeat' first|apply cj'|intro hc|exact om'|fail
 all_goals(first|rfl|(clear hb;(try simp only[a9Z,q5J]);first|rfl|(simp only[k7];done)|grind [k7]))
noncomputable def a4r:CT:=j8 (fun(x:c8)=>b1W x)
@[go_sem] def c8C:=fun x0 x1 x2 x3=>nm' (fQ' a4r rfl ⟨x0,⟨x1,x2⟩,x3⟩)
@[go_sem] def b9K:ACode:=q' 4 [aK 0] (.seq (q' 6 [am 0,aN,aK 0] (fO 0 9 [ar 8 7] 9 1 (q' 10 [am 8,aV 5] (q' 11 [aM [1,0,5],aI 4,aE 4,ao (.callv (.t 11) [.t 15])] (ci 16 (q' 17 [am 5,aV
 4] .ret)))) (g' 18 [aA 8]))) (q' 4 [ao (.mov (.k (.v false [.c (.i .i64 (-1))])))] .ret))
def d8o(l:List c8):spZ 257 [(false,[m7 l]),(false,[.f 298 []])] [] (.one (false,[.i .i64 (a1a (fun y=>!k7 y) l)])):=by
 refine sy' Tryz.func257 b9K [.t 4] [(298,[],a4r)] ?_;intro hb hE;simp only[go_sem];repeat' first|apply cj'|intro hc|exact om'|fail
 refine lq' false [0,1,7] [] [] (fun i:{i:Nat // i<=l.length/\(l.take i).any (fun y=>!k7 y)=false}=>[(8,slV (.i .i64 i.1))]) nl' nl' (fun i=>l.length-i.1) (⟨0,z0D⟩) ?_;intro S0 hS0 i;obtain⟨i,hi,ha⟩:=i;simp only[go_sem,hS0];repeat' first|apply cj'|intro hc|exact om'|fail
 ·exact(w9 (p:=fun y=>!k7 y) (d:=default) z0C ha z0G).symm
 ·exact nx0 ⟨i+1,z0C,t7 (p:=fun y=>!k7 y) default z0C ha z0G⟩
 ·exact(w8 z0J).symm
noncomputable def c5J:CT:=j8 (fun(x:(List c8))=>d8o x)
@[go_sem] def e2m:=fun l=>nm' (fQ' c5J rfl l)
def d8m(l:List c8):spZ 297 [(false,[m7 l]),(false,[.f 298 []])] [] (.one (false,[.b (l.any (fun y=>!k7 y))])):=by
 refine sy' Tryz.func297 (q' 4 [aU false] (q' 5 [aM [0,1],ac 257 [5,6],aC .geq 7 0,aV 4] .ret)) [.t 4] [(257,[],c5J)] ?_;intro hb hE;simp only[go_sem];repeat' first|apply cj'|intro hc|exact om'|fail
 ·exact a1l _ _
noncomputable def c5H:CT:=j8 (fun(x:(List c8))=>d8m x)
@[go_sem] def e2k:=fun l=>nm' (fQ' c5H rfl l)
def d0E(n:Int)(most:Int):spZ 240 [(false,[.i .i64 n]),(false,[.i .i64 most])] [] (.one (false,[.b (decide (0<=n)&&decide (n<=most))])):=by
 refine sy' Tryz.func240 (q' 4 [aU false] (q' 5 [am 0,aC .geq 5 0,am 6,aH 7 true [bm 0,bm 1,bD .leq 8 9],aP 7 10,aV 4] .ret)) [.t 4] [] ?_;intro hb hE;simp only[go_sem];repeat' first|apply cj'|intro hc|exact om'|fail
 all_goals(first|rfl)
noncomputable def a9f:CT:=j8 (fun(x:Int×Int)=>d0E x.1 x.2)
@[go_sem] def e0B:=fun n x0=>nm' (fQ' a9f rfl (n,x0))
def b5P(p:c6):spZ 256 [(true,[m9 p.Decls,m7 p.Rules])] [] (.one (false,[.b (y6 p)])):=by
 refine sy' Tryz.func256 (q' 1 [aX 2 0,aU false] (.seq (q' 5 [aG 0 1,aN,aK 0] (fO 0 9 [ar 8 7] 9 1 (q' 10 [ai 3 6 8,aE 3,ax (w' 4 [.i .i64,.s,.i .i64]),aS 3 4 11] (q' 12 [aG 0 4,aC .lss 13 1,am 14,aH 15 false [bf 0 4,bL,bC .gtr 17 3],aQ 15 18,am 19,aH 20 false [bf 1 4,bL,bc 296 [22],bO 23],aQ 20 24,am 25,aH 26 false [bf 2 4,bL,bo (.call 240 [.t 28,.k (.v false [.c (.i .i64 6)])]),bO 29],aQ 26 30] (ci 31 (q' 2 [aU false] .ret)))) (g' 32 [aA 8]))) (q' 33 [aG 0 1,aN,aC .leq 35 16,am 36,aH 37 true [bf 1 1,bL,bN,bC .leq 40 24],aP 37 41,am 42,aH 43 true [bf 1 1,bL,bo (.call 297 [.t 45,.k (.v false [.c (.f 298 [])])]),bO 46],aP 43 47,aV 2] .ret))) [.t 2] [(296,[],a5J),(240,[],a9f),(297,[],c5H)] ?_;intro hb hE;simp only[go_sem];repeat' first|apply cj'|intro hc|exact om'|fail
 refine lq' false [1,6,7] [2] [] (fun i:{i:Nat // i<=p.Decls.length/\(p.Decls.take i).all a2X=true}=>[(8,slV (.i .i64 i.1))]) nl' nl' (fun i=>p.Decls.length-i.1) (⟨0,z0D⟩) ?_;intro S0 hS0 i;obtain⟨i,hi,ha⟩:=i;simp only[go_sem,hS0];repeat' first|apply cj'|intro hc|exact om'|fail
 ·have h:a2X (p.Decls.getD i default)=false:=by clear hb hS0 ha;grind [a2X]
  rw[y6,all_false z0C h];rfl
 ·have h:a2X (p.Decls.getD i default)=true:=by clear hb hS0 ha;grind [a2X]
  exact nx0 ⟨i+1,z0C,a0p default z0C ha h⟩
 ·have hd:p.Decls.all a2X=true:=all_of_take z0C ha;rw[y6,hd,a9Z,q5J];rfl
noncomputable def a2Y:CT:=j8 (fun(x:c6)=>b5P x)
@[go_sem] def d1t:=fun x0 x1=>nm' (fQ' a2Y rfl ⟨x0,x1⟩)
def a0G(p:c6)(name:List UInt8):e7:=(p.Decls.find? fun d=>d.Name==name).getD default
def a0z(p:c6)(name:List UInt8):Bool:=p.Decls.any fun d=>d.Name==name
def b0e{p:α->Bool}(h:l.any p=false):l.find? p=none:=by
 rw[q4Y];rw[q2R]at h;exact h
def c7k{p:α->Bool}{i:Nat}(d:α)(hi:i<l.length)(ha:(l.take i).any p=false)(hp:p (l.getD i d)=true):l.find? p=some (l.getD i d):=by
 have hg:l.drop i=l.getD i d::l.drop (i+1):=by rw[W5,V6 hi];exact(List.getElem_cons_drop hi).symm
 have e:l.find? p=(l.take i++l.drop i).find? p:=by rw[q1K]
 rw[e,q5F,b0e ha,hg];simp only[Option.none_or,q3S,hp]
def b0b{p:c6}{name:List UInt8}{i:Nat}(hi:i<p.Decls.length)(ha:((p.Decls.take i).any fun d=>d.Name==name)=false)(hp:((p.Decls.getD i default).Name==name)=true):a0G p name=p.Decls.getD i default/\a0z p name=true:=by
 refine⟨?_, ?_⟩
 ·rw[a0G,c7k default hi ha hp];rfl
 ·exact any_true (d:=default) hi hp
def b0c{p:c6}{name:List UInt8}(ha:(p.Decls.any fun d=>d.Name==name)=false):a0G p name=default/\a0z p name=false:=by
 refine⟨?_,ha⟩;rw[a0G,b0e ha];rfl
def c2K(p:c6)(name:List UInt8):spZ 130 [(true,[m9 p.Decls,m7 p.Rules]),(false,[.s name])] [] (.one (true,[.i .i64 ((a0G p name).Kind),.s ((a0G p name).Name),.i .i64 ((a0G p name).Arity)])):=by
 refine sy' Tryz.func130 (q' 2 [aX 2 0,ax (w' 4 [.i .i64,.s,.i .i64])] (.seq (q' 7 [aG 0 2,aN,aK 0] (fO 0 11 [ar 10 9] 11 1 (q' 12 [ai 3 8 10,aE 3,ax (w' 6 [.i .i64,.s,.i .i64]),aS 3 6 13] (q' 14 [aG 1 6,am 1,aD .eql 15 16] (ci 17 (q' 18 [ae 3 6,aS 3 4 18] .ret)))) (g' 19 [aA 10]))) (q' 20 [ao (.bld [.i .i64,.s,.i .i64] []),aS 3 4 20] .ret))) [.c 4 true 3] [] ?_;intro hb hE;simp only[go_sem];repeat' first|apply cj'|intro hc|exact om'|fail
 refine lq' false [1,4,8,9] [] [] (fun i:{i:Nat // i<=p.Decls.length/\(p.Decls.take i).any (fun d=>d.Name==name)=false}=>[(10,slV (.i .i64 i.1))]) (fun i=>[(8,[.c (.i .i64 0),.c (.s []),.c (.i .i64 0)])]) nl' (fun i=>p.Decls.length-i.1) (⟨0,z0D⟩) ?_;intro S0 hS0 i;obtain⟨i,hi,ha⟩:=i;simp only[go_sem,hS0];repeat' first|apply cj'|intro hc|exact om'|fail
 ·rw[(b0b z0C ha hc).1];exact⟨⟨rfl,rfl⟩,rfl⟩
 ·exact nx0 ⟨i+1,z0C,t7 default z0C ha hc⟩
 ·rw[(b0c z0J).1];exact⟨⟨rfl,rfl⟩,rfl⟩
noncomputable def a1c:CT:=j8 (fun(x:c6×(List UInt8))=>c2K x.1 x.2)
@[go_sem] def d5G:=fun x0 x1 x2=>nm' (fQ' a1c rfl (⟨x0,x1⟩,x2))
def c4C(p:c6)(name:List UInt8):spZ 204 [(true,[m9 p.Decls,m7 p.Rules]),(false,[.s name])] [] (.tup [(true,[.i .i64 (((a0G p name,a0z p name).1).Kind),.s (((a0G p name,a0z p name).1).Name),.i .i64 (((a0G p name,a0z p name).1).Arity)]),(false,[.b ((a0G p name,a0z p name).2)])]):=by
 refine sy' Tryz.func204 (q' 2 [aX 2 0,ax (w' 4 [.i .i64,.s,.i .i64]),ab 5 false] (.seq (q' 8 [aG 0 2,aN,aK 0] (fO 0 12 [ar 11 10] 12 1 (q' 13 [ai 3 9 11,aE 3,ax (w' 7 [.i .i64,.s,.i .i64]),aS 3 7 14] (q' 15 [aG 1 7,am 1,aD .eql 16 17] (ci 18 (q' 19 [ae 3 7,aS 3 4 19,ab 5 true] .ret)))) (g' 20 [aA 11]))) (q' 21 [ao (.bld [.i .i64,.s,.i .i64] []),aS 3 4 21,ab 5 false] .ret))) [.c 4 true 3,.t 5] [] ?_;intro hb hE;simp only[go_sem];repeat' first|apply cj'|intro hc|exact om'|fail
 refine lq' false [1,4,9,10] [] [] (fun i:{i:Nat // i<=p.Decls.length/\(p.Decls.take i).any (fun d=>d.Name==name)=false}=>[(11,slV (.i .i64 i.1))]) (fun i=>[(8,[.c (.i .i64 0),.c (.s []),.c (.i .i64 0)])]) nl' (fun i=>p.Decls.length-i.1) (⟨0,z0D⟩) ?_;intro S0 hS0 i;obtain⟨i,hi,ha⟩:=i;simp only[go_sem,hS0];repeat' first|apply cj'|intro hc|exact om'|fail
 ·have h:=b0b z0C ha hc;rw[h.1,h.2];exact⟨⟨⟨rfl,rfl⟩,rfl⟩,rfl⟩
 ·exact nx0 ⟨i+1,z0C,t7 default z0C ha hc⟩
 ·have h:=b0c z0J;rw[h.1,h.2];exact⟨⟨⟨rfl,rfl⟩,rfl⟩,rfl⟩
noncomputable def a5I:CT:=j8 (fun(x:c6×(List UInt8))=>c4C x.1 x.2)
@[go_sem] def d7g:=fun x0 x1 x2=>nm' (fQ' a5I rfl (⟨x0,x1⟩,x2))
def b3z{p:α->Bool}(h:l.any p=true):∃x∈l,p x=true/\l.find? p=some x:=by
 cases e:l.find? p with
 | none=>rw[q4Y]at e;rw[q3F]at h;obtain⟨x,hx,hp⟩:=h;exact absurd hp (e x hx)
 | some x=>exact⟨x,q5L e,List.find?_some e,rfl⟩
def c7t{p:c6}{name:List UInt8}(h:y6 p=true):(a0z p name=true->1<=(a0G p name).Kind/\(a0G p name).Kind<=3)/\(a0z p name=false->a0G p name=default):=by
 refine⟨fun hd=>?_,fun hd=>(b0c hd).1⟩;obtain⟨x,hx,_,e⟩:=b3z hd;rw[a0G,e];simp only[y6,W3,q0K]at h;have:=h.1.1.1 x hx;simp only[a2X,K7]at this;exact⟨this.1.1.1,this.1.1.2⟩
def c7u{p:c6}{name:List UInt8}(h:y6 p=true):((a0G p name).Kind==0)=!a0z p name:=by
 have:=c7t (name:=name) h;cases hd:a0z p name with
 | true=>have:=this.1 hd;simp;omega
 | false=>rw[this.2 hd];rfl
def d1g(l:List (List UInt8)):b4t l=a1R Op.bytesLess l:=by
 unfold b4t a1R
 congr 1
 funext x y
 rw[d1c,q3T];simp
def d8t(l:List (List UInt8))(hpre:l.length<4611686018427387904):spZ 360 [(false,[.sl true [.s []] (l.map a0E)])] [(0,(false,[.sl true [.s []] ((a1R Op.bytesLess l).map a0E)]))] (.tup []):=by
 rw[<-d1g];exact d8M Tryz.l190 z0K l hpre
noncomputable def b5t:CT:=k8 (fun(x:(List (List UInt8))) h=>d8t x h)
@[go_sem] def e2r:=fun l=>nm' (fP' b5t rfl l)
def e1n(l:List (List UInt8)):spZ 361 [(false,[.sl true [.s []] (l.map a0E)])] [] (.one (false,[.sl true [.s []] ((Lib.compact l).map a0E)])):=by
 exact c7c Tryz.l194 z0K l
noncomputable def c0P:CT:=j8 (fun(x:(List (List UInt8)))=>e1n x)
@[go_sem] def c_comStr_eq:=fun l=>nm' (fQ' c0P rfl l)
abbrev sLt:List UInt8->List UInt8->Bool:=Op.bytesLess
def a1A(lt:α->α->Bool)(s:α)(t:List α):List α:=bif t.any (lt s)then t.takeWhile (fun x=>!lt s x)++s::t.dropWhile (fun x=>!lt s x)else t
def e1S{q:α->Bool}(h:∀x∈t,q x=true):t.takeWhile q=t/\t.dropWhile q=[]:=by
 induction t with
 | nil=>exact⟨rfl,rfl⟩
 | cons a t ih=>
   have ha:=h a z0D;have:=ih fun x hx=>h x (by simp[hx])
   simp[q2G,q3D,ha,this.1,this.2]
def tw_app{q:α->Bool}{u:List α}(h:∃x∈t,q x=false):(t++u).takeWhile q=t.takeWhile q/\(t++u).dropWhile q=t.dropWhile q++u:=by
 induction t with
 | nil=>obtain⟨x,hx,_⟩:=h;simp at hx
 | cons a t ih=>
   cases ha:q a with
   | false=>simp[q2G,q3D,ha]
   | true=>
     obtain⟨x,hx,hq⟩:=h;have:=ih ⟨x,by
      rcases V9.1 hx with rfl|hx
      ·rw[ha]at hq;simp at hq
      ·exact hx,hq⟩
     simp[q2G,q3D,ha,this.1,this.2]
def a4c(h:t.any (lt s)=false):∀x∈t,(fun x=>!lt s x) x=true:=by
 intro x hx;rw[q2R]at h;have:=h x hx;simpa using this
def c9l(h:t.any (lt s)=true):∃x∈t,(fun x=>!lt s x) x=false:=by
 rw[q3F]at h;obtain⟨x,hx,hp⟩:=h;exact⟨x,hx,by simp[hp]⟩
def b3E{x:α}(h:t.any (lt s)=true):a1A lt s (t++[x])=a1A lt s t++[x]:=by
 have e:=tw_app (u:=[x]) (c9l h);have h2:(t++[x]).any (lt s)=true:=by rw[q2A,h];rfl
 unfold a1A;rw[h,h2,e.1,e.2,W8,W8,q0V];rfl
def b9u{x:α}(h:t.any (lt s)=false)(hx:lt s x=true):a1A lt s (t++[x])=a1A lt s t++[s]++[x]:=by
 have e:=e1S (a4c h);have h2:(t++[x]).any (lt s)=true:=by rw[q2A,h];simp[hx]
 unfold a1A;rw[h,h2,W8,V2];rw[List.takeWhile_append_of_pos (a4c h),List.dropWhile_append_of_pos (a4c h)];simp[q2G,q3D,hx]
def c7y{x:α}(h:t.any (lt s)=false)(hx:lt s x=false):a1A lt s (t++[x])=a1A lt s t++[x]:=by
 have h2:(t++[x]).any (lt s)=false:=by rw[q2A,h];simp[hx]
 unfold a1A;rw[h,h2];rfl
def b3F[DecidableEq α](hm:¬s∈l)(h:l.any (lt s)=true):a1f lt l s=a1A lt s l:=by
 rw[a1f,if_neg hm,a1A,h];rfl
def b3G[DecidableEq α](hm:¬s∈l)(h:l.any (lt s)=false):a1f lt l s=a1A lt s l++[s]:=by
 have e:=e1S (a4c h);rw[a1f,if_neg hm,a1A,h,e.1,e.2];rfl
def b9v(lt:α->α->Bool)(s:α)(t:List α):(a1A lt s t).length<=t.length+1:=by
 unfold a1A;cases t.any (lt s)with
 | false=>simp
 | true=>
   have e:=congrArg List.length (q1Q (p:=fun x=>!lt s x) (l:=t));simp only[V5]at e;simp only[W8,V5,V7];omega
def d6l[DecidableEq α](lt:α->α->Bool)(l:List α)(s:α):(a1f lt l s).length<=l.length+1:=by
 unfold a1f;split
 ·omega
 ·have e:=congrArg List.length (q1Q (p:=fun x=>!lt s x) (l:=l));simp only[V5]at e;simp only[V5,V7];omega
def a0M[DecidableEq α](lt:α->α->Bool):∀(r l:List α),(m8 lt l r).length<=l.length+r.length:=by
 intro r
 induction r with
 | nil=>intro l;exact q0C _
 | cons a r ih=>
   intro l;have:=ih (a1f lt l a);have:=d6l lt l a;simp only[m8,q2D,V7]at*;omega
def c6i[DecidableEq α](lt:α->α->Bool)(l r:List α)(x:α):m8 lt l (r++[x])=a1f lt (m8 lt l r) x:=by
 simp[m8,q3A]
def a0C(t:d5):Bool:=!(t.Var==[])
def p7(l:List d5):List (List UInt8):=(l.filter a0C).map d5.Var
def a8t(l:List d5):List (List UInt8):=m8 sLt [] (p7 l)
def e1W(l:List d5):Lib.compact (a1R sLt (p7 l))=a8t l:=
 a4d o0 (SS.puts o0 SS.nil) fun x=>by rw[a8t,o8];simp
def a2V(l:List d5):(p7 l).length<=l.length:=b5D _ _ _
def b1k(l:List (List UInt8))(v:List UInt8):l.contains v=l.any (fun x=>x==v):=by
 rw[List.contains_eq_any_beq];congr 1;funext x;exact q3T.2 ⟨fun h=>by rw[beq_iff_eq]at h ⊢;exact h.symm,fun h=>by rw[beq_iff_eq]at h ⊢;exact h.symm⟩
def k_idxS(l:List (List UInt8))(v:List UInt8):spZ 365 [(false,[a3z l]),(false,[.s v])] [] (.one (false,[.i .i64 (a1a (fun y=>v==y) l)])):=by
 refine sy' Tryz.func365 (q' 4 [aK 0] (.seq (q' 6 [am 0,aN,aK 0] (fO 0 9 [ar 8 7] 9 1 (q' 10 [am 8,aV 5] (q' 11 [aM [1,0,5],aI 1,aL,aD .eql 11 15] (ci 16 (q' 17 [am 5,aV 4] .ret)))) (g' 18 [aA 8]))) (q' 4 [ao (.mov (.k (.v false [.c (.i .i64 (-1))])))] .ret))) [.t 4] [] ?_;intro hb hE;simp only[go_sem];repeat' first|apply cj'|intro hc|exact om'|fail
 refine lq' false [0,1,7] [] [] (fun i:{i:Nat // i<=l.length/\(l.take i).any (fun y=>v==y)=false}=>[(8,slV (.i .i64 i.1))]) nl' nl' (fun i=>l.length-i.1) (⟨0,z0D⟩) ?_;intro S0 hS0 i;obtain⟨i,hi,ha⟩:=i;simp only[go_sem,hS0];repeat' first|apply cj'|intro hc|exact om'|fail
 ·exact(w9 (p:=fun y=>v==y) (d:=[]) z0C ha hc).symm
 ·exact nx0 ⟨i+1,z0C,t7 (p:=fun y=>v==y) [] z0C ha hc⟩
 ·exact(w8 z0J).symm
noncomputable def e0v:CT:=j8 (fun(x:(List (List UInt8))×(List UInt8))=>k_idxS x.1 x.2)
@[go_sem] def c_idxS_eq:=fun l v=>nm' (fQ' e0v rfl (l,v))
def k_conS(l:List (List UInt8))(v:List UInt8):spZ 304 [(false,[a3z l]),(false,[.s v])] [] (.one (false,[.b (l.contains v)])):=by
 refine sy' Tryz.func304 (q' 4 [aU false] (q' 5 [aM [0,1],ac 365 [5,6],aC .geq 7 0,aV 4] .ret)) [.t 4] [(365,[],e0v)] ?_;intro hb hE;simp only[go_sem];repeat' first|apply cj'|intro hc|exact om'|fail
 all_goals(rw[List.contains_eq_any_beq];exact a1l _ _)
noncomputable def e0q:CT:=j8 (fun(x:(List (List UInt8))×(List UInt8))=>k_conS x.1 x.2)
@[go_sem] def c_conS_eq:=fun l v=>nm' (fQ' e0q rfl (l,v))
def c5o(l:List (List UInt8))(v:List UInt8):spZ 288 [(false,[a3z l]),(false,[.s v])] [] (.one (false,[.b (l.contains v)])):=by
 refine sy' Tryz.func288 (q' 4 [aU false] (.seq (q' 7 [am 0,aN,aK 0] (fO 0 10 [ar 9 8] 10 1 (q' 11 [ai 1 7 9,aL,aV 6] (q' 13 [aM [6,1],aD .eql 13 14] (ci 15 (q' 4 [aU true] .ret)))) (g' 16 [aA 9]))) (q' 4 [aU false] .ret))) [.t 4] [] ?_;intro hb hE;simp only[go_sem];repeat' first|apply cj'|intro hc|exact om'|fail
 refine lq' false [1,7,8] [] [] (fun i:{i:Nat // i<=l.length/\(l.take i).any (fun x=>x==v)=false}=>[(9,slV (.i .i64 i.1))]) nl' nl' (fun i=>l.length-i.1) (⟨0,z0D⟩) ?_;intro S0 hS0 i;obtain⟨i,hi,ha⟩:=i;simp only[go_sem,hS0];repeat' first|apply cj'|intro hc|exact om'|fail
 ·rw[b1k,any_true (d:=[]) (i:=i) z0C hc]
 ·exact nx0 ⟨i+1,z0C,t7 [] z0C ha hc⟩
 ·rw[b1k,<-ha,i4 z0C]
noncomputable def a5X:CT:=j8 (fun(x:(List (List UInt8))×(List UInt8))=>c5o x.1 x.2)
@[go_sem] def d7S:=fun l v=>nm' (fQ' a5X rfl (l,v))
@[go_sem] def a8E:ACode:=q' 4 [ao (.mov (.k (.v false [.nl [.s []]])))] (q' 9 [ao (.bsl 1 0 [.s] []),aV 5] (q' 6 [aU false] (.seq (q' 10 [am 0,aN,aK 0] (fO 0 13 [ar 12 11] 13 1 (q' 14
 [ai 1 10 12,aL,aV 8] (.seq (q' 16 [aM [8,1],aD .eql 16 17] (ci 18 (q' 19 [am 0,aV 4] .ret))) (.seq (q' 20 [am 6,aO 20,am 21,aH 22 true [bm 1,bm 8,bD .lss 23
 24],aP 22 25] (ci 26 (q' 27 [aM [5,1],ao (.bsl 1 1 [.s] [(0,.t 28)]),ao (.app 1 16 [.s] (.t 27) (.t 29)),aV 5] (g' 6 [aU true])))) (g' 31 [aM [5,8],ao (.bsl
 1 1 [.s] [(0,.t 32)]),ao (.app 1 16 [.s] (.t 31) (.t 33)),aV 5])))) (g' 35 [aA 12]))) (.seq (q' 36 [am 6,aO 36] (ci 37 (g' 38 [aM [5,1],ao (.bsl 1 1 [.s]
 [(0,.t 39)]),ao (.app 1 16 [.s] (.t 38) (.t 40)),aV 5]))) (q' 42 [am 5,aV 4] .ret)))))
def c5p(l:List (List UInt8))(s:List UInt8)(hpre:l.length<1099511627776):spZ 396 [(false,[a3z l]),(false,[.s s])] [] (.one (false,[a3z (a1f sLt l s)])):=by
 refine sx' false true none Tryz.func396 a8E [.t 4] [] ?_;intro hb hE;simp only[go_sem];repeat' first|apply cj'|intro hc|exact om'|fail
 refine lk' false [(false,5,0,100010)] [0,1,10,11] [] [] (fun i:{i:Nat // i<=l.length/\¬s∈l.take i}=>[(5,.v false [.ow 100010]),(6,slV (.b ((l.take i.1).any (sLt s)))),(12,slV (.i .i64 i.1))]) nl' (fun i=>[(100010,[.s []],(a1A sLt s (l.take i.1)).map a0E)]) (fun i=>l.length-i.1) (⟨0,z0D⟩) ?_;intro S0 hS0 i;obtain⟨i,hi,hm⟩:=i;simp only[go_sem,hS0];repeat' first|apply cj'|intro hc|exact om'|fail
 all_goals have hl:=b9v sLt s (l.take i)
 all_goals rw[V1]at hl
 ·have hm2:s∈l:=by
   rw[beq_iff_eq]at hc;have:=j7 (l:=l) [] (i:=i) z0C;rw[<-hc,this];exact q1E _
  rw[a1f,if_pos hm2]
 ·omega
 ·omega
 ·have hx:=j3 (l:=l) [] (i:=i) z0C;have hn:¬s∈l.take (i+1):=by rw[hx];simp only[W9,q0A];rintro(h|h);exact hm h;subst h;simp at*
  have h1:(l.take (i+1)).any (sLt s)=true:=by rw[hx,q2A,hc.1,q2L,show sLt s (l.getD i [])=true from hc.2];rfl
  have h2:a1A sLt s (l.take (i+1))=a1A sLt s (l.take i)++[s]++[l.getD i []]:=by rw[hx,b9u hc.1 hc.2]
  (refine lpK_n2 (⟨i+1,z0C,hn⟩) _ z0E ?_;simp only[go_sem,hS0]<;>repeat' first|apply W6|exact on'|fail)
  all_goals first|rw[h1]|rw[h2]
 ·omega
 ·have hx:=j3 (l:=l) [] (i:=i) z0C;have hn:¬s∈l.take (i+1):=by rw[hx];simp only[W9,q0A];rintro(h|h);exact hm h;subst h;simp at*
  have h3:(l.take (i+1)).any (sLt s)=(l.take i).any (sLt s)/\a1A sLt s (l.take (i+1))=a1A sLt s (l.take i)++[l.getD i []]:=by
   rw[hx];cases h:(l.take i).any (sLt s)with
   | true=>exact⟨z2I,b3E h⟩
   | false=>
     rw[h]at hc;have hc2:sLt s (l.getD i [])=false:=hc;exact⟨z1X,c7y h hc2⟩
  (refine lpK_n2 (⟨i+1,z0C,hn⟩) _ z0E ?_;simp only[go_sem,hS0]<;>repeat' first|apply W6|exact on'|fail)
  all_goals first|rw[h3.1]|rw[h3.2]
 ·omega
 ·rw[i4 z0C]at hc hm ⊢;rw[b3G hm hc]
 ·rw[i4 z0C]at hc hm ⊢;rw[b3F hm hc]
noncomputable def b1f:CT:=k8 (fun(x:(List (List UInt8))×(List UInt8)) h=>c5p x.1 x.2 h)
@[go_sem] def d7T:=fun l s=>nm' (fP' b1f rfl (l,s))
def c4I(l:List d5)(hpre:l.length<1099511627776):spZ 359 [(false,[l8 l])] [] (.one (false,[b1m (a8t l)])):=by
 refine sy' Tryz.func359 (q' 2 [ao (.mov (.k (.v false [.nl [.s []]])))] (q' 6 [ao (.bsl 1 0 [.s] []),aV 3] (.seq (q' 7 [am 0,aN,aK 0] (fO 0 10 [ar 9 8] 10 1 (q' 11 [ai 3 7 9,aE 3,ax (w' 5 [.s,.i .i64,.s]),aS 3 5 12] (q' 13 [aG 0 5,aY .neq 14 []] (ci 15 (g' 16 [am 3,aG 0 5,ao (.bsl 1 1 [.s] [(0,.t 18)]),ao (.app 1 16 [.s] (.t 16) (.t 19)),aV 3])))) (g' 21 [aA 9]))) (q' 22 [am 3,ac 360 [22]] (q' 24 [am 3,ac 361 [24],aV 2] .ret))))) [.t 2] [(360,[0],b5t),(361,[0],c0P)] ?_;intro hb hE;simp only[go_sem];repeat' first|apply cj'|intro hc|exact om'|fail
 refine lk' false [(false,3,0,100006)] [7,8] [] [] (fun i:{i:Nat // i<=l.length}=>[(3,.v false [.ow 100006]),(9,slV (.i .i64 i.1))]) nl' (fun i=>[(100006,[.s []],(p7 (l.take i.1)).map a0E)]) (fun i=>l.length-i.1) (⟨0,z0D⟩) ?_;intro S0 hS0 i;obtain⟨i,hi⟩:=i;simp only[go_sem,hS0];repeat' first|apply cj'|intro hc|exact om'|fail
 all_goals have hl:=a2V (l.take i)
 all_goals rw[V1]at hl
 ·omega
 ·(refine lpK_n2 (⟨i+1,z0C⟩) _ z0E ?_;simp only[go_sem,hS0]<;>repeat' first|apply W6|exact on'|fail)
  all_goals rw[p7,p7,b1U (p:=a0C) d5.Var default z0C z1Q]
 ·(refine lpK_n2 (⟨i+1,z0C⟩) _ z0E ?_;simp only[go_sem,hS0]<;>repeat' first|apply W6|exact on'|fail)
  all_goals rw[p7,p7,c1t (p:=a0C) d5.Var default z0C z1Q]
 ·omega
 ·rw[i4 z0C,e1W]
noncomputable def a5M:CT:=k8 (fun(x:(List d5)) h=>c4I x h)
@[go_sem] def d7m:=fun l=>nm' (fP' a5M rfl l)
@[go_sem] def a6f:ACode:=q' 4 [ao (.mov (.k (.v false [.nl [.s []]])))] (.seq (q' 7 [am 1,aN,aK 0] (fO 0 10 [ar 9 8] 10 1 (q' 11 [ai 3 7 9,aE 3,ax (w' 6 [.s,.i .i64,.s]),aS 3 6 12]
 (q' 13 [aG 0 6,aY .neq 14 []] (ci 15 (g' 16 [am 0,aG 0 6,ac 396 [16,18],aV 0])))) (g' 20 [aA 9]))) (q' 21 [am 0,aV 4] .ret))
def b9c(a:List (List UInt8))(l:List d5)(hpre:a.length+l.length<1099511627776):spZ 338 [(false,[a3z a]),(false,[l8 l])] [] (.one (false,[a3z (m8 sLt a (p7 l))])):=by
 refine sx' false true none Tryz.func338 a6f [.t 4] [(396,[],b1f)] ?_;intro hb hE;simp only[go_sem];repeat' first|apply cj'|intro hc|exact om'|fail
 refine lq' false [7,8] [] [] (fun i:{i:Nat // i<=l.length}=>[(0,.v false [.c (a3z (m8 sLt a (p7 (l.take i.1))))]),(9,slV (.i .i64 i.1))]) nl' nl' (fun i=>l.length-i.1) (⟨0,z0D⟩) ?_;intro S0 hS0 i;obtain⟨i,hi⟩:=i;simp only[go_sem,hS0];repeat' first|apply cj'|intro hc|exact om'|fail
 all_goals have hl:=a2V (l.take i)
 all_goals have hl2:=a0M sLt (p7 (l.take i)) a
 all_goals rw[V1]at hl
 ·omega
 ·(refine lpK_n2 (⟨i+1,z0C⟩) _ rfl ?_;simp only[go_sem,hS0]<;>repeat' first|apply W6|exact on'|fail)
  all_goals rw[show p7 (l.take (i+1))=p7 (l.take i)++[(l.getD i default).Var] by rw[p7,p7,b1U (p:=a0C) d5.Var default z0C z1Q],c6i]
 ·(refine lpK_n2 (⟨i+1,z0C⟩) _ rfl ?_;simp only[go_sem,hS0]<;>repeat' first|apply W6|exact on'|fail)
  all_goals rw[show p7 (l.take (i+1))=p7 (l.take i) by rw[p7,p7,c1t (p:=a0C) d5.Var default z0C z1Q]]
 ·rw[i4 z0C]
noncomputable def a2g:CT:=k8 (fun(x:(List (List UInt8))×(List d5)) h=>b9c x.1 x.2 h)
@[go_sem] def a4I:=fun a l=>nm' (fP' a2g rfl (a,l))
def a0R(l:d7):Bool:=l.Kind==3&&l.Op==1
inductive Bd(r:c8):List UInt8->Prop
 | base {l:d7} {t:d5}:l∈r.Body->(l.Kind==1)=true->t∈l.Atom.Args->a0C t=true->Bd r t.Var
 | leftV {l:d7}:l∈r.Body->a0R l=true->a0C l.A=true->a0C l.B=false->Bd r l.A.Var
 | leftB {l:d7}:l∈r.Body->a0R l=true->a0C l.A=true->Bd r l.B.Var->Bd r l.A.Var
 | rightV {l:d7}:l∈r.Body->a0R l=true->a0C l.B=true->a0C l.A=false->Bd r l.B.Var
 | rightB {l:d7}:l∈r.Body->a0R l=true->a0C l.B=true->Bd r l.A.Var->Bd r l.B.Var
def u1(out:List (List UInt8))(t:d5):Bool:=t.Var==[]||out.contains t.Var
def a0F(out:List (List UInt8))(l:d7):Prop:=a0R l=true->(u1 out l.A||u1 out l.B)=true->∀x∈p7 [l.A,l.B],x∈out
def a3I(r:c8)(out:List (List UInt8)):Prop:=∀l∈r.Body,(l.Kind==1)=true->∀x∈p7 l.Atom.Args,x∈out
def a0u{l:List d5}{x:List UInt8}:x∈p7 l↔∃t∈l,a0C t=true/\t.Var=x:=by
 simp only[p7,q0X,q1A,and_assoc]
def Bd.mem{r:c8}(hb:a3I r out)(hc:∀l∈r.Body,a0F out l)(h:Bd r v):v∈out:=by
 induction h with
 | base hl hk ht hv=>exact hb _ hl hk _ (a0u.2 ⟨_,ht,hv,rfl⟩)
 | leftV hl he hv hn=>
   refine hc _ hl he ?_ _ (a0u.2 ⟨_,z0D,hv,rfl⟩);simp only[a0C,q0Q]at hn;simp[u1,hn]
 | leftB hl he hv _ ih=>
   refine hc _ hl he ?_ _ (a0u.2 ⟨_,z0D,hv,rfl⟩);simp[u1,ih]
 | rightV hl he hv hn=>
   refine hc _ hl he ?_ _ (a0u.2 ⟨_,q1W _ (q0A.2 rfl),hv,rfl⟩);simp only[a0C,q0Q]at hn;simp[u1,hn]
 | rightB hl he hv _ ih=>
   refine hc _ hl he ?_ _ (a0u.2 ⟨_,q1W _ (q0A.2 rfl),hv,rfl⟩);simp[u1,ih]
def a8v(r:c8):List (List UInt8):=r.Body.flatMap fun l=>p7 l.Atom.Args++p7 [l.A,l.B]
def Bd.all{r:c8}(h:Bd r v):v∈a8v r:=by
 have hm:∀{l:d7} {x:List UInt8},l∈r.Body->(x∈p7 l.Atom.Args\/x∈p7 [l.A,l.B])->x∈a8v r:=fun hl hx=>q2W.2 ⟨_,hl,W9.2 hx⟩
 cases h with
 | base hl hk ht hv=>exact hm hl (.inl (a0u.2 ⟨_,ht,hv,rfl⟩))
 | leftV hl he hv hn=>exact hm hl (.inr (a0u.2 ⟨_,z0D,hv,rfl⟩))
 | leftB hl he hv hn=>exact hm hl (.inr (a0u.2 ⟨_,z0D,hv,rfl⟩))
 | rightV hl he hv hn=>exact hm hl (.inr (a0u.2 ⟨_,q1W _ (q0A.2 rfl),hv,rfl⟩))
 | rightB hl he hv hn=>exact hm hl (.inr (a0u.2 ⟨_,q1W _ (q0A.2 rfl),hv,rfl⟩))
open Classical in
noncomputable def a2x(r:c8):List (List UInt8):=(m8 sLt [] (a8v r)).filter fun v=>decide (Bd r v)
def c5F(r:c8):SS sLt (a2x r):=SS.filter (SS.puts o0 SS.nil) _
open Classical in
def a4T{r:c8}:v∈a2x r↔Bd r v:=by
 rw[a2x,q1A,o8,V8];exact⟨fun h=>h.2,fun h=>⟨.inr h.all,h⟩⟩
def d2P{r:c8}(hs:SS sLt out)(hB:∀v∈out,Bd r v)(hb:a3I r out)(hc:∀l∈r.Body,a0F out l):out=a2x r:=
 SS.uniq o0 hs (c5F r) fun x=>⟨fun h=>a4T.2 (hB x h),fun h=>(a4T.1 h).mem hb hc⟩
def d2O{r:c8}(hB:∀v∈out,Bd r v)(hb:a3I r out)(hc:∀l∈r.Body,a0F out l):Lib.compact (a1R sLt out)=a2x r:=
 a4d o0 (c5F r) fun x=>⟨fun h=>(a4T.1 h).mem hb hc,fun h=>a4T.2 (hB x h)⟩
def d0V[DecidableEq α]{lt:α->α->Bool}(h:(a1f lt l s).length=l.length):s∈l:=by
 unfold a1f at h;split at h
 ·assumption
 ·have e:=congrArg List.length (q1Q (p:=fun x=>!lt s x) (l:=l));simp only[V5,V7]at e h;omega
def e1H[DecidableEq α](lt:α->α->Bool)(l:List α)(s:α):l.length<=(a1f lt l s).length:=by
 unfold a1f;split
 ·omega
 ·have e:=congrArg List.length (q1Q (p:=fun x=>!lt s x) (l:=l));simp only[V5,V7]at e ⊢;omega
def d6m[DecidableEq α](lt:α->α->Bool):∀(r l:List α),l.length<=(m8 lt l r).length:=by
 intro r
 induction r with
 | nil=>intro l;exact q0C _
 | cons a r ih=>
   intro l;have:=ih (a1f lt l a);have:=e1H lt l a;simp only[m8,q2D]at*;omega
def d8C[DecidableEq α]{lt:α->α->Bool}:∀{r l:List α},(m8 lt l r).length=l.length->m8 lt l r=l/\∀x∈r,x∈l:=by
 intro r
 induction r with
 | nil=>intro l _;exact⟨rfl,z0D⟩
 | cons a r ih=>
   intro l h;have h1:=d6m lt r (a1f lt l a);have h2:=e1H lt l a;simp only[m8,q2D]at h h1;have ha:a∈l:=d0V (lt:=lt) z0C;have e:a1f lt l a=l:=by rw[a1f,if_pos ha]
   rw[e]at h;have h3:=ih (l:=l) h;simp only[m8,q2D,e];refine⟨h3.1,fun x hx=>?_⟩;rcases V9.1 hx with rfl|hx
   ·exact ha
   ·exact h3.2 x hx
def a4n{r:c8}(h:k7 r=true):(a8v r).length<=64:=by
 have h8:r.Body.length<=8:=by
  simp only[k7,K7]at h;omega
 have ha:∀l∈r.Body,(p7 l.Atom.Args++p7 [l.A,l.B]).length<=8:=by
  intro l hl;simp only[k7,W3,q0K]at h;have hb:=h.2 l hl;have h1:=a2V l.Atom.Args;have h2:=a2V [l.A,l.B];have h6:l.Atom.Args.length<=6:=by
   rw[a2W]at hb;cases hk:(l.Kind==3)<;>rw[hk]at hb<;>simp only[z0B,K7,beq_iff_eq,a4p]at hb<;>omega
  simp only[V5,V7,q1Z]at*;omega
 unfold a8v
 revert ha h8
 generalize r.Body=b;intro h8 ha;have:∀b:List d7,(∀l∈b,(p7 l.Atom.Args++p7 [l.A,l.B]).length<=8)->(b.flatMap fun l=>p7 l.Atom.Args++p7 [l.A,l.B]).length<=8*b.length:=by
  intro b
  induction b with
  | nil=>intro _;simp
  | cons x b ih=>
    intro hb;have h1:=hb x z0D;have h2:=ih fun l hl=>hb l (by simp[hl])
    simp only[q2B,V5,V7]at*;omega
 have:=this b ha;omega
def b9b(l:List (List UInt8))(s:List UInt8)(hpre:l.length<1099511627776):spZ 396 [(false,[b1m l]),(false,[.s s])] [] (.one (false,[b1m (a1f sLt l s)])):=by
 refine sy' Tryz.func396 a8E [.t 4] [] ?_;intro hb hE;simp only[go_sem];repeat' first|apply cj'|intro hc|exact om'|fail
 refine lk' false [(false,5,0,100010)] [0,1,10,11] [] [1] (fun i:{i:Nat // i<=l.length/\¬s∈l.take i}=>[(5,.v false [.ow 100010]),(6,slV (.b ((l.take i.1).any (sLt s)))),(12,slV (.i .i64 i.1))]) nl' (fun i=>[(100010,[.s []],(a1A sLt s (l.take i.1)).map a0E)]) (fun i=>l.length-i.1) (⟨0,z0D⟩) ?_;intro S0 hS0 i;obtain⟨i,hi,hm⟩:=i;simp only[go_sem,hS0];repeat' first|apply cj'|intro hc|exact om'|fail
 all_goals have hl:=b9v sLt s (l.take i)
 all_goals rw[V1]at hl
 ·have hm2:s∈l:=by
   rw[beq_iff_eq]at hc;have:=j7 (l:=l) [] (i:=i) z0C;rw[<-hc,this];exact q1E _
  rw[a1f,if_pos hm2]
 ·omega
 ·omega
 ·have hx:=j3 (l:=l) [] (i:=i) z0C;have hn:¬s∈l.take (i+1):=by rw[hx];simp only[W9,q0A];rintro(h|h);exact hm h;subst h;simp at*
  have h1:(l.take (i+1)).any (sLt s)=true:=by rw[hx,q2A,hc.1,q2L,show sLt s (l.getD i [])=true from hc.2];rfl
  have h2:a1A sLt s (l.take (i+1))=a1A sLt s (l.take i)++[s]++[l.getD i []]:=by rw[hx,b9u hc.1 hc.2]
  (refine lpK_n2 (⟨i+1,z0C,hn⟩) _ z0E ?_;simp only[go_sem,hS0]<;>repeat' first|apply W6|exact on'|fail)
  all_goals first|rw[h1]|rw[h2]
 ·omega
 ·have hx:=j3 (l:=l) [] (i:=i) z0C;have hn:¬s∈l.take (i+1):=by rw[hx];simp only[W9,q0A];rintro(h|h);exact hm h;subst h;simp at*
  have h3:(l.take (i+1)).any (sLt s)=(l.take i).any (sLt s)/\a1A sLt s (l.take (i+1))=a1A sLt s (l.take i)++[l.getD i []]:=by
   rw[hx];cases h:(l.take i).any (sLt s)with
   | true=>exact⟨z2I,b3E h⟩
   | false=>
     rw[h]at hc;have hc2:sLt s (l.getD i [])=false:=hc;exact⟨z1X,c7y h hc2⟩
  (refine lpK_n2 (⟨i+1,z0C,hn⟩) _ z0E ?_;simp only[go_sem,hS0]<;>repeat' first|apply W6|exact on'|fail)
  all_goals first|rw[h3.1]|rw[h3.2]
 ·omega
 ·rw[i4 z0C]at hc hm ⊢;rw[b3G hm hc]
 ·rw[i4 z0C]at hc hm ⊢;rw[b3F hm hc]
noncomputable def a8e:CT:=k8 (fun(x:(List (List UInt8))×(List UInt8)) h=>b9b x.1 x.2 h)
@[go_sem] def d3u:=fun l s=>nm' (fP' a8e rfl (l,s))
def b4e(a:List (List UInt8))(l:List d5)(hpre:a.length+l.length<1099511627776):spZ 338 [(false,[b1m a]),(false,[l8 l])] [] (.one (false,[b1m (m8 sLt a (p7 l))])):=by
 refine sy' Tryz.func338 a6f [.t 4] [(396,[0],a8e)] ?_;intro hb hE;simp only[go_sem];repeat' first|apply cj'|intro hc|exact om'|fail
 refine lk' false [(false,0,0,100000)] [7,8] [] [] (fun i:{i:Nat // i<=l.length}=>[(0,.v false [.ow 100000]),(9,slV (.i .i64 i.1))]) nl' (fun i=>[(100000,[.s []],(m8 sLt a (p7 (l.take i.1))).map a0E)]) (fun i=>l.length-i.1) (⟨0,z0D⟩) ?_;intro S0 hS0 i;obtain⟨i,hi⟩:=i;simp only[go_sem,hS0];repeat' first|apply cj'|intro hc|exact om'|fail
 all_goals have hl:=a2V (l.take i)
 all_goals have hl2:=a0M sLt (p7 (l.take i)) a
 all_goals rw[V1]at hl
 ·omega
 ·(refine lpK_n2 (⟨i+1,z0C⟩) _ z0E ?_;simp only[go_sem,hS0]<;>repeat' first|apply W6|exact on'|fail)
  all_goals rw[show p7 (l.take (i+1))=p7 (l.take i)++[(l.getD i default).Var] by rw[p7,p7,b1U (p:=a0C) d5.Var default z0C z1Q],c6i]
 ·(refine lpK_n2 (⟨i+1,z0C⟩) _ z0E ?_;simp only[go_sem,hS0]<;>repeat' first|apply W6|exact on'|fail)
  all_goals rw[show p7 (l.take (i+1))=p7 (l.take i) by rw[p7,p7,c1t (p:=a0C) d5.Var default z0C z1Q]]
 ·rw[i4 z0C]
noncomputable def a2J:CT:=k8 (fun(x:(List (List UInt8))×(List d5)) h=>b4e x.1 x.2 h)
@[go_sem] def a9C:=fun a l=>nm' (fP' a2J rfl (a,l))
@[go_sem] def l16T_pair(a:List (List UInt8))(v1:List UInt8)(n1:Int)(s1 v2:List UInt8)(n2:Int)(s2:List UInt8):a2J [(false,[b1m a]),(false,[.sl false j5 [[.s v1,.i .i64 n1,.s s1],[.s v2,.i .i64 n2,.s s2]]])]=some (a.length+2<1099511627776,[],.one (false,[b1m (m8 sLt a (p7 [⟨v1,⟨n1,s1⟩⟩,⟨v2,⟨n2,s2⟩⟩]))])):=a9C a [⟨v1,⟨n1,s1⟩⟩,⟨v2,⟨n2,s2⟩⟩]
def b9g(w:List (List UInt8))(t:d5):spZ 339 [(false,[a3z w]),(true,[.s t.Var,.i .i64 t.Val.N,.s t.Val.S])] [] (.one (false,[.b (u1 w t)])):=by
 refine sy' Tryz.func339 (q' 3 [aX 3 1,aU false] (q' 5 [aG 0 3,aY .eql 6 [],am 7,aH 8 false [bm 0,bf 0 3,bL,bc 288 [9,11]],aQ 8 12,aV 4] .ret)) [.t 4] [(288,[],a5X)] ?_;intro hb hE;simp only[go_sem];repeat' first|apply cj'|intro hc|exact om'|fail
 all_goals rfl
noncomputable def a8h:CT:=j8 (fun(x:(List (List UInt8))×d5)=>b9g x.1 x.2)
@[go_sem] def d3y:=fun w x0 x1 x2=>nm' (fQ' a8h rfl (w,⟨x0,⟨x1,x2⟩⟩))
def ss_len{l:List (List UInt8)}(hs:SS sLt out)(h:∀v∈out,v∈l):out.length<=l.length:=by
 have e:out=(m8 sLt [] l).filter (fun v=>out.contains v):=SS.uniq o0 hs (SS.filter (SS.puts o0 SS.nil) _) fun x=>⟨fun hx=>q1A.2 ⟨o8.2 (.inr (h x hx)),z2E⟩,fun hx=>by simpa using(q1A.1 hx).2⟩
 have e1:=congrArg List.length e;have e2:=q1X (fun v=>out.contains v) (m8 sLt [] l);have e3:=a0M sLt l [];simp only[q1Z]at e3;omega
def d2N{r:c8}(h:k7 r=true)(hs:SS sLt out)(hB:∀v∈out,Bd r v):out.length<=64:=
 q2X (ss_len hs fun v hv=>(hB v hv).all) (a4n h)
def a7a{r:c8}(h:k7 r=true){l:d7}(hl:l∈r.Body):l.Atom.Args.length<=6:=by
 simp only[k7,W3,q0K]at h;have hb:=h.2 l hl;rw[a2W]at hb;cases hk:(l.Kind==3)<;>rw[hk]at hb<;>simp only[z0B,K7,beq_iff_eq,a4p]at hb<;>omega
def d4x{r:c8}{l:d7}(hl:l∈r.Body)(hk:(l.Kind==1)=true){x:List UInt8}(hx:x∈p7 l.Atom.Args):Bd r x:=by
 obtain⟨t,ht,hv,rfl⟩:=a0u.1 hx;exact Bd.base hl hk ht hv
def bd_step{r:c8}{l:d7}(hl:l∈r.Body)(he:a0R l=true)(hB:∀v∈out,Bd r v)(hk:(u1 out l.A||u1 out l.B)=true){x:List UInt8}(hx:x∈p7 [l.A,l.B]):Bd r x:=by
 obtain⟨t,ht,hv,rfl⟩:=a0u.1 hx;have hA:u1 out l.A=true->a0C l.A=false\/Bd r l.A.Var:=by
  intro h;simp only[u1,q2Q,q2F]at h;rcases h with h|h
  ·exact .inl (by simp[a0C,h])
  ·exact .inr (hB _ h)
 have hBB:u1 out l.B=true->a0C l.B=false\/Bd r l.B.Var:=by
  intro h;simp only[u1,q2Q,q2F]at h;rcases h with h|h
  ·exact .inl (by simp[a0C,h])
  ·exact .inr (hB _ h)
 simp only[q2Q]at hk;simp only[V9,q4R,or_false]at ht;rcases ht with rfl|rfl
 ·rcases hk with h|h
  ·rcases hA h with h|h
   ·rw[h]at hv;cases hv
   ·exact h
  ·rcases hBB h with h|h
   ·exact Bd.leftV hl he hv h
   ·exact Bd.leftB hl he hv h
 ·rcases hk with h|h
  ·rcases hA h with h|h
   ·exact Bd.rightV hl he hv h
   ·exact Bd.rightB hl he hv h
  ·rcases hBB h with h|h
   ·rw[h]at hv;cases hv
   ·exact h
def b6f(r:c8):spZ 286 [(true,[.i .i64 r.Kind,.s r.Head.Name,l8 r.Head.Args,a0g r.Body])] [] (.one (false,[a3z (bif k7 r then a2x r else[])])):=by
 refine sx' false true none Tryz.func286 (q' 1 [aX 4 0,ao (.mov (.k (.v false [.nl [.s []]])))] (q' 8 [ao (.bsl 1 0 [.s] []),aV 3] (.seq (q' 9 [ae 4 1,ac 282 [9],aO 10] (ci 11 (q' 12 [am 3,aV 2] .ret))) (.seq (q' 13 [aG 3 1,aN,aK 0] (fO 0 17 [ar 16 15] 17 1 (q' 18 [am 16,aV 4] (q' 19 [aG 3 1,am 4,aI 10,aG 0 22,aC .eql 24 1] (ci 25 (g' 26 [am 3,aG 3 1,am 4,aI 10,aF 1,aG 1 31,ac 338 [26,33],aV 3])))) (g' 35 [aA 16]))) (.seq (q' 5 [ao (.mov (.k (.v false [.c (.i .i64 (-1))])))] (lO 2 (.seq (q' 36 [aM [5,3],aN,ar 36 38] (cd 39 .skip (.exit 2))) (.block 3 (q' 40 [am 3,aN,aV 5] (q' 42 [aG 3 1,aN,aK 0] (fO 4 46 [ar 45 44] 46 5 (q' 47 [am 45,aV 6] (q' 48 [aG 3 1,am 6,aI 10,aE 10,ax (w' 7 [.i .i64,.s,.sl j5,.i .i64,.s,.i .i64,.s,.s,.i .i64,.s]),aS 10 7 52] (q' 53 [aG 0 7,aC .eql 54 3,am 55,aH 56 true [bf 3 7,bL,bC .eql 58 1],aP 56 59,am 60,aH 61 true [bm 3,bf 4 7,bE 3,bc 339 [62,64],bm 65],aH 66 false [bm 3,bf 7 7,bE 3,bc 339 [67,69]],aH 61 true [bQ 66 70],aP 61 71] (ci 72 (g' 73 [am 3,af 4 7,aE 3,af 7 7,aE 3,ao (.bsl 3 2 [.s,.i .i64,.s] [(0,.t 75),(1,.t 77)]),ac 338 [73,78],aV 3]))))) (g' 80 [aA 45])))))))) (q' 81 [am 3,aV 2] .ret)))))) [.t 2] [(282,[],a1N),(338,[0],a2J),(339,[],a8h)] ?_;intro hb hE;simp only[go_sem];repeat' first|apply cj'|intro hc|exact om'|fail
 ·rw[hc];rfl
 have hR:k7 r=true:=hc;have hb8:r.Body.length<=8:=by
  simp only[k7,K7]at hR;omega
 rw[hR];clear hc;refine lk' false [(false,3,0,100006)] [1,15] [2] [] (fun i:{p:Nat×List (List UInt8) // p.1<=r.Body.length/\SS sLt p.2/\(∀v∈p.2,Bd r v)/\∀l∈r.Body.take p.1,(l.Kind==1)=true->∀x∈p7 l.Atom.Args,x∈p.2}=>[(3,.v false [.ow 100006]),(16,slV (.i .i64 i.1.1))]) nl' (fun i=>[(100006,[.s []],i.1.2.map a0E)]) (fun i=>r.Body.length-i.1.1) (⟨(0,[]),z0D,SS.nil,z0D,z0D⟩) ?_;intro S0 hS0 i;obtain⟨⟨i,o⟩,hi,hs,hB,hI⟩:=i;simp only at hi hs hB hI;have hlen:=d2N hR hs hB;simp only[go_sem,hS0];repeat' first|apply cj'|intro hc|exact om'|fail
 ·have:=a7a hR (l:=r.Body.getD i default) z04;omega
 ·have hm:r.Body.getD i default∈r.Body:=by rw[j7 default z0C];exact q1E _
  have h2:∀v∈m8 sLt o (p7 (r.Body.getD i default).Atom.Args),Bd r v:=fun v hv=>(o8.1 hv).elim (hB v) (d4x hm hc)
  have h3:∀l∈r.Body.take (i+1),(l.Kind==1)=true->∀x∈p7 l.Atom.Args,x∈m8 sLt o (p7 (r.Body.getD i default).Atom.Args):=by
   intro l hl hk x hx;rw[j3 default z0C,W9,q0A]at hl;rcases hl with hl|rfl
   ·exact o8.2 (.inl (hI l hl hk x hx))
   ·exact o8.2 (.inr hx)
  exact nk0 ⟨(i+1,m8 sLt o (p7 (r.Body.getD i default).Atom.Args)),z0F,SS.puts o0 hs,h2,h3⟩
 ·have h3:∀l∈r.Body.take (i+1),(l.Kind==1)=true->∀x∈p7 l.Atom.Args,x∈o:=by
   intro l hl hk x hx;rw[j3 default z0C,W9,q0A]at hl;rcases hl with hl|rfl
   ·exact hI l hl hk x hx
   ·rw[hc]at hk;cases hk
  exact nk0 ⟨(i+1,o),z0F,hs,hB,h3⟩
 rw[i4 z0C]at hI;clear hc hi;refine lk' false [(false,3,0,100006)] [1] [2] [] (fun i:{p:Int×List (List UInt8) // -1<=p.1/\p.1<=p.2.length/\SS sLt p.2/\(∀v∈p.2,Bd r v)/\a3I r p.2/\(p.1=p.2.length->∀l∈r.Body,a0F p.2 l)}=>[(3,.v false [.ow 100006]),(5,slV (.i .i64 i.1.1))]) nl' (fun i=>[(100006,[.s []],i.1.2.map a0E)]) (fun i=>(64-i.1.1).toNat) (⟨(-1,o),z0D,z0F,hs,hB,hI,by intro h;simp only at h;omega⟩) ?_;intro S1 hS1 i;obtain⟨⟨n,o1⟩,hn0,hn,hs1,hB1,hI1,hC1⟩:=i;simp only at hn0 hn hs1 hB1 hI1 hC1;have hlen1:=d2N hR hs1 hB1;simp only[go_sem,hS0,hS1];repeat' first|apply cj'|intro hc|exact om'|fail
 ·skip
  refine lk' false [(false,3,0,100006)] [1,5,44] [2] [] (fun i:{p:Nat×List (List UInt8) // p.1<=r.Body.length/\SS sLt p.2/\(∀v∈p.2,Bd r v)/\a3I r p.2/\o1.length<=p.2.length/\(p.2.length=o1.length->∀l∈r.Body.take p.1,a0F p.2 l)}=>[(3,.v false [.ow 100006]),(45,slV (.i .i64 i.1.1))]) nl' (fun i=>[(100006,[.s []],i.1.2.map a0E)]) (fun i=>r.Body.length-i.1.1) (⟨(0,o1),z0D,hs1,hB1,hI1,z0D,z0D⟩) ?_;intro S2 hS2 i;obtain⟨⟨i,o2⟩,hi,hs2,hB2,hI2,hge,hC2⟩:=i;simp only at hi hs2 hB2 hI2 hge hC2;have hlen2:=d2N hR hs2 hB2;simp only[go_sem,hS0,hS1,hS2];repeat' first|apply cj'|intro hc|exact om'|fail
  ·have hm:r.Body.getD i default∈r.Body:=by rw[j7 default z0C];exact q1E _
   have he:a0R (r.Body.getD i default)=true:=by rw[a0R,hc.1.1,hc.1.2];rfl
   have hk:(u1 o2 (r.Body.getD i default).A||u1 o2 (r.Body.getD i default).B)=true:=by rw[q2Q];exact hc.2
   have hg:=d6m sLt (p7 [(r.Body.getD i default).A,(r.Body.getD i default).B]) o2;have h2:∀v∈m8 sLt o2 (p7 [(r.Body.getD i default).A,(r.Body.getD i default).B]),Bd r v:=fun v hv=>(o8.1 hv).elim (hB2 v) (bd_step hm he hB2 hk)
   have h3:a3I r (m8 sLt o2 (p7 [(r.Body.getD i default).A,(r.Body.getD i default).B])):=fun l hl hk x hx=>o8.2 (.inl (hI2 l hl hk x hx))
   have h4:(m8 sLt o2 (p7 [(r.Body.getD i default).A,(r.Body.getD i default).B])).length=o1.length->∀l∈r.Body.take (i+1),a0F (m8 sLt o2 (p7 [(r.Body.getD i default).A,(r.Body.getD i default).B])) l:=by
    intro hq l hl;have hs3:=d8C (lt:=sLt) (r:=p7 [(r.Body.getD i default).A,(r.Body.getD i default).B]) (l:=o2) z0C;rw[hs3.1];rw[j3 default z0C,W9,q0A]at hl;rcases hl with hl|rfl
    ·exact hC2 z0C l hl
    ·exact fun _ _=>hs3.2
   (refine lpK_n2 (⟨(i+1,m8 sLt o2 (p7 [(r.Body.getD i default).A,(r.Body.getD i default).B])),z0F,SS.puts o0 hs2,h2,h3,z0F,h4⟩) _ z0L ?_;simp only[go_sem,hS0,hS1,hS2]<;>repeat' first|apply W6|exact on'|fail)
  ·have h4:o2.length=o1.length->∀l∈r.Body.take (i+1),a0F o2 l:=by
    intro hq l hl;rw[j3 default z0C,W9,q0A]at hl;rcases hl with hl|rfl
    ·exact hC2 hq l hl
    ·intro h5 h6;rw[a0R]at h5;rw[h5,h6]at hc;cases hc
   (refine lpK_n2 (⟨(i+1,o2),z0F,hs2,hB2,hI2,hge,h4⟩) _ z0L ?_;simp only[go_sem,hS0,hS1,hS2]<;>repeat' first|apply W6|exact on'|fail)
  ·have h4:(o1.length:Int)=o2.length->∀l∈r.Body,a0F o2 l:=by
    intro hq l hl;rw[i4 z0C]at hC2;exact hC2 z0C l hl
   (refine lpK_n2 (⟨((o1.length:Int),o2),z0F,z0F,hs2,hB2,hI2,h4⟩) _ z0L ?_;simp only[go_sem,hS0,hS1,hS2]<;>repeat' first|apply W6|exact on'|fail)
 ·rw[d2P hs1 hB1 hI1 (hC1 z0C)]<;>rfl
noncomputable def a6C:CT:=j8 (fun(x:c8)=>b6f x)
@[go_sem] def d1L:=fun x0 x1 x2 x3=>nm' (fQ' a6C rfl ⟨x0,⟨x1,x2⟩,x3⟩)
def miss(r:c8)(out:List (List UInt8)):Nat:=((a8v r).filter fun v=>!out.contains v).length
def b9y(r:c8)(out:List (List UInt8)):miss r out<=(a8v r).length:=q1X _ _
def b5B{α:Type}{p q:α->Bool}:∀{l:List α},(∀x,q x=true->p x=true)->(∃x∈l,p x=true/\q x=false)->(l.filter q).length<(l.filter p).length
 | [],_,h=>by obtain⟨x,hx,_⟩:=h;simp at hx
 | a::l,hpq,h=>by
   have hle:(l.filter q).length<=(l.filter p).length:=by
    clear h
    induction l with
    | nil=>simp
    | cons b l ih=>
      have:=hpq b;cases hq:q b<;>cases hp:p b<;>simp_all<;>omega
   obtain⟨x,hx,h1,h2⟩:=h;rcases V9.1 hx with rfl|hx
   ·simp only[q4E,h1,h2,if_true,q2S,if_false,V7];omega
   ·have ih:=b5B (l:=l) hpq ⟨x,hx,h1,h2⟩;have:=hpq a;cases hq:q a<;>cases hp:p a<;>simp_all<;>omega
def miss_lt{r:c8}(hv:v∈a8v r)(hn:out.contains v=false):miss r (out++[v])<miss r out:=by
 refine b5B (fun x hx=>?_) ⟨v,hv,by rw[hn];rfl,z0D⟩;simp only[q0M,q5G,W9,q1J,not_or]at hx ⊢;exact hx.1
def c6r(l:List d5):(a8t l).length<=l.length:=by
 have h1:=a0M sLt (p7 l) [];have h2:=a2V l;simp only[q1Z]at h1;unfold a8t;omega
def c6f{l:List d5}{x:List UInt8}:x∈a8t l↔x∈p7 l:=by
 rw[a8t,o8];simp
def d7Z{o:List (List UInt8)}{l:d7}(h0:u1 o l.B=true->a0C l.A=true->l.A.Var∈o)(h1:u1 o l.A=true->a0C l.B=true->l.B.Var∈o):a0F o l:=by
 intro _ hk x hx;obtain⟨t,ht,hv,rfl⟩:=a0u.1 hx;have hs:∀t:d5,a0C t=true->u1 o t=true->t.Var∈o:=by
  intro t hv h;simp only[u1,q2Q,q2F]at h;rcases h with h|h
  ·simp[a0C,h]at hv
  ·exact h
 simp only[V9,q4R,or_false]at ht;rw[q2Q]at hk;rcases ht with rfl|rfl
 ·rcases hk with h|h
  ·exact hs _ hv h
  ·exact h0 h hv
 ·rcases hk with h|h
  ·exact h1 h hv
  ·exact hs _ hv h
def c9k{r:c8}(hV:(a8v r).length<=64){o1 o3:List (List UInt8)}{g3:Bool}(hl:o3.length+miss r o3<=112)(hB:∀v∈o3,Bd r v)(hI:a3I r o3)(hC:g3=false->o3=o1)(hM:g3=true->miss r o3<miss r o1)(hv:Bd r v)(hn:o3.contains v=false):(o3++[v]).length+miss r (o3++[v])<=112/\(∀x∈o3++[v],Bd r x)/\a3I r (o3++[v])/\miss r (o3++[v])<miss r o1:=by
 have h1:=miss_lt hv.all hn;refine⟨by simp only[V5,V7,q1Z];omega,fun x hx=>?_,fun l hl hk x hx=>W9.2 (.inl (hI l hl hk x hx)), ?_⟩
 ·rcases W9.1 hx with h|h
  ·exact hB x h
  ·rw[q0A.1 h];exact hv
 ·cases g3 with
  | false=>rw[hC rfl]at h1 ⊢;exact h1
  | true=>have:=hM rfl;omega
def c7M(r:c8)(hpre:k7 r=true):spZ 300 [(true,[.i .i64 r.Kind,.s r.Head.Name,l8 r.Head.Args,a0g r.Body])] [] (.one (false,[b1m (a2x r)])):=by
 refine sy' Tryz.func300 (q' 1 [aX 4 0,ao (.mov (.k (.v false [.nl [.s []]])))] (q' 12 [ao (.bsl 1 0 [.s] []),aV 3] (.seq (q' 13 [aG 3 1,aN,aK 0] (fO 0 17 [ar 16 15] 17 1 (q' 18 [ai 10 14 16,aE 10,ax (w' 5 [.i .i64,.s,.sl j5,.i .i64,.s,.i .i64,.s,.s,.i .i64,.s]),aS 10 5 19] (q' 20 [aG 0 5,aC .eql 21 1] (ci 22 (g' 23 [am 3,af 1 5,aG 1 24,ac 359 [26],ao (.app 1 16 [.s] (.t 23) (.t 27)),aV 3])))) (g' 29 [aA 16]))) (.seq (q' 6 [aU true] (lO 2 (.seq (q' 30 [am 6] (cd 30 .skip (.exit 2))) (.block 3 (q' 6 [aU false] (q' 31 [aG 3 1,aN,aK 0] (fO 4 35 [ar 34 33] 35 5 (q' 36 [ai 10 32 34,aE 10,ax (w' 8 [.i .i64,.s,.sl j5,.i .i64,.s,.i .i64,.s,.s,.i .i64,.s]),aS 10 8 37] (.seq (q' 38 [aG 0 8,aC .neq 39 3,am 40,aH 41 false [bf 3 8,bL,bC .neq 43 1],aQ 41 44] (ci 45 (.exit 5))) (q' 46 [af 4 8,aE 3,af 7 8,aE 3,ao (.bld [.s,.i .i64,.s,.s,.i .i64,.s] [(0,3,.t 47),(3,3,.t 49)]),af 7 8,aE 3,af 4 8,aE 3,ao (.bld [.s,.i .i64,.s,.s,.i .i64,.s] [(0,3,.t 52),(3,3,.t 54)]),ao (.bsl 6 2 [.s,.i .i64,.s,.s,.i .i64,.s] [(0,.t 50),(1,.t 55)]),aN,aK 0] (fO 6 59 [ar 58 57] 59 7 (q' 60 [ai 6 56 58,aE 6,ax (w' 10 [.s,.i .i64,.s,.s,.i .i64,.s]),aS 6 10 61] (q' 62 [ao (.ib 2 3 (.t 10) (k' 1)),aG 0 62,aY .eql 64 [],am 65,aH 66 false [bm 3,bo (.ib 2 3 (.t 10) (k' 1)),bF 0,bL,bc 304 [67,70]],aQ 66 71,aV 11] (q' 73 [aM [11,73],aH 74 true [bo (.ib 2 3 (.t 10) (k' 0)),bF 0,bL,bY .neq 77 []],aP 74 78,am 79,aH 80 true [bm 3,bo (.ib 2 3 (.t 10) (k' 0)),bF 0,bL,bc 304 [81,84],bO 85],aP 80 86] (ci 87 (q' 88 [am 3,ao (.ib 2 3 (.t 10) (k' 0)),aG 0 89,ao (.bsl 1 1 [.s] [(0,.t 91)]),ao (.app 1 16 [.s] (.t 88) (.t 92)),aV 3] (g' 6 [aU true])))))) (g' 94 [aA 58]))))) (g' 95 [aA 34])))))))) (q' 96 [am 3,ac 360 [96]] (q' 98 [am 3,ac 361 [98],aV 2] .ret)))))) [.t 2] [(359,[],a5M),(304,[],e0q),(360,[0],b5t),(361,[0],c0P)] ?_;intro hb hE;have hb8:r.Body.length<=8:=by
  simp only[k7,K7]at hpre;omega
 have hV:=a4n hpre;simp only[go_sem];repeat' first|apply cj'|intro hc|exact om'|fail
 refine lk' false [(false,3,0,100006)] [1,14,15] [2] [] (fun i:{p:Nat×List (List UInt8) // p.1<=r.Body.length/\p.2.length<=6*p.1/\(∀v∈p.2,Bd r v)/\∀l∈r.Body.take p.1,(l.Kind==1)=true->∀x∈p7 l.Atom.Args,x∈p.2}=>[(3,.v false [.ow 100006]),(16,slV (.i .i64 i.1.1))]) nl' (fun i=>[(100006,[.s []],i.1.2.map a0E)]) (fun i=>r.Body.length-i.1.1) (⟨(0,[]),z0D,z0D,z0D,z0D⟩) ?_;intro S0 hS0 i;obtain⟨⟨i,o⟩,hi,hlen,hB,hI⟩:=i;simp only at hi hlen hB hI;simp only[go_sem,hS0];repeat' first|apply cj'|intro hc|exact om'|fail
 ·have:=a7a hpre (l:=r.Body.getD i default) z04;omega
 ·have:=a7a hpre (l:=r.Body.getD i default) z04;have:=c6r (r.Body.getD i default).Atom.Args;omega
 ·have hm:r.Body.getD i default∈r.Body:=by rw[j7 default z0C];exact q1E _
  have h6:=a7a hpre hm;have hv6:=c6r (r.Body.getD i default).Atom.Args;have h2:∀v∈o++a8t (r.Body.getD i default).Atom.Args,Bd r v:=fun v hv=>(W9.1 hv).elim (hB v) fun h=>d4x hm hc (c6f.1 h)
  have h3:∀l∈r.Body.take (i+1),(l.Kind==1)=true->∀x∈p7 l.Atom.Args,x∈o++a8t (r.Body.getD i default).Atom.Args:=by
   intro l hl hk x hx;rw[j3 default z0C,W9,q0A]at hl;rcases hl with hl|rfl
   ·exact W9.2 (.inl (hI l hl hk x hx))
   ·exact W9.2 (.inr (c6f.2 hx))
  (refine lpK_n2 (⟨(i+1,o++a8t (r.Body.getD i default).Atom.Args),z0F,by simp only[V5];omega,h2,h3⟩) _ z0E ?_;simp only[go_sem,hS0]<;>repeat' first|apply W6|exact on'|fail)
  all_goals rw[q1F]
 ·have h3:∀l∈r.Body.take (i+1),(l.Kind==1)=true->∀x∈p7 l.Atom.Args,x∈o:=by
   intro l hl hk x hx;rw[j3 default z0C,W9,q0A]at hl;rcases hl with hl|rfl
   ·exact hI l hl hk x hx
   ·rw[hc]at hk;cases hk
  exact nk0 ⟨(i+1,o),z0F,z0F,hB,h3⟩
 rw[i4 z0C]at hI;clear hc;have hms:=b9y r o;refine lk' false [(false,3,0,100006)] [1] [2] [] (fun i:{p:Bool×List (List UInt8) // p.2.length+miss r p.2<=112/\(∀v∈p.2,Bd r v)/\a3I r p.2/\(p.1=false->∀l∈r.Body,a0F p.2 l)}=>[(3,.v false [.ow 100006]),(6,slV (.b i.1.1))]) nl' (fun i=>[(100006,[.s []],i.1.2.map a0E)]) (fun i=>2*miss r i.1.2+(bif i.1.1 then 1 else 0)) (⟨(true,o),z0F,hB,hI,by intro h;cases h⟩) ?_;intro S1 hS1 i;obtain⟨⟨g,o1⟩,hl1,hB1,hI1,hC1⟩:=i;simp only at hl1 hB1 hI1 hC1;simp only[go_sem,hS0,hS1];repeat' first|apply cj'|intro hc|exact om'|fail
 ·skip
  refine lk' false [(false,3,0,100006)] [1,32,33] [2] [] (fun i:{p:Nat×Bool×List (List UInt8) // p.1<=r.Body.length/\p.2.2.length+miss r p.2.2<=112/\(∀v∈p.2.2,Bd r v)/\a3I r p.2.2/\(p.2.1=false->p.2.2=o1/\∀l∈r.Body.take p.1,a0F o1 l)/\(p.2.1=true->miss r p.2.2<miss r o1)}=>[(3,.v false [.ow 100006]),(6,slV (.b i.1.2.1)),(34,slV (.i .i64 i.1.1))]) nl' (fun i=>[(100006,[.s []],i.1.2.2.map a0E)]) (fun i=>r.Body.length-i.1.1) (⟨(0,false,o1),z0D,hl1,hB1,hI1,z0D,by intro h;cases h⟩) ?_;intro S2 hS2 i;obtain⟨⟨i,g2,o2⟩,hi2,hl2,hB2,hI2,hC2,hM2⟩:=i;simp only at hi2 hl2 hB2 hI2 hC2 hM2;simp only[go_sem,hS0,hS1,hS2];repeat' first|apply cj'|intro hc|exact om'|fail
  ·have h3:g2=false->o2=o1/\∀l∈r.Body.take (i+1),a0F o1 l:=by
    intro hg;refine⟨(hC2 hg).1,fun l hl=>?_⟩;rw[j3 default z0C,W9,q0A]at hl;rcases hl with hl|rfl
    ·exact(hC2 hg).2 l hl
    ·intro h5;simp only[a0R,W3]at h5;rcases hc with h|h
     ·simp only[bne,h5.1]at h;cases h
     ·simp only[bne,h5.2]at h;cases h
   (refine lpK_n2 (⟨(i+1,g2,o2),z0F,hl2,hB2,hI2,h3,hM2⟩) _ z0L ?_;simp only[go_sem,hS0,hS1,hS2]<;>repeat' first|apply W6|exact on'|fail)
  ·skip
   refine lk' false [(false,3,0,100006)] [1,32,33,34,56,57] [2] [7168] (fun i:{p:Nat×Bool×List (List UInt8) // p.1<=2/\p.2.2.length+miss r p.2.2<=112/\(∀v∈p.2.2,Bd r v)/\a3I r p.2.2/\(p.2.1=false->p.2.2=o1/\(∀l∈r.Body.take i,a0F o1 l)/\(0<p.1->u1 o1 (r.Body.getD i default).B=true->a0C (r.Body.getD i default).A=true->(r.Body.getD i default).A.Var∈o1)/\(1<p.1->u1 o1 (r.Body.getD i default).A=true->a0C (r.Body.getD i default).B=true->(r.Body.getD i default).B.Var∈o1))/\(p.2.1=true->miss r p.2.2<miss r o1)}=>[(3,.v false [.ow 100006]),(6,slV (.b i.1.2.1)),(58,slV (.i .i64 i.1.1))]) nl' (fun i=>[(100006,[.s []],i.1.2.2.map a0E)]) (fun i=>2-i.1.1) (⟨(0,g2,o2),z0D,hl2,hB2,hI2,fun hg=>⟨(hC2 hg).1,(hC2 hg).2,z0D,z0D⟩,hM2⟩) ?_;intro S3 hS3 i;obtain⟨⟨k,g3,o3⟩,hk3,hl3,hB3,hI3,hC3,hM3⟩:=i;simp only at hk3 hl3 hB3 hI3 hC3 hM3;have hm:r.Body.getD i default∈r.Body:=by rw[j7 default z0C];exact q1E _
   have he:a0R (r.Body.getD i default)=true:=by
    simp only[bne,q0Q]at hc;rw[a0R,hc.1,hc.2];rfl
   rcases(show k=0\/k=1\/k=2 by omega)with rfl|rfl|rfl
   ·simp only[go_sem,hS0,hS1,hS2,hS3];repeat' first|apply cj'|intro hc|exact om'|fail
    ·have hv:Bd r (r.Body.getD i default).A.Var:=by
      rcases hc.1.1 with h|h
      ·exact Bd.leftV hm he z16 (by rw[a0C,h];rfl)
      ·exact Bd.leftB hm he z16 (hB3 _ (q2F.1 h))
     have ha:=c9k hV hl3 hB3 hI3 (fun hg=>(hC3 hg).1) hM3 hv hc.2
     (refine lpK_n2 (⟨(1,true,o3++[(r.Body.getD i default).A.Var]),z0D,ha.1,ha.2.1,ha.2.2.1,fun h=>absurd h z0D,fun _=>ha.2.2.2⟩) _ z0R ?_;simp only[go_sem,hS0,hS1,hS2,hS3]<;>repeat' first|apply W6|exact on'|fail)
     all_goals rw[q1F];rfl
    ·have h9:g3=false->u1 o1 (r.Body.getD i default).B=true->a0C (r.Body.getD i default).A=true->(r.Body.getD i default).A.Var∈o1:=by
      intro hg h5 h6;rw[<-(hC3 hg).1]at h5 ⊢;rw[u1]at h5;simp only[a0C]at h6;rw[h5,h6]at hc;simpa using hc
     (refine lpK_n2 (⟨(1,g3,o3),z0D,hl3,hB3,hI3,fun hg=>⟨(hC3 hg).1,(hC3 hg).2.1,fun _=>h9 hg,z0D⟩,hM3⟩) _ z0R ?_;simp only[go_sem,hS0,hS1,hS2,hS3]<;>repeat' first|apply W6|exact on'|fail)
   ·simp only[go_sem,hS0,hS1,hS2,hS3];repeat' first|apply cj'|intro hc|exact om'|fail
    ·have hv:Bd r (r.Body.getD i default).B.Var:=by
      rcases hc.1.1 with h|h
      ·exact Bd.rightV hm he z16 (by rw[a0C,h];rfl)
      ·exact Bd.rightB hm he z16 (hB3 _ (q2F.1 h))
     have ha:=c9k hV hl3 hB3 hI3 (fun hg=>(hC3 hg).1) hM3 hv hc.2
     (refine lpK_n2 (⟨(2,true,o3++[(r.Body.getD i default).B.Var]),z0D,ha.1,ha.2.1,ha.2.2.1,fun h=>absurd h z0D,fun _=>ha.2.2.2⟩) _ z0R ?_;simp only[go_sem,hS0,hS1,hS2,hS3]<;>repeat' first|apply W6|exact on'|fail)
     all_goals rw[q1F];rfl
    ·have h9:g3=false->u1 o1 (r.Body.getD i default).A=true->a0C (r.Body.getD i default).B=true->(r.Body.getD i default).B.Var∈o1:=by
      intro hg h5 h6;rw[<-(hC3 hg).1]at h5 ⊢;rw[u1]at h5;simp only[a0C]at h6;rw[h5,h6]at hc;simpa using hc
     (refine lpK_n2 (⟨(2,g3,o3),z0D,hl3,hB3,hI3,fun hg=>⟨(hC3 hg).1,(hC3 hg).2.1,(fun _=>(hC3 hg).2.2.1 z0D),fun _=>h9 hg⟩,hM3⟩) _ z0R ?_;simp only[go_sem,hS0,hS1,hS2,hS3]<;>repeat' first|apply W6|exact on'|fail)
   ·simp only[go_sem,hS0,hS1,hS2,hS3];repeat' first|apply cj'|intro hc|exact om'|fail
    have h9:g3=false->o3=o1/\∀l∈r.Body.take (i+1),a0F o1 l:=by
     intro hg;obtain⟨h5,h6,h7,h8⟩:=hC3 hg;refine⟨h5,fun l hl=>?_⟩;rw[j3 default z0C,W9,q0A]at hl;rcases hl with hl|rfl
     ·exact h6 l hl
     ·exact d7Z (h7 z0D) (h8 z0D)
    (refine lpK_n2 (⟨(i+1,g3,o3),z0F,hl3,hB3,hI3,h9,hM3⟩) _ z0R ?_;simp only[go_sem,hS0,hS1,hS2,hS3]<;>repeat' first|apply W6|exact on'|fail)
  ·have h3:g2=false->∀l∈r.Body,a0F o2 l:=by
    intro hg l hl;have h5:=hC2 hg;rw[i4 z0C]at h5;rw[h5.1];exact h5.2 l hl
   cases g2 with
   | false=>
     have h7:=(hC2 rfl).1
     (refine lpK_n2 (⟨(false,o2),hl2,hB2,hI2,h3⟩) _ z0R ?_;simp only[go_sem,hS0,hS1,hS2]<;>repeat' first|apply W6|exact on'|fail)
     all_goals(subst h7;rw[show g=true by assumption];simp only[W8];omega)
   | true=>
     have h7:=hM2 rfl
     (refine lpK_n2 (⟨(true,o2),hl2,hB2,hI2,h3⟩) _ z0R ?_;simp only[go_sem,hS0,hS1,hS2]<;>repeat' first|apply W6|exact on'|fail)
     all_goals(rw[show g=true by assumption];simp only[W8];omega)
 ·rw[d2O hB1 hI1 (hC1 hc)]
noncomputable def b3f:CT:=k8 (fun(x:c8) h=>c7M x h)
@[go_sem] def d9f:=fun x0 x1 x2 x3=>nm' (fP' b3f rfl ⟨x0,⟨x1,x2⟩,x3⟩)
end Go.Aw
namespace Go.Aw
set_option maxHeartbeats 4000000
open Go.Proofs Go.Shelf Go.RowKit
attribute [local irreducible] aft blk lpK retK AW A0d
set_option linter.all false
set_option maxRecDepth 100000
def a4X(l:d7):List d5:=bif l.Kind==3 then[l.A,l.B]else l.Atom.Args
def d4r(r:c8):List d5:=r.Head.Args++r.Body.flatMap a4X
def a3Z(r:c8):List (List UInt8):=m8 sLt [] (p7 r.Head.Args++a8v r)
def d1l(a b:List d5):p7 (a++b)=p7 a++p7 b:=by simp[p7]
def d4u{l:d7}(h:a2W l=true):p7 (a4X l)=p7 l.Atom.Args++p7 [l.A,l.B]:=by
 rw[a2W]at h;rw[a4X];cases hk:(l.Kind==3)with
 | true=>
   rw[hk]at h;simp only[W8,W3,beq_iff_eq]at h ⊢;have:l.Atom.Args=[]:=q0I.1 z0C;rw[this];rfl
 | false=>
   rw[hk]at h;simp only[V2,W3,d1i,beq_iff_eq]at h ⊢;have h1:a0C l.A=false:=by simp[a0C,h.1.2.1]
   have h2:a0C l.B=false:=by simp[a0C,h.2.1]
   simp[p7,h1,h2]
def c6q:∀{b:List d7},(∀l∈b,a2W l=true)->p7 (b.flatMap a4X)=b.flatMap fun l=>p7 l.Atom.Args++p7 [l.A,l.B]
 | [],_=>rfl
 | l::b,h=>by
   rw[q2B,q2B,d1l,d4u (h l z0D),c6q fun x hx=>h x z0N]
def c3h{r:c8}(h:k7 r=true):∀l∈r.Body,a2W l=true:=by
 simp only[k7,W3,q0K]at h;exact h.2
def e1X{r:c8}(h:k7 r=true):a8t (d4r r)=a3Z r:=by
 rw[a8t,d4r,d1l,c6q (c3h h),a3Z,a8v]
def c3t{l:d7}(h:a2W l=true):(a4X l).length<=6:=by
 rw[a2W]at h;rw[a4X];cases hk:(l.Kind==3)with
 | true=>simp
 | false=>
   rw[hk]at h;simp only[V2,K7,a4p]at h ⊢;omega
def c6p:∀{b:List d7},(∀l∈b,a2W l=true)->(b.flatMap a4X).length<=6*b.length
 | [],_=>by simp
 | l::b,h=>by
   have h1:=c3t (h l z0D);have h2:=c6p (b:=b) fun x hx=>h x (by simp[hx])
   simp only[q2B,V5,V7];omega
def b3C{r:c8}(h:k7 r=true):r.Head.Args.length<=6/\r.Body.length<=8:=by
 simp only[k7,K7,a4p]at h;omega
noncomputable def e1z(r:c8):List (List UInt8):=(a3Z r).filter fun v=>!(a2x r).contains v
noncomputable def a5v(r:c8):List (List UInt8):=bif k7 r then e1z r else[]
def d8O{r:c8}(h:k7 r=true):(a3Z r).length<=128:=by
 have h1:=a0M sLt (p7 r.Head.Args++a8v r) [];have h2:=a2V r.Head.Args;have h3:=a4n h;have h4:=b3C h;simp only[V5,q1Z]at h1;rw[a3Z];omega
def d0r(l:List d5)(hpre:l.length<1099511627776):spZ 363 [(false,[.sl false [.s [],.i .i64 0,.s []] (l.map d5.cells)])] [] (.one (false,[.sl true [.s [],.i .i64 0,.s []] (l.map d5.cells)])):=by
 exact b0a (d:=[.s [],.i .i64 0,.s []]) Tryz.cloneTerm z0K (hi:=rfl) (hz0:=rfl) (hz1:=rfl) (bytes:=40) (hz2:=rfl) (hzs:=rfl) z00 (fun w=>rfl) _ z0X
noncomputable def b6Q:CT:=k8 (fun(x:(List d5)) h=>d0r x h)
@[go_sem] def e0p:=fun l=>nm' (fP' b6Q rfl l)
def c2d(l:d7):spZ 364 [(true,[.i .i64 l.Kind,.s l.Atom.Name,l8 l.Atom.Args,.i .i64 l.Op,.s l.A.Var,.i .i64 l.A.Val.N,.s l.A.Val.S,.s l.B.Var,.i .i64 l.B.Val.N,.s l.B.Val.S])] [] (.one (false,[l8 (a4X l)])):=by
 refine sx' false true none Tryz.func364 (q' 1 [aX 10 0,ao (.mov (.k (.v false [.nl j5])))] (.seq (q' 3 [aG 0 1,aC .eql 4 3] (ci 5 (q' 6 [af 4 1,aE 3,af 7 1,aE 3,ao (.bsl 3 2 [.s, .i .i64,.s] [(0,.t 7),(1,.t 9)]),aV 2] .ret))) (q' 11 [af 1 1,aG 1 11,aV 2] .ret))) [.t 2] [] ?_;intro hb hE;simp only[go_sem];repeat' first|apply cj'|intro hc|exact om'|fail
 all_goals(rw[a4X,hc];rfl)
noncomputable def a9e:CT:=j8 (fun(x:d7)=>c2d x)
@[go_sem] def d4Z:=fun x0 x1 x2 x3 x4 x5 x6 x7 x8 x9=>nm' (fQ' a9e rfl ⟨x0,⟨x1,x2⟩,x3,⟨x4,⟨x5,x6⟩⟩,⟨x7,⟨x8,x9⟩⟩⟩)
def c1s{β:Type}(f:d7->List β){b:List d7}{i:Nat}(h:i<b.length):(b.take (i+1)).flatMap f=(b.take i).flatMap f++f (b.getD i default):=by
 rw[j3 default h,q4C];simp
def c4J(r:c8)(hpre:k7 r=true):spZ 302 [(true,[.i .i64 r.Kind,.s r.Head.Name,l8 r.Head.Args,a0g r.Body])] [] (.one (false,[b1m (a3Z r)])):=by
 refine sy' Tryz.func302 (q' 1 [aX 4 0,ao (.mov (.k (.v false [.nl [.s []]])))] (q' 6 [af 1 1,aG 1 6,ac 363 [8],aV 3] (.seq (q' 10 [aG 3 1,aN,aK 0] (fO 0 14 [ar 13 12] 14 1 (q' 15 [ai 10 11 13,aE 10,ax (w' 5 [.i .i64,.s,.sl j5,.i .i64,.s,.i .i64,.s,.s,.i .i64,.s]),aS 10 5 16] (g' 17 [am 3,ae 10 5,ac 364 [18],ao (.app 3 40 [.s,.i .i64,.s] (.t 17) (.t 19)),aV 3])) (g' 21 [aA 13]))) (q' 22 [am 3,ac 359 [22],aV 2] .ret)))) [.t 2] [(363,[],b6Q),(364,[],a9e),(359,[],a5M)] ?_;intro hb hE;have hh:=b3C hpre;have hL:=c3h hpre;simp only[go_sem];repeat' first|apply cj'|intro hc|exact om'|fail
 refine lk' false [(false,3,0,100006)] [11,12] [] [] (fun i:{i:Nat // i<=r.Body.length}=>[(3,.v false [.ow 100006]),(13,slV (.i .i64 i.1))]) nl' (fun i=>[(100006,j5,(r.Head.Args++(r.Body.take i.1).flatMap a4X).map d5.cells)]) (fun i=>r.Body.length-i.1) (⟨0,z0D⟩) ?_;intro S0 hS0 i;obtain⟨i,hi⟩:=i;have h1:=c6p (b:=r.Body.take i) fun l hl=>hL l (q1V hl)
 rw[V1]at h1;simp only[go_sem,hS0];repeat' first|apply cj'|intro hc|exact om'|fail
 all_goals first
  | (have h2:=c3t (hL _ (A3w (d:=default) (show i<r.Body.length by omega)));(try simp only[V5]at*);omega)
  | ((refine lpK_n2 (⟨i+1,z0C⟩) _ z0E ?_;simp only[go_sem,hS0]<;>repeat' first|apply W6|exact on'|fail);rw[c1s a4X z0C];simp only[q1F,q0V];done)
  | (rw[i4 z0C,<-e1X hpre,d4r];done)
  | ((try simp only[V5]at*);omega)
  | trace_state
noncomputable def b0N:CT:=k8 (fun(x:c8) h=>c4J x h)
@[go_sem] def d7n:=fun x0 x1 x2 x3=>nm' (fP' b0N rfl ⟨x0,⟨x1,x2⟩,x3⟩)
@[go_sem] def l16T_nil(l:List d5):a2g [(false,[.sl false [.s []] []]),(false,[l8 l])]=some (0+l.length<1099511627776,[],.one (false,[a3z (m8 sLt [] (p7 l))])):=a4I [] l
@[go_sem] def l16T_two(a:List (List UInt8))(v1:List UInt8)(n1:Int)(s1 v2:List UInt8)(n2:Int)(s2:List UInt8):a2g [(false,[a3z a]),(false,[.sl false j5 [[.s v1,.i .i64 n1,.s s1],[.s v2,.i .i64 n2,.s s2]]])]=some (a.length+2<1099511627776,[],.one (false,[a3z (m8 sLt a (p7 [⟨v1,⟨n1,s1⟩⟩,⟨v2,⟨n2,s2⟩⟩]))])):=a4I a [⟨v1,⟨n1,s1⟩⟩,⟨v2,⟨n2,s2⟩⟩]
def d8B(l r s:List (List UInt8)):m8 sLt (m8 sLt l r) s=m8 sLt l (r++s):=by simp[m8,q3A]
def c5g(r:c8):spZ 287 [(true,[.i .i64 r.Kind,.s r.Head.Name,l8 r.Head.Args,a0g r.Body])] [] (.one (false,[a3z (bif k7 r then a3Z r else[])])):=by
 refine sx' false true none Tryz.func287 (q' 1 [aX 4 0,ao (.mov (.k (.v false [.nl [.s []]])))] (q' 5 [ao (.bsl 1 0 [.s] []),aV 3] (.seq (q' 6 [ae 4 1,ac 282 [6],aO 7] (ci 8 (q' 9 [am 3,aV 2] .ret))) (q' 10 [am 3,af 1 1,aG 1 11,ac 338 [10,13],aV 3] (.seq (q' 15 [aG 3 1,aN,aK 0] (fO 0 19 [ar 18 17] 19 1 (q' 20 [am 18,aV 4] (q' 21 [am 3,aG 3 1,am 4,aI 10,aF 1,aG 1 26,ac 338 [21,28],aV 3] (.rego [(true,0,m' 30 3),(true,1,f' 31 3 1),(true,2,l' 32 31),(true,3,m' 33 4),(true,4,i' 34 10 32 33),(true,5, f' 35 4 34),(true,6,e' 36 3 35),(true,7,f' 37 3 1),(true,8,l' 38 37),(false,9,m' 39 4),(false,10,i' 40 10 38 39),(false,11,f' 41 7 40), (false,12,e' 42 3 41),(false,13,o' 43 (.bsl 3 2 [.s,.i .i64,.s] [(0,.t 36),(1,.t 42)])),(false,14,c' 44 338 [30,43]),(false,15,m' 3 44)] [2, 3]))) (g' 45 [aA 18]))) (q' 46 [am 3,aV 2] .ret)))))) [.t 2] [(282,[],a1N),(338,[],a2g)] ?_;intro hb hE;simp only[go_sem];repeat' first|apply cj'|intro hc|exact om'|fail
 ·rw[hc];rfl
 ·have:=b3C hc;omega
 have hR:k7 r=true:=hc;have hh:=b3C hR;have hA:=a4n hR;rw[hR];clear hc;refine lq' false [1,17] [2,3] [] (fun i:{i:Nat // i<=r.Body.length}=>[(3,.v false [.c (a3z (m8 sLt [] (p7 r.Head.Args++(r.Body.take i.1).flatMap fun l=>p7 l.Atom.Args++p7 [l.A,l.B])))]),(18,slV (.i .i64 i.1))]) nl' nl' (fun i=>r.Body.length-i.1) (⟨0,z0D⟩) ?_;intro S0 hS0 i;obtain⟨i,hi⟩:=i;have hp:=a0M sLt (p7 r.Head.Args++(r.Body.take i).flatMap fun l=>p7 l.Atom.Args++p7 [l.A,l.B]) [];have hv:=a2V r.Head.Args;have hf:((r.Body.take i).flatMap fun l=>p7 l.Atom.Args++p7 [l.A,l.B]).length<=64:=by
  refine q2X ?_ hA;have e:a8v r=((r.Body.take i).flatMap fun l=>p7 l.Atom.Args++p7 [l.A,l.B])++(r.Body.drop i).flatMap fun l=>p7 l.Atom.Args++p7 [l.A,l.B]:=by
   rw[<-q4C,q1K];rfl
  rw[e,V5];omega
 simp only[V5,q1Z]at hp;have h2:=a0M sLt (p7 (r.Body.getD i default).Atom.Args) (m8 sLt [] (p7 r.Head.Args++(r.Body.take i).flatMap fun l=>p7 l.Atom.Args++p7 [l.A,l.B]));have h3:=a2V (r.Body.getD i default).Atom.Args;simp only[go_sem,hS0];repeat' first|apply cj'|intro hc|exact om'|fail
 all_goals first
  | (have hq:=a7a hR (A3w (d:=default) (show i<r.Body.length by omega));omega)
  | ((refine lpK_n2 (⟨i+1,z0C⟩) _ rfl ?_;simp only[go_sem,hS0]<;>repeat' first|apply W6|exact on'|fail);rw[show((r.Body.take (i+1)).flatMap fun l=>p7 l.Atom.Args++p7 [l.A,l.B])=_ from c1s _ z0C];simp only[d8B,q0V];done)
  | ((refine lpK_n2 (⟨i+1,z0C⟩) _ rfl ?_;simp only[go_sem,hS0]<;>repeat' first|apply W6|exact on'|fail);trace_state)
  | (rw[i4 z0C];rfl)
  | trace_state
noncomputable def b1b:CT:=j8 (fun(x:c8)=>c5g x)
@[go_sem] def d7K:=fun x0 x1 x2 x3=>nm' (fQ' b1b rfl ⟨x0,⟨x1,x2⟩,x3⟩)
def b6i(r:c8):spZ 246 [(true,[.i .i64 r.Kind,.s r.Head.Name,l8 r.Head.Args,a0g r.Body])] [] (.one (false,[a3z (a5v r)])):=by
 refine sx' false true none Tryz.func246 (q' 1 [aX 4 0,ao (.mov (.k (.v false [.nl [.s []]])))] (q' 7 [ae 4 1,ac 286 [7],aV 3] (q' 9 [ao (.bsl 1 0 [.s] []),aV 4] (.seq (q' 10 [ae 4 1,ac 287 [10],aN,aK 0] (fO 0 14 [ar 13 12] 14 1 (q' 15 [ai 1 11 13,aL,aV 6] (q' 17 [aM [3,6],ac 288 [17,18],aO 19] (ci 20 (g' 21 [aM [4,6],ao (.bsl 1 1 [.s] [(0,.t 22)]),ao (.app 1 16 [.s] (.t 21) (.t 23)),aV 4])))) (g' 25 [aA 13]))) (q' 26 [am 4,aV 2] .ret))))) [.t 2] [(286,[],a6C),(287,[],b1b),(288,[],a5X)] ?_;intro hb hE;have hlv:(bif k7 r then a3Z r else[]).length<=128:=by
  cases h:k7 r with
  | true=>exact d8O h
  | false=>exact q2H _
 simp only[go_sem];repeat' first|apply cj'|intro hc|exact om'|fail
 refine lk' false [(false,4,0,100008)] [3,11,12] [] [] (fun i:{i:Nat // i<=(bif k7 r then a3Z r else[]).length}=>[(4,.v false [.ow 100008]),(13,slV (.i .i64 i.1))]) nl' (fun i=>[(100008,[.s []],(((bif k7 r then a3Z r else[]).take i.1).filter fun v=>!(bif k7 r then a2x r else[]).contains v).map a0E)]) (fun i=>(bif k7 r then a3Z r else[]).length-i.1) (⟨0,z0D⟩) ?_;intro S0 hS0 i;obtain⟨i,hi⟩:=i;have hf:=q1X (fun v=>!(bif k7 r then a2x r else[]).contains v) ((bif k7 r then a3Z r else[]).take i);rw[V1]at hf;simp only[go_sem,hS0];repeat' first|apply cj'|intro hc|exact om'|fail
 all_goals first
  | omega
  | (have hc2:(fun v=>!(bif k7 r then a2x r else[]).contains v) ((bif k7 r then a3Z r else[]).getD i [])=true:=by(first|exact hc|(simpa[-List.getD_eq_getElem?_getD]using hc))
     (refine lpK_n2 (⟨i+1,z0C⟩) _ z0E ?_;simp only[go_sem,hS0]<;>repeat' first|apply W6|exact on'|fail)
     rw[f_yes (p:=fun v=>!(bif k7 r then a2x r else[]).contains v) [] z0C hc2];done)
  | (have hc2:(fun v=>!(bif k7 r then a2x r else[]).contains v) ((bif k7 r then a3Z r else[]).getD i [])=false:=by(first|exact hc|(simpa[-List.getD_eq_getElem?_getD]using hc))
     (refine lpK_n2 (⟨i+1,z0C⟩) _ z0E ?_;simp only[go_sem,hS0]<;>repeat' first|apply W6|exact on'|fail)
     rw[f_no (p:=fun v=>!(bif k7 r then a2x r else[]).contains v) [] z0C hc2];done)
  | (rw[i4 z0C,a5v];cases h:k7 r<;>rfl)
  | trace_state
noncomputable def a6F:CT:=j8 (fun(x:c8)=>b6i x)
@[go_sem] def d1O:=fun x0 x1 x2 x3=>nm' (fQ' a6F rfl ⟨x0,⟨x1,x2⟩,x3⟩)
def c7d(k:List (List UInt8))(x:List UInt8):Lib.containsS (k.map fun s=>(⟨s.toArray⟩:ByteArray)) ⟨x.toArray⟩=k.contains x:=by
 rw[q3T,Lib.containsS_iff,q2F,q0X];constructor
 ·rintro⟨s,hs,e⟩;have e2:s.toArray=x.toArray:=ByteArray.mk.inj e;have:s=x:=by simpa using e2
  exact this▸hs
 ·intro h;exact⟨x,h,rfl⟩
def d4k(b o n cap:Nat)(a:Option Addr)(y:ByteArray)(W:World)(r:Bool)(hcell:W.cell? ⟨b,o,none⟩=some (Value.slice a n cap))(HC:Aside (Calls Tryz.prog 304 #[.slice a n cap,.string y] W fun e w'=>e=.returned (.bool r)/\w'=W)):Calls Tryz.prog 303 #[.string y,.pointer (some ⟨b,o,none⟩)] W fun e w'=>e=.returned (.bool r)/\∃q,w'=W.drewN q:=by
 go_enter Tryz.func303,Tryz.ntmps303
 go_wp2_with (go_at_call 304;refine HC.out.mono ?_;rintro e w' ⟨rfl,rfl⟩)
 go_ret
 exact⟨rfl,0,rfl⟩
def d0L(k:List (List UInt8))(F:Nat->Prop)(W:World)(lb:List Value)(h:C.RdVals F W [.p [a3z k]] lb [])(x:List UInt8):FnGives Tryz.prog 303 lb.toArray #[encStr x] (.bool (k.contains x)) W:=by
 unfold C.RdVals at h;obtain⟨v,vs,f1,f2,rfl,hf,h1,h2⟩:=h;unfold C.RdVals at h2;obtain⟨rfl,rfl⟩:=h2;unfold C.Rd at h1;obtain⟨rfl,b,o,vs,rfl,hFb,hca,hv⟩:=h1;unfold C.RdVals at hv;obtain⟨v,vs',f3,f4,rfl,hf2,hv1,hv2⟩:=hv;unfold C.RdVals at hv2;obtain⟨rfl,rfl⟩:=hv2;unfold C.Rd at hv1;obtain⟨a,cap,rfl,hl1,hl2,hl3,hl4⟩:=hv1;simp only[V2]at hl4;have hcell:=hca 0 z0D;simp only[List.getElem_cons_zero,q4W]at hcell;have hcon:Calls Tryz.prog 304 #[.slice a (k.map a0E).length cap,encStr x] W fun e w'=>e=.returned (.bool (k.contains x))/\w'=W:=by
  rcases hl4.2 with h0|⟨b2,o2,vs2,rfl,hF2,hca2,hrr⟩
  ·have hk:k=[]:=by simpa using h0
   subst hk;exact Any.slices_Contains_string_empty Tryz.l110 a cap ⟨x.toArray⟩ W
  ·obtain⟨rfl,_,hok⟩:=a6Z hrr;have:=Any.slices_Contains_string Tryz.l110 b2 o2 k.length cap (k.map fun s=>(⟨s.toArray⟩:ByteArray)) ⟨x.toArray⟩ W z0D (by rw[q0F]at hl1;simp only[maxLen]at hl2;omega) (fun j hj=>by
    have hj':j<k.length:=by simpa using hj
    have:=hca2 j (by simpa using hj');rw[this];simp[encStr,W5,hj'])
   rw[q0Y z0D,c7d]at this;rw[q0F];exact this
 show Calls Tryz.prog 303 #[encStr x,.pointer (some ⟨b,o,none⟩)] W _;exact d4k b o _ cap a _ W _ hcell hcon
def c1F(l:List (List UInt8))(k:List (List UInt8)):spZ 301 [(false,[.sl true [.s []] (l.map a0E)]),(false,[.f 303 [.p [.sl false [.s []] (k.map a0E)]]])] [] (.one (false,[.sl true [.s []] ((l.filter fun v=>!k.contains v).map a0E)])):=by
 refine d3P Tryz.delStr z0K (fun w=>Tryz.zeroValue9 w) (enters_of Tryz.func303 z0K rfl) (fun v=>k.contains v) (d0L k) ?_ l;intro F w lb fp h;unfold C.RdVals at h;obtain⟨v,vs,f1,f2,rfl,hf,h1,h2⟩:=h;unfold C.RdVals at h2;obtain⟨rfl,rfl⟩:=h2;unfold C.Rd at h1;rw[hf,h1.1];rfl
noncomputable def a8N:CT:=j8 (fun(x:(List (List UInt8))×(List (List UInt8)))=>c1F x.1 x.2)
@[go_sem] def d4A:=fun l k=>nm' (fQ' a8N rfl (l,k))
def b5O(r:c8):spZ 259 [(true,[.i .i64 r.Kind,.s r.Head.Name,l8 r.Head.Args,a0g r.Body])] [] (.one (false,[b1m (a5v r)])):=by
 refine sy' Tryz.func259 (q' 1 [aX 4 0,ao (.mov (.k (.v false [.nl [.s []]])))] (.seq (q' 4 [ae 4 1,ac 299 [4],aO 5] (ci 6 (q' 2 [ao (.mov (.k (.v false [.nl [.s []]])))] .ret))) (q' 7 [ae 4 1,ac 300 [7],ax (w' 3 [.sl [.s []]]),aS 1 3 8] (q' 9 [ae 4 1,ac 302 [9],ao (.mf 303 [.t 3]),ac 301 [10,11],aV 2] .ret)))) [.t 2] [(299,[],a5K),(300,[],b3f),(302,[],b0N),(301,[0],a8N)] ?_;intro hb hE;simp only[go_sem];repeat' first|apply cj'|intro hc|exact om'|fail
 all_goals(have h9:k7 r=_:=hc;rw[a5v,h9];first|rfl)
noncomputable def a6k:CT:=j8 (fun(x:c8)=>b5O x)
@[go_sem] def d1s:=fun x0 x1 x2 x3=>nm' (fQ' a6k rfl ⟨x0,⟨x1,x2⟩,x3⟩)
end Go.Aw
