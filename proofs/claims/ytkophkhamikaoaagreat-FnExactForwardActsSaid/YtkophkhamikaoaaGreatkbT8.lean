/- Letters, digits, words, values: what the functions compute. No condition. -/
import Derived.Test.YtkophkhamikaoaaGreatlBx9kb
import Derived.Lib.Bytealg
import Derived.Test.YtkophkhamikaoaaGreatkbShelf
import Derived.Test.YtkophkhamikaoaaGreatlMx1kb
import Derived.Test.YtkophkhamikaoaaGreatlBx7kb
namespace Go.Aw
set_option maxHeartbeats 4000000
open Go.Proofs
attribute [local irreducible] aft blk lpK retK AW A0e
set_option linter.all false
set_option maxRecDepth 100000
def a1i(n:Int):Bool:=decide (97<=n)&&decide (n<=122)
def a5c(n:Int):Bool:=decide (48<=n)&&decide (n<=57)
def a0p(n:Int):Bool:=decide (0<=n)&&decide (n<=281474976710655)
def b1g(x:UInt8):Bool:=a1i x.toNat||a5c x.toNat
def a1m(s:List UInt8):Bool:=s.all b1g&&(decide (1<=s.length)&&decide (s.length<=12)&&a1i (s.getD 0 0).toNat)
def o8(v:d8):Bool:=bif v.S==[]then a0p v.N else v.N==0&&a1m v.S
def b8o(c:Int):spZ 152 [(false,[.i .u8 c])] [] (.one (false,[.b (a1i c)])):=by
 refine sy' Tryz.func152 (q' 2 [aU false] (q' 3 [am 0,ao (.bin .geq (.t 3) (bu 97)),am 4,aH 5 true [bm 0,bo (.bin .leq (.t 6) (bu 122))],aP 5 7,aV 2] .ret)) [.t 2] [] ?_;intro hb hE;simp only[go_sem];repeat' first|apply cj'|intro hc|exact om'|fail
 rfl
noncomputable def a3T:CT:=l4 (fun(x:Int)=>b8o x)
@[go_sem] def d3d:=fun c=>nm' (fQ' a3T rfl c)
def c1O(c:Int):spZ 153 [(false,[.i .u8 c])] [] (.one (false,[.b (a5c c)])):=by
 refine sy' Tryz.func153 (q' 2 [aU false] (q' 3 [am 0,ao (.bin .geq (.t 3) (bu 48)),am 4,aH 5 true [bm 0,bo (.bin .leq (.t 6) (bu 57))],aP 5 7,aV 2] .ret)) [.t 2] [] ?_;intro hb hE;simp only[go_sem];repeat' first|apply cj'|intro hc|exact om'|fail
 rfl
noncomputable def a4J:CT:=l4 (fun(x:Int)=>c1O x)
@[go_sem] def d4Z:=fun c=>nm' (fQ' a4J rfl c)
def b8p(n:Int):spZ 32 [(false,[.i .i64 n])] [] (.one (false,[.b (a0p n)])):=by
 refine sy' Tryz.func32 (q' 2 [aU false] (q' 3 [am 0,aC .geq 3 0,am 4,aH 5 true [bm 0,bC .leq 6 281474976710655],aP 5 7,aV 2] .ret)) [.t 2] [] ?_;intro hb hE;simp only[go_sem];repeat' first|apply cj'|intro hc|exact om'|fail
 rfl
noncomputable def a3U:CT:=l4 (fun(x:Int)=>b8p x)
@[go_sem] def d3e:=fun n=>nm' (fQ' a3U rfl n)
def c4m(s:List UInt8):spZ 99 [(false,[.s s])] [] (.one (false,[.b (a1m s)])):=by
 refine sy' Tryz.func99 (q' 2 [aU false] (.seq (q' 4 [am 0,ao (.lens (.t 4)),aK 0] (fO 0 7 [ar 6 5] 7 1 (q' 8 [am 6,aV 3] (q' 9 [aM [0,3],ao (.ixs (.t 9) (.t 10)),ac 152 [11],aO 12,am 13,aH 14 true [bm 0,bm 3,bo (.ixs (.t 15) (.t 16)),bc 153 [17],bO 18],aP 14 19] (ci 20 (q' 2 [aU false] .ret)))) (g' 21 [aA 6]))) (q' 22 [am 0,ao (.lens (.t 22)),aC .geq 23 1,am 24,aH 25 true [bm 0,bo (.lens (.t 26)),bC .leq 27 12],aP 25 28,am 29,aH 30 true [bm 0,bo (.ixs (.t 31) (k' 0)),bc 152 [32]],aP 30 33,aV 2] .ret))) [.t 2] [(152,[],a3T),(153,[],a4J)] ?_;intro hb hE;simp only[go_sem];repeat' first|apply cj'|intro hc|exact om'|fail
 refine lq' false [0,5] [] [] (fun i:{i:Nat // i<=s.length/\(s.take i).all b1g=true}=>[(6,slV (.i .i64 i.1))]) nl' nl' (fun i=>s.length-i.1) (⟨0,z0E⟩) ?_;intro S0 hS0 i;obtain⟨i,hi,ha⟩:=i;simp only[go_sem,hS0];repeat' first|apply cj'|intro hc|exact om'|fail
 ·have h:b1g (s.getD i 0)=false:=by simp only[b1g,hc,Bool.or_self]
  rw[a1m,all_false z0D h];rfl
 ·exact nx0 ⟨i+1,z0D,by rw[A7e (d:=0) z0D,ha];simpa[b1g,-List.getD_eq_getElem?_getD,<-Bool.not_or]using hc⟩
 ·rw[a1m,all_of_take z0D ha]
  norm_cast
noncomputable def a3p:CT:=l4 (fun(x:(List UInt8))=>c4m x)
@[go_sem] def d7w:=fun s=>nm' (fQ' a3p rfl s)
def c1E(v:d8):spZ 210 [(true,[.i .i64 v.N,.s v.S])] [] (.one (false,[.b (o8 v)])):=by
 refine sy' Tryz.func210 (q' 1 [aX 2 0,aU false] (.seq (q' 3 [aG 1 1,aY .eql 4 []] (ci 5 (q' 6 [aG 0 1,ac 32 [7],aV 2] .ret))) (q' 9 [aG 0 1,aC .eql 10 0,am 11,aH 12 true [bf 1 1,bL,bc 99 [14]],aP 12 15,aV 2] .ret))) [.t 2] [(32,[],a3U),(99,[],a3p)] ?_;intro hb hE;simp only[go_sem];repeat' first|apply cj'|intro hc|exact om'|fail
 ·simp only[o8,hc,W8]
 ·simp only[o8,hc,V2]
noncomputable def a2D:CT:=l4 (fun(x:d8)=>c1E x)
@[go_sem] def d4N:=fun x0 x1=>nm' (fQ' a2D rfl ⟨x0,x1⟩)
def c5c(n:Int):spZ 49 [(false,[.i .i64 n])] [] (.one (false,[.b (a0p n)])):=by
 refine sy' Tryz.func49 (q' 2 [aU false] (q' 3 [am 0,aC .geq 3 0,am 4,aH 5 true [bm 0,bC .leq 6 281474976710655],aP 5 7,aV 2] .ret)) [.t 2] [] ?_;intro hb hE;simp only[go_sem];repeat' first|apply cj'|intro hc|exact om'|fail
 rfl
noncomputable def a6b:CT:=l4 (fun(x:Int)=>c5c x)
@[go_sem] def d8n:=fun n=>nm' (fQ' a6b rfl n)
def c5b(s:List UInt8):spZ 128 [(false,[.s s])] [] (.one (false,[.b (a1m s)])):=by
 refine sy' Tryz.func128 (q' 2 [aU false] (.seq (q' 6 [am 0,ao (.lens (.t 6)),aC .lss 7 1,am 8,aH 9 false [bm 0,bo (.lens (.t 10)),bC .gtr 11 12],aQ 9 12] (ci 13 (q' 2 [aU false] .ret))) (.seq (q' 3 [aK 0] (fo 0 14 [aM [3,0],ao (.lens (.t 15)),ar 14 16] 17 1 (q' 20 [aM [0,3],ao (.ixs (.t 20) (.t 21)),ao (.bin .geq (.t 22) (bu 97)),am 23,aH 24 true [bm 0,bm 3,bo (.ixs (.t 25) (.t 26)),bo (.bin .leq (.t 27) (bu 122))],aP 24 28,aV 4] (q' 30 [aM [0,3],ao (.ixs (.t 30) (.t 31)),ao (.bin .geq (.t 32) (bu 48)),am 33,aH 34 true [bm 0,bm 3,bo (.ixs (.t 35) (.t 36)),bo (.bin .leq (.t 37) (bu 57))],aP 34 38,aV 5] (q' 40 [am 4,aO 40,am 41,aH 42 true [bm 5,bO 43,bm 44],aH 45 false [bm 3,bC .eql 46 0],aH 42 true [bQ 45 47],aP 42 48] (ci 49 (q' 2 [aU false] .ret))))) (g' 18 [aB 3]))) (q' 2 [aU true] .ret)))) [.t 2] [] ?_;intro hb hE;simp only[go_sem];repeat' first|apply cj'|intro hc|exact om'|fail
 ·cases h:a1m s with
  | false=>rfl
  | true=>
    simp only[a1m,K7]at h;omega
 refine lq' false [0] [] [] (fun i:{i:Nat // i<=s.length/\(s.take i).all b1g=true/\(0<i->a1i (s.getD 0 0).toNat=true)}=>[(3,slV (.i .i64 i.1))]) nl' nl' (fun i=>s.length-i.1) (⟨0,z0E⟩) ?_;intro S0 hS0 i;obtain⟨i,hi,ha,hl⟩:=i;simp only[go_sem,hS0];repeat' first|apply cj'|intro hc|exact om'|fail
 ·cases h:a1m s with
  | false=>rfl
  | true=>
    simp only[a1m,K7]at h;have h2:=all_getD (d:=0) h.1 (show i<s.length by omega);have hc1:a1i (s.getD i 0).toNat=false/\(a5c (s.getD i 0).toNat=false\/((i:Int)==0)=true):=hc;simp only[b1g,hc1.1,q3S]at h2;rcases hc1.2 with h3|h3
    ·rw[h3]at h2;cases h2
    ·have:i=0:=by simpa using h3
     subst this;exact absurd h.2.2 (by rw[hc1.1];exact Bool.false_ne_true)
 ·have hc1:(!a1i (s.getD i 0).toNat&&(!a5c (s.getD i 0).toNat||((i:Int)==0)))=false:=hc;have h1:b1g (s.getD i 0)=true:=by
   revert hc1
   simp only[b1g];generalize a1i (s.getD i 0).toNat=L;generalize a5c (s.getD i 0).toNat=D;cases L<;>cases D<;>simp
  have h2:a1i (s.getD 0 0).toNat=true:=by
   rcases q5S i with h0|h0
   ·subst h0
    revert hc1
    cases a1i (s.getD 0 0).toNat<;>simp
   ·exact hl h0
  exact nx0 ⟨i+1,z0D,by rw[A7e (d:=0) z0D,ha,h1];rfl,fun _=>h2⟩
 ·have h:s.all b1g=true:=all_of_take z0D ha;have h2:=hl z0D;simp only[a1m,h,h2,q1G,q0P];simp;omega
noncomputable def a3s:CT:=l4 (fun(x:(List UInt8))=>c5b x)
@[go_sem] def d8m:=fun s=>nm' (fQ' a3s rfl s)
def c2r(v:d8):spZ 245 [(true,[.i .i64 v.N,.s v.S])] [] (.one (false,[.b (o8 v)])):=by
 refine sy' Tryz.func245 (q' 1 [aX 2 0,aU false] (.seq (q' 3 [aG 1 1,aY .eql 4 []] (ci 5 (q' 6 [aG 0 1,ac 49 [7],aV 2] .ret))) (q' 9 [aG 0 1,aC .eql 10 0,am 11,aH 12 true [bf 1 1,bL,bc 128 [14]],aP 12 15,aV 2] .ret))) [.t 2] [(49,[],a6b),(128,[],a3s)] ?_;intro hb hE;simp only[go_sem];repeat' first|apply cj'|intro hc|exact om'|fail
 ·simp only[o8,hc,W8]
 ·simp only[o8,hc,V2]
noncomputable def a1G:CT:=l4 (fun(x:d8)=>c2r x)
@[go_sem] def d5D:=fun x0 x1=>nm' (fQ' a1G rfl ⟨x0,x1⟩)
def a6P(n:Int):Bool:=decide (65<=n)&&decide (n<=90)
def d1w(x:UInt8):Bool:=a1i x.toNat||a6P x.toNat||a5c x.toNat
def a8j(s:List UInt8):Bool:=s.all d1w&&(decide (1<=s.length)&&decide (s.length<=12)&&a6P (s.getD 0 0).toNat)
def clsI(n:Int):Int:=if 97<=n/\n<=122 then 1 else if 65<=n/\n<=90 then 2 else if 48<=n/\n<=57 then 3 else 0
def cls2(n:Int):(clsI n != 2)=!a6P n:=by
 unfold clsI a6P;rw[<-q6E];by_cases h:65<=n/\n<=90
 ·rw[if_neg z0D,if_pos h];simp[h]
 ·rw[if_neg h];(repeat' split)<;>simp[h]
def cls0(x:UInt8):(clsI x.toNat==0)=!d1w x:=by
 unfold clsI d1w a6P a1i a5c;rw[<-q6E,<-q6E,<-q6E]
 (repeat' split)<;>simp[*]
def c1Q(c:Int):spZ 363 [(false,[.i .u8 c])] [] (.one (false,[.b (a6P c)])):=by
 refine sy' Tryz.func363 (q' 2 [aU false] (q' 3 [am 0,ao (.bin .geq (.t 3) (bu 65)),am 4,aH 5 true [bm 0,bo (.bin .leq (.t 6) (bu 90))],aP 5 7,aV 2] .ret)) [.t 2] [] ?_;intro hb hE;simp only[go_sem];repeat' first|apply cj'|intro hc|exact om'|fail
 rfl
noncomputable def a8R:CT:=l4 (fun(x:Int)=>c1Q x)
@[go_sem] def d5b:=fun c=>nm' (fQ' a8R rfl c)
def c7P(s:List UInt8):spZ 346 [(false,[.s s])] [] (.one (false,[.b (a8j s)])):=by
 refine sy' Tryz.func346 (q' 2 [aU false] (.seq (q' 4 [am 0,ao (.lens (.t 4)),aK 0] (fO 0 7 [ar 6 5] 7 1 (q' 8 [am 6,aV 3] (q' 9 [aM [0,3],ao (.ixs (.t 9) (.t 10)),ac 152 [11],aO 12,am 13,aH 14 true [bm 0,bm 3,bo (.ixs (.t 15) (.t 16)),bc 363 [17],bO 18],aP 14 19,am 20,aH 21 true [bm 0,bm 3,bo (.ixs (.t 22) (.t 23)),bc 153 [24],bO 25],aP 21 26] (ci 27 (q' 2 [aU false] .ret)))) (g' 28 [aA 6]))) (q' 29 [am 0,ao (.lens (.t 29)),aC .geq 30 1,am 31,aH 32 true [bm 0,bo (.lens (.t 33)),bC .leq 34 12],aP 32 35,am 36,aH 37 true [bm 0,bo (.ixs (.t 38) (k' 0)),bc 363 [39]],aP 37 40,aV 2] .ret))) [.t 2] [(152,[],a3T),(363,[],a8R),(153,[],a4J)] ?_;intro hb hE;simp only[go_sem];repeat' first|apply cj'|intro hc|exact om'|fail
 refine lq' false [0,5] [] [] (fun i:{i:Nat // i<=s.length/\(s.take i).all d1w=true}=>[(6,slV (.i .i64 i.1))]) nl' nl' (fun i=>s.length-i.1) (⟨0,z0E⟩) ?_;intro S0 hS0 i;obtain⟨i,hi,ha⟩:=i;simp only[go_sem,hS0];repeat' first|apply cj'|intro hc|exact om'|fail
 ·have h:d1w (s.getD i 0)=false:=by simp only[d1w,hc,Bool.or_self]
  rw[a8j,all_false z0D h];rfl
 ·exact nx0 ⟨i+1,z0D,by rw[A7e (d:=0) z0D,ha];simpa[d1w,-List.getD_eq_getElem?_getD,<-Bool.not_or]using hc⟩
 ·rw[a8j,all_of_take z0D ha]
  norm_cast
noncomputable def b2K:CT:=l4 (fun(x:(List UInt8))=>c7P x)
@[go_sem] def d9G:=fun s=>nm' (fQ' b2K rfl s)
def b8J(c:Int):spZ 362 [(false,[.i .u8 c])] [] (.one (false,[.i .i64 (clsI c)])):=by
 refine sy' Tryz.func362 (q' 2 [aK 0] (.seq (q' 3 [am 0,ao (.bin .geq (.t 3) (bu 97)),am 4,aH 5 true [bm 0,bo (.bin .leq (.t 6) (bu 122))],aP 5 7] (ci 8 (q' 2 [aK 1] .ret))) (.seq (q' 9 [am 0,ao (.bin .geq (.t 9) (bu 65)),am 10,aH 11 true [bm 0,bo (.bin .leq (.t 12) (bu 90))],aP 11 13] (ci 14 (q' 2 [aK 2] .ret))) (.seq (q' 15 [am 0,ao (.bin .geq (.t 15) (bu 48)),am 16,aH 17 true [bm 0,bo (.bin .leq (.t 18) (bu 57))],aP 17 19] (ci 20 (q' 2 [aK 3] .ret))) (q' 2 [aK 0] .ret))))) [.t 2] [] ?_;intro hb hE;simp only[go_sem];repeat' first|apply cj'|intro hc|exact om'|fail
 all_goals((try simp only[q4B,q1E]at*);simp only[clsI];(repeat' split)<;>omega)
noncomputable def a7W:CT:=l4 (fun(x:Int)=>b8J x)
@[go_sem] def d3x:=fun c=>nm' (fQ' a7W rfl c)
def c8j(s:List UInt8):spZ 343 [(false,[.s s])] [] (.one (false,[.b (a8j s)])):=by
 refine sy' Tryz.func343 (q' 2 [aU false] (.seq (q' 4 [am 0,ao (.lens (.t 4)),aC .lss 5 1,am 6,aH 7 false [bm 0,bo (.lens (.t 8)),bC .gtr 9 12],aQ 7 10,am 11,aH 12 false [bm 0,bo (.ixs (.t 13) (k' 0)),bc 362 [14],bC .neq 15 2],aQ 12 16] (ci 17 (q' 2 [aU false] .ret))) (.seq (q' 3 [aK 0] (fo 0 18 [aM [3,0],ao (.lens (.t 19)),ar 18 20] 21 1 (q' 24 [aM [0,3],ao (.ixs (.t 24) (.t 25)),ac 362 [26],aC .eql 27 0] (ci 28 (q' 2 [aU false] .ret))) (g' 22 [aB 3]))) (q' 2 [aU true] .ret)))) [.t 2] [(362,[],a7W)] ?_;intro hb hE;simp only[go_sem,cls2,cls0];repeat' first|apply cj'|intro hc|exact om'|fail
 ·symm;unfold a8j;rcases hc with(h|h)|h
  ·rw[V5 (p:=1<=s.length) z0D];simp
  ·rw[V5 (p:=s.length<=12) z0D];simp
  ·rw[h];simp
 have hh:=hc;refine lq' false [0] [] [] (fun i:{i:Nat // i<=s.length/\(s.take i).all d1w=true}=>[(3,slV (.i .i64 i.1))]) nl' nl' (fun i=>s.length-i.1) (⟨0,z0E⟩) ?_;intro S0 hS0 i;obtain⟨i,hi,ha⟩:=i;simp only[go_sem,cls2,cls0,hS0];repeat' first|apply cj'|intro hc|exact om'|fail
 ·rw[a8j,all_false z0D hc];rfl
 ·(refine lpK_n2 (⟨i+1,z0D,by rw[A7e (d:=0) z0D,ha,hc];rfl⟩) _ rfl ?_;simp only[go_sem,cls2,cls0,hS0]<;>repeat' first|apply W6|exact on'|fail)
 ·symm;rw[a8j,all_of_take z0D ha,hh.2,V3 z0D,V3 z0D];rfl
noncomputable def b3h:CT:=l4 (fun(x:(List UInt8))=>c8j x)
@[go_sem] def e0e:=fun s=>nm' (fQ' b3h rfl s)
def getB(e:e7)(v:List UInt8):Nat:=a2O e.Binds.length fun i=>(e.Binds.getD i default).Var==v
def a0n(e:e7)(v:List UInt8):d8×Bool:=if getB e v<e.Binds.length then((e.Binds.getD (getB e v) default).Val,true)else(default,false)
variable{out:List (List UInt8)}{v:List UInt8}{α:Type}{l t:List α}{s:α}{lt:α->α->Bool}
def a9x{e:e7}(h:∀j,j<e.Binds.length->((e.Binds.getD j default).Var==v)=false):a0n e v=(default,false):=by
 have:=a2u h;rw[a0n,getB,this,if_neg z0D]
def a9y{e:e7}{i:Nat}(hi:i<e.Binds.length)(h:∀j,j<i->((e.Binds.getD j default).Var==v)=false)(hp:((e.Binds.getD i default).Var==v)=true):a0n e v=((e.Binds.getD i default).Val,true):=by
 have:=a2v h hp hi;rw[a0n,getB,this,if_pos hi]
def c7W(e:e7)(v:List UInt8):spZ 292 [(true,[a0b e.Binds]),(false,[.s v])] [] (.tup [(true,[.i .i64 (((a0n e v).1).N),.s (((a0n e v).1).S)]),(false,[.b ((a0n e v).2)])]):=by
 refine sy' Tryz.func292 (q' 2 [aX 1 0,ax (w' 4 [.i .i64,.s]),ab 5 false] (.seq (q' 8 [aG 0 2,aN,aK 0] (fO 0 12 [ar 11 10] 12 1 (q' 13 [ai 3 9 11,aE 3,ax (w' 7 [.s,.i .i64,.s]),aS 3 7 14] (q' 15 [aG 0 7,am 1,aD .eql 16 17] (ci 18 (q' 19 [af 1 7,aE 2,aS 2 4 20,ab 5 true] .ret)))) (g' 21 [aA 11]))) (q' 22 [ao (.bld [.i .i64,.s] []),aS 2 4 22,ab 5 false] .ret))) [.c 4 true 2,.t 5] [] ?_;intro hb hE;simp only[go_sem];repeat' first|apply cj'|intro hc|exact om'|fail
 refine lq' false [1,4,9,10] [] [] (fun i:{i:Nat // i<=e.Binds.length/\∀j,j<i->((e.Binds.getD j default).Var==v)=false}=>[(11,slV (.i .i64 i.1))]) (fun i=>[(8,[.c (.i .i64 0),.c (.s [])])]) nl' (fun i=>e.Binds.length-i.1) (⟨0,z0E⟩) ?_;intro S0 hS0 i;obtain⟨i,hi,ha⟩:=i;simp only[go_sem,hS0];repeat' first|apply cj'|intro hc|exact om'|fail
 ·rw[a9y z0D ha hc];exact⟨⟨rfl,rfl⟩,rfl⟩
 ·exact nx0 ⟨i+1,z0D,fun j hj=>(q3T.1 hj).elim (ha j) (fun q=>q▸hc)⟩
 ·rw[a9x fun j hj=>ha j z0D];exact⟨⟨rfl,rfl⟩,rfl⟩
noncomputable def b2V:CT:=l4 (fun(x:e7×(List UInt8))=>c7W x.1 x.2)
@[go_sem] def d9R:=fun x0 v=>nm' (fQ' b2V rfl (⟨x0⟩,v))
def c5j(e:e7)(v:List UInt8):spZ 191 [(true,[a0b e.Binds]),(false,[.s v])] [] (.tup [(true,[.i .i64 (((a0n e v).1).N),.s (((a0n e v).1).S)]),(false,[.b ((a0n e v).2)])]):=by
 refine sy' Tryz.func191 (q' 2 [aX 1 0,ax (w' 4 [.i .i64,.s]),ab 5 false] (.seq (q' 8 [aG 0 2,aN,aK 0] (fO 0 12 [ar 11 10] 12 1 (q' 13 [ai 3 9 11,aE 3,ax (w' 7 [.s,.i .i64,.s]),aS 3 7 14] (q' 15 [aG 0 7,am 1,aD .eql 16 17] (ci 18 (q' 19 [af 1 7,aE 2,aS 2 4 20,ab 5 true] .ret)))) (g' 21 [aA 11]))) (q' 22 [ao (.bld [.i .i64,.s] []),aS 2 4 22,ab 5 false] .ret))) [.c 4 true 2,.t 5] [] ?_;intro hb hE;simp only[go_sem];repeat' first|apply cj'|intro hc|exact om'|fail
 refine lq' false [1,4,9,10] [] [] (fun i:{i:Nat // i<=e.Binds.length/\∀j,j<i->((e.Binds.getD j default).Var==v)=false}=>[(11,slV (.i .i64 i.1))]) (fun i=>[(8,[.c (.i .i64 0),.c (.s [])])]) nl' (fun i=>e.Binds.length-i.1) (⟨0,z0E⟩) ?_;intro S0 hS0 i;obtain⟨i,hi,ha⟩:=i;simp only[go_sem,hS0];repeat' first|apply cj'|intro hc|exact om'|fail
 ·rw[a9y z0D ha hc];exact⟨⟨rfl,rfl⟩,rfl⟩
 ·exact nx0 ⟨i+1,z0D,fun j hj=>(q3T.1 hj).elim (ha j) (fun q=>q▸hc)⟩
 ·rw[a9x fun j hj=>ha j z0D];exact⟨⟨rfl,rfl⟩,rfl⟩
noncomputable def a3w:CT:=l4 (fun(x:e7×(List UInt8))=>c5j x.1 x.2)
@[go_sem] def d8u:=fun x0 v=>nm' (fQ' a3w rfl (⟨x0⟩,v))
def kept(s:List UInt8):Bool:=s==[115,116,97,116,101]||s==[101,118,101,110,116]||s==[118,105,101,119]||s==[110,111,116]
def a0j(t:d9):Bool:=bif !(t.Var==[])then a8j t.Var&&(t.Val.N==0&&t.Val.S==[])else o8 t.Val&&!kept t.Val.S
def d0J(s:List UInt8):spZ 246 [(false,[.s s])] [] (.one (false,[.b (kept s)])):=by
 refine sy' Tryz.func246 (q' 2 [aU false] (q' 3 [am 0,aY .eql 3 [115,116,97,116,101],am 4,aH 5 false [bm 0,bY .eql 6 [101,118,101,110,116]],aQ 5 7,am 8,aH 9 false [bm 0,bY .eql 10 [118,105,101,119]],aQ 9 11,am 12,aH 13 false [bm 0,bY .eql 14 [110,111,116]],aQ 13 15,aV 2] .ret)) [.t 2] [] ?_;intro hb hE;simp only[go_sem];repeat' first|apply cj'|intro hc|exact om'|fail
 all_goals(first|rfl)
noncomputable def a9m:CT:=l4 (fun(x:(List UInt8))=>d0J x)
@[go_sem] def e1j:=fun s=>nm' (fQ' a9m rfl s)
def d0C(s:List UInt8):spZ 265 [(false,[.s s])] [] (.one (false,[.b (kept s)])):=by
 refine sy' Tryz.func265 (q' 2 [aU false] (q' 3 [am 0,aY .eql 3 [115,116,97,116,101],am 4,aH 5 false [bm 0,bY .eql 6 [101,118,101,110,116]],aQ 5 7,am 8,aH 9 false [bm 0,bY .eql 10 [118,105,101,119]],aQ 9 11,am 12,aH 13 false [bm 0,bY .eql 14 [110,111,116]],aQ 13 15,aV 2] .ret)) [.t 2] [] ?_;intro hb hE;simp only[go_sem];repeat' first|apply cj'|intro hc|exact om'|fail
 all_goals(first|rfl)
noncomputable def a8G:CT:=l4 (fun(x:(List UInt8))=>d0C x)
@[go_sem] def e1c:=fun s=>nm' (fQ' a8G rfl s)
def b5T(t:d9):spZ 312 [(true,[.s t.Var,.i .i64 t.Val.N,.s t.Val.S])] [] (.one (false,[.b (a0j t)])):=by
 refine sy' Tryz.func312 (q' 1 [aX 3 0,aU false] (.seq (q' 3 [aG 0 1,aY .neq 4 []] (ci 5 (q' 6 [aG 0 1,ac 343 [7],am 8,aH 9 true [bf 1 1,bE 2,bo (.bld [.i .i64,.s] []),bo (.eqs false [.i .i64,.s] (.t 11) (.t 12))],aP 9 13,aV 2] .ret))) (q' 15 [af 1 1,aE 2,ac 245 [16],am 17,aH 18 true [bf 1 1,bF 1,bL,bc 246 [21],bO 22],aP 18 23,aV 2] .ret))) [.t 2] [(343,[],b3h),(245,[],a1G),(246,[],a9m)] ?_;intro hb hE;simp only[go_sem];repeat' first|apply cj'|intro hc|exact om'|fail
 all_goals(first|(rw[a0j,hc];rfl)|(have hc2:(!(t.Var==[]))=true:=hc;rw[a0j,hc2];rfl)|(have hc2:(!(t.Var==[]))=false:=hc;rw[a0j,hc2];rfl))
noncomputable def a3d:CT:=l4 (fun(x:d9)=>b5T x)
@[go_sem] def d1V:=fun x0 x1 x2=>nm' (fQ' a3d rfl ⟨x0,⟨x1,x2⟩⟩)
def c4y(t:d9):spZ 319 [(true,[.s t.Var,.i .i64 t.Val.N,.s t.Val.S])] [] (.one (false,[.b (a0j t)])):=by
 refine sy' Tryz.func319 (q' 1 [aX 3 0,aU false] (.seq (q' 3 [aG 0 1,aY .neq 4 []] (ci 5 (q' 6 [aG 0 1,ac 346 [7],am 8,aH 9 true [bf 1 1,bE 2,bo (.bld [.i .i64,.s] []),bo (.eqs false [.i .i64,.s] (.t 11) (.t 12))],aP 9 13,aV 2] .ret))) (q' 15 [af 1 1,aE 2,ac 210 [16],am 17,aH 18 true [bf 1 1,bF 1,bL,bc 265 [21],bO 22],aP 18 23,aV 2] .ret))) [.t 2] [(346,[],b2K),(210,[],a2D),(265,[],a8G)] ?_;intro hb hE;simp only[go_sem];repeat' first|apply cj'|intro hc|exact om'|fail
 all_goals(first|(rw[a0j,hc];rfl)|(have hc2:(!(t.Var==[]))=true:=hc;rw[a0j,hc2];rfl)|(have hc2:(!(t.Var==[]))=false:=hc;rw[a0j,hc2];rfl))
noncomputable def a5R:CT:=l4 (fun(x:d9)=>c4y x)
@[go_sem] def d7K:=fun x0 x1 x2=>nm' (fQ' a5R rfl ⟨x0,⟨x1,x2⟩⟩)
def n8(e:e7)(t:d9):d8×Bool:=bif t.Var==[]then(t.Val,true)else a0n e t.Var
def c1U(e:e7)(t:d9):spZ 223 [(true,[a0b e.Binds]),(true,[.s t.Var,.i .i64 t.Val.N,.s t.Val.S])] [] (.tup [(true,[.i .i64 (((n8 e t).1).N),.s (((n8 e t).1).S)]),(false,[.b ((n8 e t).2)])]):=by
 refine sy' Tryz.func223 (q' 2 [aX 1 0,aX 3 1,aw [.i .i64,.s],aU false] (.seq (q' 6 [aG 0 3,aY .eql 7 []] (ci 8 (q' 9 [af 1 3,aE 2,aS 2 4 10,ab 5 true] .ret))) (q' 11 [ae 1 2,aG 0 3,ac 292 [11,13],aZ 14 0,aZ 14 1,aS 2 4 15,aV 5] .ret))) [.c 4 true 2,.t 5] [(292,[],b2V)] ?_;intro hb hE;simp only[go_sem];repeat' first|apply cj'|intro hc|exact om'|fail
 all_goals(first|(rw[n8,hc];exact⟨⟨rfl,rfl⟩,rfl⟩))
noncomputable def a1F:CT:=l4 (fun(x:e7×d9)=>c1U x.1 x.2)
@[go_sem] def d5g:=fun x0 x1 x2 x3=>nm' (fQ' a1F rfl (⟨x0⟩,⟨x1,⟨x2,x3⟩⟩))
def a0i(e:e7)(args:List d9):c7×Bool:=bif args.all (fun t=>(n8 e t).2)then(⟨args.map fun t=>(n8 e t).1⟩,true)else(default,false)
def a6h{β:Type}(f:α->β){i:Nat}{d:α}(h:i<l.length):(l.take i).map f++[f (l.getD i d)]=(l.take (i+1)).map f:=by
 rw[q2Y,q1B,W5,V7 h];rfl
def d0D(e:e7)(args:List d9)(hpre:args.length<=6):spZ 165 [(true,[a0b e.Binds]),(false,[o6 args])] [] (.tup [(true,[a5D (((a0i e args).1).V)]),(false,[.b ((a0i e args).2)])]):=by
 refine sx' true false none Tryz.func165 (q' 2 [aX 1 0,ax (w' 4 [.sl l7]),ab 5 false] (q' 6 [ax (o' 11 (.bld [.sl l7] [])),aw [.sl l7],aS 1 6 11] (.seq (q' 12 [am 1,aN,aK 0] (fO 0 15 [ar 14 13] 15 1 (q' 16 [ai 3 12 14,aE 3,ax (w' 8 [.s,.i .i64,.s]),aS 3 8 17] (q' 19 [ae 1 2,ae 3 8,ac 223 [19,20],aV 18,aZ 18 0,aZ 18 1,ax (w' 9 [.i .i64,.s]),aS 2 9 22,aV 10] (.seq (q' 24 [am 10,aO 24] (ci 25 (q' 26 [ao (.bld [.sl l7] []),aS 1 4 26,ab 5 false] .ret))) (g' 27 [aG 0 6,ae 2 9,ao (.bsl 2 1 [.i .i64,.s] [(0,.t 29)]),ao (.app 2 24 [.i .i64,.s] (.t 28) (.t 30)),af 0 6,aS 1 32 31])))) (g' 33 [aA 14]))) (q' 34 [ae 1 6,aS 1 4 34,ab 5 true] .ret)))) [.c 4 true 1,.t 5] [(223,[],a1F)] ?_;intro hb hE;simp only[go_sem,V1];repeat' first|apply cj'|intro hc|exact om'|fail
 refine lk' true [(true,12,0,3968)] [2,4,6,12,13] [4] [] (fun i:{i:Nat // i<=args.length/\(args.take i).all (fun t=>(n8 e t).2)=true}=>[(14,slV (.i .i64 i.1))]) (fun i=>[(8,[.nl l7]),(12,[.ow 3968])]) (fun i=>[(3968,l7,((args.take i.1).map fun t=>(n8 e t).1).map d8.cells)]) (fun i=>args.length-i.1) (⟨0,z0E⟩) ?_;intro S0 hS0 i;obtain⟨i,hi,ha⟩:=i;simp only[go_sem,V1,hS0];repeat' first|apply cj'|intro hc|exact om'|fail
 ·rw[a0i,all_false (p:=fun t=>(n8 e t).2) (d:=default) (i:=i) z0D hc];exact⟨rfl,rfl⟩
 ·(refine lpK_n2 (⟨i+1,z0D,by rw[A7e (d:=default) z0D,ha,hc];rfl⟩) _ z15 ?_;simp only[go_sem,V1,hS0]<;>repeat' first|apply W6|exact on'|fail)
  all_goals(rw[<-a6h (fun t=>(n8 e t).1) (d:=default) (show i<args.length by omega)])
 ·rw[a0i,all_of_take z0D ha,q1A z0D];exact⟨rfl,rfl⟩
noncomputable def a8Q:CT:=n9 (fun(x:e7×(List d9)) h=>d0D x.1 x.2 h)
@[go_sem] def e1d:=fun x0 x1=>nm' (fP' a8Q rfl (⟨x0⟩,x1))
def a9D(e:e7)(args:List d9)(hpre:args.length<=6):spZ 134 [(true,[a0b e.Binds]),(false,[o6 args])] [] (.tup [(true,[a5D (((a0i e args).1).V)]),(false,[.b ((a0i e args).2)])]):=by
 refine sx' true false none Tryz.func134 (q' 2 [aX 1 0,ax (w' 4 [.sl l7]),ab 5 false] (q' 6 [ax (o' 12 (.bld [.sl l7] [])),aw [.sl l7],aS 1 6 12] (.seq (q' 13 [am 1,aN,aK 0] (fO 0 16 [ar 15 14] 16 1 (q' 17 [ai 3 13 15,aE 3,ax (w' 8 [.s,.i .i64,.s]),aS 3 8 18] (q' 19 [af 1 8,aE 2,ax (w' 9 [.i .i64,.s]),aS 2 9 20] (.seq (q' 21 [aG 0 8,aY .neq 22 []] (ci 23 (q' 25 [ae 1 2,aG 0 8,ac 191 [25,27],aV 24,aZ 24 0,aZ 24 1,ax (w' 10 [.i .i64,.s]),aS 2 10 29,aV 11] (.seq (q' 31 [am 11,aO 31] (ci 32 (q' 33 [ao (.bld [.sl l7] []),aS 1 4 33,ab 5 false] .ret))) (g' 34 [ae 2 10,aS 2 9 34]))))) (g' 35 [aG 0 6,ae 2 9,ao (.bsl 2 1 [.i .i64,.s] [(0,.t 37)]),ao (.app 2 24 [.i .i64,.s] (.t 36) (.t 38)),af 0 6,aS 1 40 39])))) (g' 41 [aA 15]))) (q' 42 [ae 1 6,aS 1 4 42,ab 5 true] .ret)))) [.c 4 true 1,.t 5] [(191,[],a3w)] ?_;intro hb hE;simp only[go_sem,V1];repeat' first|apply cj'|intro hc|exact om'|fail
 refine lk' true [(true,12,0,4992)] [2,4,6,13,14] [4] [] (fun i:{i:Nat // i<=args.length/\(args.take i).all (fun t=>(n8 e t).2)=true}=>[(15,slV (.i .i64 i.1))]) (fun i=>[(8,[.nl l7]),(12,[.ow 4992])]) (fun i=>[(4992,l7,((args.take i.1).map fun t=>(n8 e t).1).map d8.cells)]) (fun i=>args.length-i.1) (⟨0,z0E⟩) ?_;intro S0 hS0 i;obtain⟨i,hi,ha⟩:=i;simp only[go_sem,V1,hS0];repeat' first|apply cj'|intro hc|exact om'|fail
 ·rename_i h1;have hv:n8 e (args.getD i default)=a0n e (args.getD i default).Var:=by
   have:((args.getD i default).Var==[])=false:=by simpa using h1
   rw[n8,this];rfl
  rw[a0i,all_false (p:=fun t=>(n8 e t).2) (d:=default) (i:=i) z0D (by simp only[hv];exact hc)];exact⟨rfl,rfl⟩
 ·rename_i h1;have hv:n8 e (args.getD i default)=a0n e (args.getD i default).Var:=by
   have:((args.getD i default).Var==[])=false:=by simpa using h1
   rw[n8,this];rfl
  (refine lpK_n2 (⟨i+1,z0D,by rw[A7e (d:=default) z0D,ha,hv,hc];rfl⟩) _ z15 ?_;simp only[go_sem,V1,hS0]<;>repeat' first|apply W6|exact on'|fail)
  all_goals(rw[<-a6h (fun t=>(n8 e t).1) (d:=default) (show i<args.length by omega),hv])
 ·have hv:n8 e (args.getD i default)=((args.getD i default).Val,true):=by
   have:((args.getD i default).Var==[])=true:=by simpa using hc
   rw[n8,this];rfl
  (refine lpK_n2 (⟨i+1,z0D,by rw[A7e (d:=default) z0D,ha,hv];rfl⟩) _ z15 ?_;simp only[go_sem,V1,hS0]<;>repeat' first|apply W6|exact on'|fail)
  all_goals(rw[<-a6h (fun t=>(n8 e t).1) (d:=default) (show i<args.length by omega),hv])
 ·rw[a0i,all_of_take z0D ha,q1A z0D];exact⟨rfl,rfl⟩
noncomputable def a9s:CT:=n9 (fun(x:e7×(List d9)) h=>a9D x.1 x.2 h)
@[go_sem] def d5K:=fun x0 x1=>nm' (fP' a9s rfl (⟨x0⟩,x1))
def d0T(s:List UInt8):Bool:=a1m s&&!kept s
def a4E(a:f9):Bool:=d0T a.Name&&decide ((a.Args.length:Int)<=6)&&a.Args.all a0j
def d1t(t:d9):Bool:=t.Var==[]&&(t.Val.N==0&&t.Val.S==[])
def a2V(l:e8):Bool:=bif l.Kind==3 then decide (1<=l.Op)&&decide (l.Op<=4)&&l.Atom.Name==[]&&(l.Atom.Args.length:Int)==0&&a0j l.A&&a0j l.B else(l.Kind==1||l.Kind==2)&&a4E l.Atom&&l.Op==0&&d1t l.A&&d1t l.B
def l8(r:c8):Bool:=decide (1<=r.Kind)&&decide (r.Kind<=3)&&a4E r.Head&&decide ((r.Body.length:Int)<=8)&&r.Body.all a2V
def a2X(d:f7):Bool:=decide (1<=d.Kind)&&decide (d.Kind<=3)&&d0T d.Name&&(decide (0<=d.Arity)&&decide (d.Arity<=6))
def a0g(p:c4):Bool:=p.Decls.all a2X&&decide ((p.Decls.length:Int)<=16)&&decide ((p.Rules.length:Int)<=24)&&p.Rules.all l8
def c2w(s:List UInt8):spZ 182 [(false,[.s s])] [] (.one (false,[.b (d0T s)])):=by
 refine sy' Tryz.func182 (q' 2 [aU false] (q' 3 [am 0,ac 128 [3],am 4,aH 5 true [bm 0,bc 246 [6],bO 7],aP 5 8,aV 2] .ret)) [.t 2] [(128,[],a3s),(246,[],a9m)] ?_;intro hb hE;simp only[go_sem];repeat' first|apply cj'|intro hc|exact om'|fail
 all_goals(first|rfl)
noncomputable def a4U:CT:=l4 (fun(x:(List UInt8))=>c2w x)
@[go_sem] def d5H:=fun s=>nm' (fQ' a4U rfl s)
def c4w(s:List UInt8):spZ 199 [(false,[.s s])] [] (.one (false,[.b (d0T s)])):=by
 refine sy' Tryz.func199 (q' 2 [aU false] (q' 3 [am 0,ac 99 [3],am 4,aH 5 true [bm 0,bc 265 [6],bO 7],aP 5 8,aV 2] .ret)) [.t 2] [(99,[],a3p),(265,[],a8G)] ?_;intro hb hE;simp only[go_sem];repeat' first|apply cj'|intro hc|exact om'|fail
 all_goals(first|rfl)
noncomputable def a5P:CT:=l4 (fun(x:(List UInt8))=>c4w x)
@[go_sem] def d7I:=fun s=>nm' (fQ' a5P rfl s)
def b5R(a:f9):spZ 247 [(true,[.s a.Name,o6 a.Args])] [] (.one (false,[.b (a4E a)])):=by
 refine sy' Tryz.func247 (q' 1 [aX 2 0,aU false] (.seq (q' 5 [aG 0 1,ac 182 [6],aO 7,am 8,aH 9 false [bf 1 1,bL,bN,bC .gtr 12 6],aQ 9 13] (ci 14 (q' 2 [aU false] .ret))) (.seq (q' 15 [aG 1 1,aN,aK 0] (fO 0 19 [ar 18 17] 19 1 (q' 20 [ai 3 16 18,aE 3,ax (w' 4 [.s,.i .i64,.s]),aS 3 4 21] (q' 22 [ae 3 4,ac 312 [22],aO 23] (ci 24 (q' 2 [aU false] .ret)))) (g' 25 [aA 18]))) (q' 2 [aU true] .ret)))) [.t 2] [(182,[],a4U),(312,[],a3d)] ?_;intro hb hE;simp only[go_sem];repeat' first|apply cj'|intro hc|exact om'|fail
 ·rcases hc with h|h
  ·rw[a4E,h];rfl
  ·rw[a4E,V5 (p:=(a.Args.length:Int)<=6) z0D];simp
 have hh:=hc;refine lq' false [16,17] [] [] (fun i:{i:Nat // i<=a.Args.length/\(a.Args.take i).all a0j=true}=>[(18,slV (.i .i64 i.1))]) nl' nl' (fun i=>a.Args.length-i.1) (⟨0,z0E⟩) ?_;intro S0 hS0 i;obtain⟨i,hi,ha⟩:=i;simp only[go_sem,hS0];repeat' first|apply cj'|intro hc|exact om'|fail
 ·rw[a4E,all_false z0D hc,q2B]
 ·exact nx0 ⟨i+1,z0D,y9 default z0D ha hc⟩
 ·rw[a4E,all_of_take z0D ha,hh.1,V3 z0D];rfl
noncomputable def a3c:CT:=l4 (fun(x:f9)=>b5R x)
@[go_sem] def d1T:=fun x0 x1=>nm' (fQ' a3c rfl ⟨x0,x1⟩)
def b8K(l:e8):spZ 248 [(true,[.i .i64 l.Kind,.s l.Atom.Name,o6 l.Atom.Args,.i .i64 l.Op,.s l.A.Var,.i .i64 l.A.Val.N,.s l.A.Val.S,.s l.B.Var,.i .i64 l.B.Val.N,.s l.B.Val.S])] [] (.one (false,[.b (a2V l)])):=by
 refine sy' Tryz.func248 (q' 1 [aX 10 0,aU false] (.seq (q' 4 [aG 0 1,aC .eql 5 3] (ci 6 (q' 7 [aG 3 1,aC .geq 8 1,am 9,aH 10 true [bf 3 1,bL,bC .leq 12 4],aP 10 13,am 14,aH 15 true [bf 1 1,bF 0,bL,bY .eql 18 []],aP 15 19,am 20,aH 21 true [bf 1 1,bF 1,bL,bN,bC .eql 25 0],aP 21 26,am 27,aH 28 true [bf 4 1,bE 3,bc 312 [30]],aP 28 31,am 32,aH 33 true [bf 7 1,bE 3,bc 312 [35]],aP 33 36,aV 2] .ret))) (q' 3 [ax (o' 38 (.bld [.s,.i .i64,.s] [])),aw [.s,.i .i64,.s],aS 3 3 38] (q' 39 [aG 0 1,aC .eql 40 1,am 41,aH 42 false [bf 0 1,bL,bC .eql 44 2],aQ 42 45,am 46,aH 47 true [bf 1 1,bE 2,bc 247 [49]],aP 47 50,am 51,aH 52 true [bf 3 1,bL,bC .eql 54 0],aP 52 55,am 56,aH 57 true [bf 4 1,bE 3,be 3 3,bo (.eqs false [.s,.i .i64,.s] (.t 59) (.t 60))],aP 57 61,am 62,aH 63 true [bf 7 1,bE 3,be 3 3,bo (.eqs false [.s, .i .i64,.s] (.t 65) (.t 66))],aP 63 67,aV 2] .ret)))) [.t 2] [(312,[],a3d),(247,[],a3c)] ?_;intro hb hE;simp only[go_sem];repeat' first|apply cj'|intro hc|exact om'|fail
 ·rw[a2V,hc];rfl
 ·rw[a2V,hc];rfl
noncomputable def a7X:CT:=l4 (fun(x:e8)=>b8K x)
@[go_sem] def d3y:=fun x0 x1 x2 x3 x4 x5 x6 x7 x8 x9=>nm' (fQ' a7X rfl ⟨x0,⟨x1,x2⟩,x3,⟨x4,⟨x5,x6⟩⟩,⟨x7,⟨x8,x9⟩⟩⟩)
def b5S(r:c8):spZ 183 [(true,[.i .i64 r.Kind,.s r.Head.Name,o6 r.Head.Args,a0s r.Body])] [] (.one (false,[.b (l8 r)])):=by
 refine sy' Tryz.func183 (q' 1 [aX 4 0,aU false] (.seq (q' 4 [aG 0 1,aC .lss 5 1,am 6,aH 7 false [bf 0 1,bL,bC .gtr 9 3],aQ 7 10,am 11,aH 12 false [bf 1 1,bE 2,bc 247 [14],bO 15],aQ 12 16,am 17,aH 18 false [bf 3 1,bL,bN,bC .gtr 21 8],aQ 18 22] (ci 23 (q' 2 [aU false] .ret))) (.seq (q' 24 [aG 3 1,aN,aK 0] (fO 0 28 [ar 27 26] 28 1 (q' 29 [am 27,aV 3] (q' 30 [aG 3 1,am 3,aI 10,aE 10,ac 248 [34],aO 35] (ci 36 (q' 2 [aU false] .ret)))) (g' 37 [aA 27]))) (q' 2 [aU true] .ret)))) [.t 2] [(248,[],a7X),(247,[],a3c)] ?_;intro hb hE;simp only[go_sem];repeat' first|apply cj'|intro hc|exact om'|fail
 ·rcases hc with((h|h)|h)|h
  ·rw[l8,V5 (p:=1<=r.Kind) z0D];simp
  ·rw[l8,V5 (p:=r.Kind<=3) z0D];simp
  ·rw[l8,h];simp
  ·rw[l8,V5 (p:=(r.Body.length:Int)<=8) z0D];simp
 have hh:=hc;refine lq' false [1,26] [2] [] (fun i:{i:Nat // i<=r.Body.length/\(r.Body.take i).all a2V=true}=>[(27,slV (.i .i64 i.1))]) nl' nl' (fun i=>r.Body.length-i.1) (⟨0,z0E⟩) ?_;intro S0 hS0 i;obtain⟨i,hi,ha⟩:=i;simp only[go_sem,hS0];repeat' first|apply cj'|intro hc|exact om'|fail
 ·rw[l8,all_false z0D hc,q2B]
 ·exact nx0 ⟨i+1,z0D,y9 default z0D ha hc⟩
 ·rw[l8,all_of_take z0D ha,hh.1.2,V3 z0D,V3 z0D,V3 z0D];rfl
noncomputable def a1X:CT:=l4 (fun(x:c8)=>b5S x)
@[go_sem] def d1U:=fun x0 x1 x2 x3=>nm' (fQ' a1X rfl ⟨x0,⟨x1,x2⟩,x3⟩)
def b5N(p:c4):spZ 130 [(true,[p6 p.Decls,o9 p.Rules])] [] (.one (false,[.b (a0g p)])):=by
 refine sy' Tryz.func130 (q' 1 [aX 2 0,aU false] (.seq (q' 6 [aG 0 1,aN,aC .gtr 8 16,am 9,aH 10 false [bf 1 1,bL,bN,bC .gtr 13 24],aQ 10 14] (ci 15 (q' 2 [aU false] .ret))) (.seq (q' 16 [aG 0 1,aN,aK 0] (fO 0 20 [ar 19 18] 20 1 (q' 21 [ai 3 17 19,aE 3,ax (w' 4 [.i .i64,.s,.i .i64]),aS 3 4 22] (q' 23 [aG 0 4,aC .lss 24 1,am 25,aH 26 false [bf 0 4,bL,bC .gtr 28 3],aQ 26 29,am 30,aH 31 false [bf 1 4,bL,bc 182 [33],bO 34],aQ 31 35,am 36,aH 37 false [bf 2 4,bL,bC .lss 39 0],aQ 37 40,am 41,aH 42 false [bf 2 4,bL,bC .gtr 44 6],aQ 42 45] (ci 46 (q' 2 [aU false] .ret)))) (g' 47 [aA 19]))) (.seq (q' 48 [aG 1 1,aN,aK 0] (fO 2 52 [ar 51 50] 52 3 (q' 53 [am 51,aV 5] (q' 54 [aG 1 1,am 5,aI 4,aE 4,ac 183 [58],aO 59] (ci 60 (q' 2 [aU false] .ret)))) (g' 61 [aA 51]))) (q' 2 [aU true] .ret))))) [.t 2] [(183,[],a1X),(182,[],a4U)] ?_;intro hb hE;simp only[go_sem];repeat' first|apply cj'|intro hc|exact om'|fail
 ·rcases hc with h|h
  ·rw[a0g,V5 (p:=(p.Decls.length:Int)<=16) z0D];simp
  ·rw[a0g,V5 (p:=(p.Rules.length:Int)<=24) z0D];simp
 have hh:=hc;refine lq' false [1,17,18] [2] [] (fun i:{i:Nat // i<=p.Decls.length/\(p.Decls.take i).all a2X=true}=>[(19,slV (.i .i64 i.1))]) nl' nl' (fun i=>p.Decls.length-i.1) (⟨0,z0E⟩) ?_;intro S0 hS0 i;obtain⟨i,hi,ha⟩:=i;simp only[go_sem,hS0];repeat' first|apply cj'|intro hc|exact om'|fail
 ·have h:a2X (p.Decls.getD i default)=false:=by clear hb hS0 ha;grind [a2X]
  rw[a0g,all_false z0D h];rfl
 ·have h:a2X (p.Decls.getD i default)=true:=by clear hb hS0 ha;grind [a2X]
  exact nx0 ⟨i+1,z0D,y9 default z0D ha h⟩
 ·have hd:p.Decls.all a2X=true:=all_of_take z0D ha;clear ha;refine lq' false [1,50] [2] [] (fun i:{i:Nat // i<=p.Rules.length/\(p.Rules.take i).all l8=true}=>[(51,slV (.i .i64 i.1))]) nl' nl' (fun i=>p.Rules.length-i.1) (⟨0,z0E⟩) ?_;intro S1 hS1 i;obtain⟨i,hi,ha⟩:=i;simp only[go_sem,hS0,hS1];repeat' first|apply cj'|intro hc|exact om'|fail
  ·rw[a0g,all_false (l:=p.Rules) z0D hc];simp
  ·exact nx1 ⟨i+1,z0D,y9 default z0D ha hc⟩
  ·rw[a0g,hd,all_of_take (l:=p.Rules) z0D ha,V3 z0D,V3 z0D];rfl
noncomputable def a3b:CT:=l4 (fun(x:c4)=>b5N x)
@[go_sem] def d1P:=fun x0 x1=>nm' (fQ' a3b rfl ⟨x0,x1⟩)
def b8j(t:d9):spZ 318 [(true,[.s t.Var,.i .i64 t.Val.N,.s t.Val.S])] [] (.one (false,[.b (!a0j t)])):=by
 refine sy' Tryz.func318 (q' 1 [aX 3 0,aU false] (q' 3 [ae 3 1,ac 319 [3],aO 4,aV 2] .ret)) [.t 2] [(319,[],a5R)] ?_;intro hb hE;simp only[go_sem];repeat' first|apply cj'|intro hc|exact om'|fail
 all_goals(first|rfl)
noncomputable def a7C:CT:=l4 (fun(x:d9)=>b8j x)
@[go_sem] def d2Y:=fun x0 x1 x2=>nm' (fQ' a7C rfl ⟨x0,⟨x1,x2⟩⟩)
def c1z(l:List d9):spZ 345 [(false,[o6 l]),(false,[.f 318 []])] [] (.one (false,[.i .i64 (a0A (fun y=>!a0j y) l)])):=by
 refine sy' Tryz.func345 (q' 4 [aK 0] (.seq (q' 6 [am 0,aN,aK 0] (fO 0 9 [ar 8 7] 9 1 (q' 10 [am 8,aV 5] (q' 11 [aM [1,0,5],aI 3,aE 3,ao (.callv (.t 11) [.t 15])] (ci 16 (q' 17 [am 5,aV 4] .ret)))) (g' 18 [aA 8]))) (q' 4 [ao (.mov (.k (.v false [.c (.i .i64 (-1))])))] .ret))) [.t 4] [(318,[],a7C)] ?_;intro hb hE;simp only[go_sem];repeat' first|apply cj'|intro hc|exact om'|fail
 refine lq' false [0,1,7] [] [] (fun i:{i:Nat // i<=l.length/\(l.take i).any (fun y=>!a0j y)=false}=>[(8,slV (.i .i64 i.1))]) nl' nl' (fun i=>l.length-i.1) (⟨0,z0E⟩) ?_;intro S0 hS0 i;obtain⟨i,hi,ha⟩:=i;simp only[go_sem,hS0];repeat' first|apply cj'|intro hc|exact om'|fail
 ·exact(y5 (p:=fun y=>!a0j y) (d:=default) z0D ha z0F).symm
 ·exact nx0 ⟨i+1,z0D,u6 (p:=fun y=>!a0j y) default z0D ha z0F⟩
 ·exact(w9 z0K).symm
noncomputable def a8F:CT:=l4 (fun(x:(List d9))=>c1z x)
@[go_sem] def d4I:=fun l=>nm' (fQ' a8F rfl l)
def c1v(l:List d9):spZ 317 [(false,[o6 l]),(false,[.f 318 []])] [] (.one (false,[.b (l.any (fun y=>!a0j y))])):=by
 refine sy' Tryz.func317 (q' 4 [aU false] (q' 5 [aM [0,1],ac 345 [5,6],aC .geq 7 0,aV 4] .ret)) [.t 4] [(345,[],a8F)] ?_;intro hb hE;simp only[go_sem];repeat' first|apply cj'|intro hc|exact om'|fail
 ·exact a0Z _ _
noncomputable def a8D:CT:=l4 (fun(x:(List d9))=>c1v x)
@[go_sem] def d4G:=fun l=>nm' (fQ' a8D rfl l)
def c4n(a:f9):spZ 266 [(true,[.s a.Name,o6 a.Args])] [] (.one (false,[.b (a4E a)])):=by
 refine sy' Tryz.func266 (q' 1 [aX 2 0,aU false] (q' 3 [aG 0 1,ac 199 [4],am 5,aH 6 true [bf 1 1,bL,bN,bC .leq 9 6],aP 6 10,am 11,aH 12 true [bf 1 1,bL,bo (.call 317 [.t 14,.k (.v false [.c (.f 318 [])])]),bO 15],aP 12 16,aV 2] .ret)) [.t 2] [(199,[],a5P),(317,[],a8D)] ?_;intro hb hE;simp only[go_sem];repeat' first|apply cj'|intro hc|exact om'|fail
 all_goals(rw[a4E];grind)
noncomputable def a5M:CT:=l4 (fun(x:f9)=>c4n x)
@[go_sem] def d7x:=fun x0 x1=>nm' (fQ' a5M rfl ⟨x0,x1⟩)
def c7T(l:e8):spZ 269 [(true,[.i .i64 l.Kind,.s l.Atom.Name,o6 l.Atom.Args,.i .i64 l.Op,.s l.A.Var,.i .i64 l.A.Val.N,.s l.A.Val.S,.s l.B.Var,.i .i64 l.B.Val.N,.s l.B.Val.S])] [] (.one (false,[.b (a2V l)])):=by
 refine sy' Tryz.func269 (q' 1 [aX 10 0,aU false] (.seq (q' 3 [aG 0 1] (.block 0 (.seq (q' 6 [aC .eql 4 1,aV 5] (cd 5 .skip (g' 7 [aC .eql 4 2,aV 5]))) (cd 5 (q' 8 [af 1 1,aE 2,ac 266 [9],am 10,aH 11 true [bf 3 1,bL,bC .eql 13 0],aP 11 14,am 15,aH 16 true [bf 4 1,bE 3,bo (.bld [.s,.i .i64,.s] []),bo (.eqs false [.s,.i .i64,.s] (.t 18) (.t 19))],aP 16 20,am 21,aH 22 true [bf 7 1,bE 3,bo (.bld [.s,.i .i64,.s] []),bo (.eqs false [.s,.i .i64,.s] (.t 24) (.t 25))],aP 22 26,aV 2] .ret) (q' 29 [aC .eql 4 3,aV 28] (ci 28 (q' 30 [aG 3 1,aC .geq 31 1,am 32,aH 33 true [bf 3 1,bL,bC .leq 35 4],aP 33 36,am 37,aH 38 true [bf 1 1,bF 0,bL,bY .eql 41 []],aP 38 42,am 43,aH 44 true [bf 1 1,bF 1,bL,bN,bC .eql 48 0],aP 44 49,am 50,aH 51 true [bf 4 1,bE 3,bc 319 [53]],aP 51 54,am 55,aH 56 true [bf 7 1,bE 3,bc 319 [58]],aP 56 59,aV 2] .ret))))))) (q' 2 [aU false] .ret))) [.t 2] [(319,[],a5R),(266,[],a5M)] ?_;intro hb hE;simp only[go_sem];repeat' first|apply cj'|intro hc|exact om'|fail
 all_goals(first|rfl|(clear hb;(try simp only[a9L,q5M]);first|rfl|(simp only[a2V,d1t];done)|grind [a2V,d1t]))
noncomputable def b2R:CT:=l4 (fun(x:e8)=>c7T x)
@[go_sem] def d9N:=fun x0 x1 x2 x3 x4 x5 x6 x7 x8 x9=>nm' (fQ' b2R rfl ⟨x0,⟨x1,x2⟩,x3,⟨x4,⟨x5,x6⟩⟩,⟨x7,⟨x8,x9⟩⟩⟩)
def b8r(l:e8):spZ 268 [(true,[.i .i64 l.Kind,.s l.Atom.Name,o6 l.Atom.Args,.i .i64 l.Op,.s l.A.Var,.i .i64 l.A.Val.N,.s l.A.Val.S,.s l.B.Var,.i .i64 l.B.Val.N,.s l.B.Val.S])] [] (.one (false,[.b (!a2V l)])):=by
 refine sy' Tryz.func268 (q' 1 [aX 10 0,aU false] (q' 3 [ae 10 1,ac 269 [3],aO 4,aV 2] .ret)) [.t 2] [(269,[],b2R)] ?_;intro hb hE;simp only[go_sem];repeat' first|apply cj'|intro hc|exact om'|fail
 all_goals(first|rfl|(clear hb;(try simp only[a9L,q5M]);first|rfl|(simp only[a2V];done)|grind [a2V]))
noncomputable def a7I:CT:=l4 (fun(x:e8)=>b8r x)
@[go_sem] def d3g:=fun x0 x1 x2 x3 x4 x5 x6 x7 x8 x9=>nm' (fQ' a7I rfl ⟨x0,⟨x1,x2⟩,x3,⟨x4,⟨x5,x6⟩⟩,⟨x7,⟨x8,x9⟩⟩⟩)
@[go_sem] def c5t:ACode:=q' 4 [aK 0] (.seq (q' 6 [am 0,aN,aK 0] (fO 0 9 [ar 8 7] 9 1 (q' 10 [am 8,aV 5] (q' 11 [aM [1,0,5],aI 10,aE 10,ao (.callv (.t 11) [.t 15])] (ci 16 (q' 17 [am
 5,aV 4] .ret)))) (g' 18 [aA 8]))) (q' 4 [ao (.mov (.k (.v false [.c (.i .i64 (-1))])))] .ret))
def e1S(l:List e8):spZ 320 [(false,[a0s l]),(false,[.f 268 []])] [] (.one (false,[.i .i64 (a0A (fun y=>!a2V y) l)])):=by
 refine sy' Tryz.func320 c5t [.t 4] [(268,[],a7I)] ?_;intro hb hE;simp only[go_sem];repeat' first|apply cj'|intro hc|exact om'|fail
 refine lq' false [0,1,7] [] [] (fun i:{i:Nat // i<=l.length/\(l.take i).any (fun y=>!a2V y)=false}=>[(8,slV (.i .i64 i.1))]) nl' nl' (fun i=>l.length-i.1) (⟨0,z0E⟩) ?_;intro S0 hS0 i;obtain⟨i,hi,ha⟩:=i;simp only[go_sem,hS0];repeat' first|apply cj'|intro hc|exact om'|fail
 ·exact(y5 (p:=fun y=>!a2V y) (d:=default) z0D ha z0F).symm
 ·exact nx0 ⟨i+1,z0D,u6 (p:=fun y=>!a2V y) default z0D ha z0F⟩
 ·exact(w9 z0K).symm
noncomputable def c9w:CT:=l4 (fun(x:(List e8))=>e1S x)
@[go_sem] def c_idxLit_eq:=fun l=>nm' (fQ' c9w rfl l)
@[go_sem] def c5s:ACode:=q' 4 [aU false] (q' 5 [aM [0,1],ac 320 [5,6],aC .geq 7 0,aV 4] .ret)
def e1O(l:List e8):spZ 267 [(false,[a0s l]),(false,[.f 268 []])] [] (.one (false,[.b (l.any (fun y=>!a2V y))])):=by
 refine sy' Tryz.func267 c5s [.t 4] [(320,[],c9w)] ?_;intro hb hE;simp only[go_sem];repeat' first|apply cj'|intro hc|exact om'|fail
 ·exact a0Z _ _
noncomputable def c9s:CT:=l4 (fun(x:(List e8))=>e1O x)
@[go_sem] def c_conLit_eq:=fun l=>nm' (fQ' c9s rfl l)
def c4x(r:c8):spZ 202 [(true,[.i .i64 r.Kind,.s r.Head.Name,o6 r.Head.Args,a0s r.Body])] [] (.one (false,[.b (l8 r)])):=by
 refine sy' Tryz.func202 (q' 1 [aX 4 0,aU false] (q' 3 [aG 0 1,aC .geq 4 1,am 5,aH 6 true [bf 0 1,bL,bC .leq 8 3],aP 6 9,am 10,aH 11 true [bf 1 1,bE 2,bc 266 [13]],aP 11 14,am 15,aH 16 true [bf 3 1,bL,bN,bC .leq 19 8],aP 16 20,am 21,aH 22 true [bf 3 1,bL,bo (.call 267 [.t 24,.k (.v false [.c (.f 268 [])])]),bO 25],aP 22 26,aV 2] .ret)) [.t 2] [(266,[],a5M),(267,[],c9s)] ?_;intro hb hE;simp only[go_sem];repeat' first|apply cj'|intro hc|exact om'|fail
 all_goals(first|rfl|(clear hb;(try simp only[a9L,q5M]);first|rfl|(simp only[l8];done)|grind [l8]))
noncomputable def a5Q:CT:=l4 (fun(x:c8)=>c4x x)
@[go_sem] def d7J:=fun x0 x1 x2 x3=>nm' (fQ' a5Q rfl ⟨x0,⟨x1,x2⟩,x3⟩)
def b1N(r:c8):spZ 201 [(true,[.i .i64 r.Kind,.s r.Head.Name,o6 r.Head.Args,a0s r.Body])] [] (.one (false,[.b (!l8 r)])):=by
 refine sy' Tryz.func201 (q' 1 [aX 4 0,aU false] (q' 3 [ae 4 1,ac 202 [3],aO 4,aV 2] .ret)) [.t 2] [(202,[],a5Q)] ?_;intro hb hE;simp only[go_sem];repeat' first|apply cj'|intro hc|exact om'|fail
 all_goals(first|rfl|(clear hb;(try simp only[a9L,q5M]);first|rfl|(simp only[l8];done)|grind [l8]))
noncomputable def a4H:CT:=l4 (fun(x:c8)=>b1N x)
@[go_sem] def c8E:=fun x0 x1 x2 x3=>nm' (fQ' a4H rfl ⟨x0,⟨x1,x2⟩,x3⟩)
@[go_sem] def b9x:ACode:=q' 4 [aK 0] (.seq (q' 6 [am 0,aN,aK 0] (fO 0 9 [ar 8 7] 9 1 (q' 10 [am 8,aV 5] (q' 11 [aM [1,0,5],aI 4,aE 4,ao (.callv (.t 11) [.t 15])] (ci 16 (q' 17 [am 5,aV
 4] .ret)))) (g' 18 [aA 8]))) (q' 4 [ao (.mov (.k (.v false [.c (.i .i64 (-1))])))] .ret))
def d8P(l:List c8):spZ 149 [(false,[o9 l]),(false,[.f 201 []])] [] (.one (false,[.i .i64 (a0A (fun y=>!l8 y) l)])):=by
 refine sy' Tryz.func149 b9x [.t 4] [(201,[],a4H)] ?_;intro hb hE;simp only[go_sem];repeat' first|apply cj'|intro hc|exact om'|fail
 refine lq' false [0,1,7] [] [] (fun i:{i:Nat // i<=l.length/\(l.take i).any (fun y=>!l8 y)=false}=>[(8,slV (.i .i64 i.1))]) nl' nl' (fun i=>l.length-i.1) (⟨0,z0E⟩) ?_;intro S0 hS0 i;obtain⟨i,hi,ha⟩:=i;simp only[go_sem,hS0];repeat' first|apply cj'|intro hc|exact om'|fail
 ·exact(y5 (p:=fun y=>!l8 y) (d:=default) z0D ha z0F).symm
 ·exact nx0 ⟨i+1,z0D,u6 (p:=fun y=>!l8 y) default z0D ha z0F⟩
 ·exact(w9 z0K).symm
noncomputable def c5C:CT:=l4 (fun(x:(List c8))=>d8P x)
@[go_sem] def e3b:=fun l=>nm' (fQ' c5C rfl l)
def d8O(l:List c8):spZ 200 [(false,[o9 l]),(false,[.f 201 []])] [] (.one (false,[.b (l.any (fun y=>!l8 y))])):=by
 refine sy' Tryz.func200 (q' 4 [aU false] (q' 5 [aM [0,1],ac 149 [5,6],aC .geq 7 0,aV 4] .ret)) [.t 4] [(149,[],c5C)] ?_;intro hb hE;simp only[go_sem];repeat' first|apply cj'|intro hc|exact om'|fail
 ·exact a0Z _ _
noncomputable def c5B:CT:=l4 (fun(x:(List c8))=>d8O x)
@[go_sem] def e3a:=fun l=>nm' (fQ' c5B rfl l)
def d0H(n:Int)(most:Int):spZ 156 [(false,[.i .i64 n]),(false,[.i .i64 most])] [] (.one (false,[.b (decide (0<=n)&&decide (n<=most))])):=by
 refine sy' Tryz.func156 (q' 4 [aU false] (q' 5 [am 0,aC .geq 5 0,am 6,aH 7 true [bm 0,bm 1,bD .leq 8 9],aP 7 10,aV 4] .ret)) [.t 4] [] ?_;intro hb hE;simp only[go_sem];repeat' first|apply cj'|intro hc|exact om'|fail
 all_goals(first|rfl)
noncomputable def a8V:CT:=l4 (fun(x:Int×Int)=>d0H x.1 x.2)
@[go_sem] def e1h:=fun n x0=>nm' (fQ' a8V rfl (n,x0))
def b5A(p:c4):spZ 148 [(true,[p6 p.Decls,o9 p.Rules])] [] (.one (false,[.b (a0g p)])):=by
 refine sy' Tryz.func148 (q' 1 [aX 2 0,aU false] (.seq (q' 5 [aG 0 1,aN,aK 0] (fO 0 9 [ar 8 7] 9 1 (q' 10 [ai 3 6 8,aE 3,ax (w' 4 [.i .i64,.s,.i .i64]),aS 3 4 11] (q' 12 [aG 0 4,aC .lss 13 1,am 14,aH 15 false [bf 0 4,bL,bC .gtr 17 3],aQ 15 18,am 19,aH 20 false [bf 1 4,bL,bc 199 [22],bO 23],aQ 20 24,am 25,aH 26 false [bf 2 4,bL,bo (.call 156 [.t 28,.k (.v false [.c (.i .i64 6)])]),bO 29],aQ 26 30] (ci 31 (q' 2 [aU false] .ret)))) (g' 32 [aA 8]))) (q' 33 [aG 0 1,aN,aC .leq 35 16,am 36,aH 37 true [bf 1 1,bL,bN,bC .leq 40 24],aP 37 41,am 42,aH 43 true [bf 1 1,bL,bo (.call 200 [.t 45,.k (.v false [.c (.f 201 [])])]),bO 46],aP 43 47,aV 2] .ret))) [.t 2] [(199,[],a5P),(156,[],a8V),(200,[],c5B)] ?_;intro hb hE;simp only[go_sem];repeat' first|apply cj'|intro hc|exact om'|fail
 refine lq' false [1,6,7] [2] [] (fun i:{i:Nat // i<=p.Decls.length/\(p.Decls.take i).all a2X=true}=>[(8,slV (.i .i64 i.1))]) nl' nl' (fun i=>p.Decls.length-i.1) (⟨0,z0E⟩) ?_;intro S0 hS0 i;obtain⟨i,hi,ha⟩:=i;simp only[go_sem,hS0];repeat' first|apply cj'|intro hc|exact om'|fail
 ·have h:a2X (p.Decls.getD i default)=false:=by clear hb hS0 ha;grind [a2X]
  rw[a0g,all_false z0D h];rfl
 ·have h:a2X (p.Decls.getD i default)=true:=by clear hb hS0 ha;grind [a2X]
  exact nx0 ⟨i+1,z0D,y9 default z0D ha h⟩
 ·have hd:p.Decls.all a2X=true:=all_of_take z0D ha;rw[a0g,hd,a9L,q5M];rfl
noncomputable def a2Z:CT:=l4 (fun(x:c4)=>b5A x)
@[go_sem] def d1C:=fun x0 x1=>nm' (fQ' a2Z rfl ⟨x0,x1⟩)
def a0O(p:c4)(name:List UInt8):f7:=(p.Decls.find? fun d=>d.Name==name).getD default
def a0H(p:c4)(name:List UInt8):Bool:=p.Decls.any fun d=>d.Name==name
def a9O{p:α->Bool}(h:l.any p=false):l.find? p=none:=by
 rw[q5A];rw[q2J]at h;exact h
def c7r{p:α->Bool}{i:Nat}(d:α)(hi:i<l.length)(ha:(l.take i).any p=false)(hp:p (l.getD i d)=true):l.find? p=some (l.getD i d):=by
 have hg:l.drop i=l.getD i d::l.drop (i+1):=by rw[W5,V7 hi];exact(List.getElem_cons_drop hi).symm
 have e:l.find? p=(l.take i++l.drop i).find? p:=by rw[q1X]
 rw[e,q5H,a9O ha,hg];simp only[Option.none_or,q3Y,hp]
def a9N{p:c4}{name:List UInt8}{i:Nat}(hi:i<p.Decls.length)(ha:((p.Decls.take i).any fun d=>d.Name==name)=false)(hp:((p.Decls.getD i default).Name==name)=true):a0O p name=p.Decls.getD i default/\a0H p name=true:=by
 refine⟨?_, ?_⟩
 ·rw[a0O,c7r default hi ha hp];rfl
 ·exact any_true (d:=default) hi hp
def a6M{p:c4}{name:List UInt8}(ha:(p.Decls.any fun d=>d.Name==name)=false):a0O p name=default/\a0H p name=false:=by
 refine⟨?_,ha⟩;rw[a0O,a9O ha];rfl
def c2y(p:c4)(name:List UInt8):spZ 90 [(true,[p6 p.Decls,o9 p.Rules]),(false,[.s name])] [] (.one (true,[.i .i64 ((a0O p name).Kind),.s ((a0O p name).Name),.i .i64 ((a0O p name).Arity)])):=by
 refine sy' Tryz.func90 (q' 2 [aX 2 0,ax (w' 4 [.i .i64,.s,.i .i64])] (.seq (q' 7 [aG 0 2,aN,aK 0] (fO 0 11 [ar 10 9] 11 1 (q' 12 [ai 3 8 10,aE 3,ax (w' 6 [.i .i64,.s,.i .i64]),aS 3 6 13] (q' 14 [aG 1 6,am 1,aD .eql 15 16] (ci 17 (q' 18 [ae 3 6,aS 3 4 18] .ret)))) (g' 19 [aA 10]))) (q' 20 [ao (.bld [.i .i64,.s,.i .i64] []),aS 3 4 20] .ret))) [.c 4 true 3] [] ?_;intro hb hE;simp only[go_sem];repeat' first|apply cj'|intro hc|exact om'|fail
 refine lq' false [1,4,8,9] [] [] (fun i:{i:Nat // i<=p.Decls.length/\(p.Decls.take i).any (fun d=>d.Name==name)=false}=>[(10,slV (.i .i64 i.1))]) (fun i=>[(8,[.c (.i .i64 0),.c (.s []),.c (.i .i64 0)])]) nl' (fun i=>p.Decls.length-i.1) (⟨0,z0E⟩) ?_;intro S0 hS0 i;obtain⟨i,hi,ha⟩:=i;simp only[go_sem,hS0];repeat' first|apply cj'|intro hc|exact om'|fail
 ·rw[(a9N z0D ha hc).1];exact⟨⟨rfl,rfl⟩,rfl⟩
 ·exact nx0 ⟨i+1,z0D,u6 default z0D ha hc⟩
 ·rw[(a6M z0K).1];exact⟨⟨rfl,rfl⟩,rfl⟩
noncomputable def a1I:CT:=l4 (fun(x:c4×(List UInt8))=>c2y x.1 x.2)
@[go_sem] def d5J:=fun x0 x1 x2=>nm' (fQ' a1I rfl (⟨x0,x1⟩,x2))
def c4r(p:c4)(name:List UInt8):spZ 198 [(true,[p6 p.Decls,o9 p.Rules]),(false,[.s name])] [] (.tup [(true,[.i .i64 (((a0O p name,a0H p name).1).Kind),.s (((a0O p name,a0H p name).1).Name),.i .i64 (((a0O p name,a0H p name).1).Arity)]),(false,[.b ((a0O p name,a0H p name).2)])]):=by
 refine sy' Tryz.func198 (q' 2 [aX 2 0,ax (w' 4 [.i .i64,.s,.i .i64]),ab 5 false] (.seq (q' 8 [aG 0 2,aN,aK 0] (fO 0 12 [ar 11 10] 12 1 (q' 13 [ai 3 9 11,aE 3,ax (w' 7 [.i .i64,.s,.i .i64]),aS 3 7 14] (q' 15 [aG 1 7,am 1,aD .eql 16 17] (ci 18 (q' 19 [ae 3 7,aS 3 4 19,ab 5 true] .ret)))) (g' 20 [aA 11]))) (q' 21 [ao (.bld [.i .i64,.s,.i .i64] []),aS 3 4 21,ab 5 false] .ret))) [.c 4 true 3,.t 5] [] ?_;intro hb hE;simp only[go_sem];repeat' first|apply cj'|intro hc|exact om'|fail
 refine lq' false [1,4,9,10] [] [] (fun i:{i:Nat // i<=p.Decls.length/\(p.Decls.take i).any (fun d=>d.Name==name)=false}=>[(11,slV (.i .i64 i.1))]) (fun i=>[(8,[.c (.i .i64 0),.c (.s []),.c (.i .i64 0)])]) nl' (fun i=>p.Decls.length-i.1) (⟨0,z0E⟩) ?_;intro S0 hS0 i;obtain⟨i,hi,ha⟩:=i;simp only[go_sem,hS0];repeat' first|apply cj'|intro hc|exact om'|fail
 ·have h:=a9N z0D ha hc;rw[h.1,h.2];exact⟨⟨⟨rfl,rfl⟩,rfl⟩,rfl⟩
 ·exact nx0 ⟨i+1,z0D,u6 default z0D ha hc⟩
 ·have h:=a6M z0K;rw[h.1,h.2];exact⟨⟨⟨rfl,rfl⟩,rfl⟩,rfl⟩
noncomputable def a5O:CT:=l4 (fun(x:c4×(List UInt8))=>c4r x.1 x.2)
@[go_sem] def d7B:=fun x0 x1 x2=>nm' (fQ' a5O rfl (⟨x0,x1⟩,x2))
def b3p{p:α->Bool}(h:l.any p=true):∃x∈l,p x=true/\l.find? p=some x:=by
 cases e:l.find? p with
 | none=>rw[q5A]at e;rw[q3E]at h;obtain⟨x,hx,hp⟩:=h;exact absurd hp (e x hx)
 | some x=>exact⟨x,q5O e,List.find?_some e,rfl⟩
def c7v{p:c4}{name:List UInt8}(h:a0g p=true):(a0H p name=true->1<=(a0O p name).Kind/\(a0O p name).Kind<=3)/\(a0H p name=false->a0O p name=default):=by
 refine⟨fun hd=>?_,fun hd=>(a6M hd).1⟩;obtain⟨x,hx,_,e⟩:=b3p hd;rw[a0O,e];simp only[a0g,W3,q0I]at h;have:=h.1.1.1 x hx;simp only[a2X,K7]at this;exact⟨this.1.1.1,this.1.1.2⟩
def c7w{p:c4}{name:List UInt8}(h:a0g p=true):((a0O p name).Kind==0)=!a0H p name:=by
 have:=c7v (name:=name) h;cases hd:a0H p name with
 | true=>have:=this.1 hd;simp;omega
 | false=>rw[this.2 hd];rfl
def d1p(l:List Int):b4c l=a1a iLt l:=by
 unfold b4c a1a
 congr 1
 funext x y
 rw[iLt,q3L];simp
def d1r(l:List (List UInt8)):b4d l=a1a Op.bytesLess l:=by
 unfold b4d a1a
 congr 1
 funext x y
 rw[d1l,q3L];simp
def d8S(l:List Int)(hpre:l.length<4611686018427387904):spZ 107 [(false,[.sl true [.i .i64 0] (l.map a0F)])] [(0,(false,[.sl true [.i .i64 0] ((a1a iLt l).map a0F)]))] (.tup []):=by
 rw[<-d1p];exact d9p Tryz.l189 z0L l hpre
noncomputable def c5G:CT:=n9 (fun(x:(List Int)) h=>d8S x h)
@[go_sem] def e3e:=fun l=>nm' (fP' c5G rfl l)
def d8V(l:List (List UInt8))(hpre:l.length<4611686018427387904):spZ 271 [(false,[.sl true [.s []] (l.map a0M)])] [(0,(false,[.sl true [.s []] ((a1a Op.bytesLess l).map a0M)]))] (.tup []):=by
 rw[<-d1r];exact d9r Tryz.l190 z0L l hpre
noncomputable def b5g:CT:=n9 (fun(x:(List (List UInt8))) h=>d8V x h)
@[go_sem] def e3h:=fun l=>nm' (fP' b5g rfl l)
def e1L(l:List Int):spZ 108 [(false,[.sl true [.i .i64 0] (l.map a0F)])] [] (.one (false,[.sl true [.i .i64 0] ((Lib.compact l).map a0F)])):=by
 exact c7i Tryz.l20 z0L l
noncomputable def c9q:CT:=l4 (fun(x:(List Int))=>e1L x)
@[go_sem] def c_comInt_eq:=fun l=>nm' (fQ' c9q rfl l)
def e1M(l:List (List UInt8)):spZ 272 [(false,[.sl true [.s []] (l.map a0M)])] [] (.one (false,[.sl true [.s []] ((Lib.compact l).map a0M)])):=by
 exact c7k Tryz.l194 z0L l
noncomputable def c0H:CT:=l4 (fun(x:(List (List UInt8)))=>e1M x)
@[go_sem] def c_comStr_eq:=fun l=>nm' (fQ' c0H rfl l)
abbrev sLt:List UInt8->List UInt8->Bool:=Op.bytesLess
def a1O(lt:α->α->Bool)(s:α)(t:List α):List α:=bif t.any (lt s)then t.takeWhile (fun x=>!lt s x)++s::t.dropWhile (fun x=>!lt s x)else t
def e2B{q:α->Bool}(h:∀x∈t,q x=true):t.takeWhile q=t/\t.dropWhile q=[]:=by
 induction t with
 | nil=>exact⟨rfl,rfl⟩
 | cons a t ih=>
   have ha:=h a z0E;have:=ih fun x hx=>h x (by simp[hx])
   simp[q2M,q3N,ha,this.1,this.2]
def tw_app{q:α->Bool}{u:List α}(h:∃x∈t,q x=false):(t++u).takeWhile q=t.takeWhile q/\(t++u).dropWhile q=t.dropWhile q++u:=by
 induction t with
 | nil=>obtain⟨x,hx,_⟩:=h;simp at hx
 | cons a t ih=>
   cases ha:q a with
   | false=>simp[q2M,q3N,ha]
   | true=>
     obtain⟨x,hx,hq⟩:=h;have:=ih ⟨x,by
      rcases q0B.1 hx with rfl|hx
      ·rw[ha]at hq;simp at hq
      ·exact hx,hq⟩
     simp[q2M,q3N,ha,this.1,this.2]
def a4m(h:t.any (lt s)=false):∀x∈t,(fun x=>!lt s x) x=true:=by
 intro x hx;rw[q2J]at h;have:=h x hx;simpa using this
def c9n(h:t.any (lt s)=true):∃x∈t,(fun x=>!lt s x) x=false:=by
 rw[q3E]at h;obtain⟨x,hx,hp⟩:=h;exact⟨x,hx,by simp[hp]⟩
def b3u{x:α}(h:t.any (lt s)=true):a1O lt s (t++[x])=a1O lt s t++[x]:=by
 have e:=tw_app (u:=[x]) (c9n h);have h2:(t++[x]).any (lt s)=true:=by rw[q2F,h];rfl
 unfold a1O;rw[h,h2,e.1,e.2,W8,W8,q0X];rfl
def b9c{x:α}(h:t.any (lt s)=false)(hx:lt s x=true):a1O lt s (t++[x])=a1O lt s t++[s]++[x]:=by
 have e:=e2B (a4m h);have h2:(t++[x]).any (lt s)=true:=by rw[q2F,h];simp[hx]
 unfold a1O;rw[h,h2,W8,V2];rw[List.takeWhile_append_of_pos (a4m h),List.dropWhile_append_of_pos (a4m h)];simp[q2M,q3N,hx]
def c7D{x:α}(h:t.any (lt s)=false)(hx:lt s x=false):a1O lt s (t++[x])=a1O lt s t++[x]:=by
 have h2:(t++[x]).any (lt s)=false:=by rw[q2F,h];simp[hx]
 unfold a1O;rw[h,h2];rfl
def b3v[DecidableEq α](hm:¬s∈l)(h:l.any (lt s)=true):a1j lt l s=a1O lt s l:=by
 rw[a1j,if_neg hm,a1O,h];rfl
def b3w[DecidableEq α](hm:¬s∈l)(h:l.any (lt s)=false):a1j lt l s=a1O lt s l++[s]:=by
 have e:=e2B (a4m h);rw[a1j,if_neg hm,a1O,h,e.1,e.2];rfl
def b9d(lt:α->α->Bool)(s:α)(t:List α):(a1O lt s t).length<=t.length+1:=by
 unfold a1O;cases t.any (lt s)with
 | false=>simp
 | true=>
   have e:=congrArg List.length (q1Y (p:=fun x=>!lt s x) (l:=t));simp only[V6]at e;simp only[W8,V6,V9];omega
def d6A[DecidableEq α](lt:α->α->Bool)(l:List α)(s:α):(a1j lt l s).length<=l.length+1:=by
 unfold a1j;split
 ·omega
 ·have e:=congrArg List.length (q1Y (p:=fun x=>!lt s x) (l:=l));simp only[V6]at e;simp only[V6,V9];omega
def a0u[DecidableEq α](lt:α->α->Bool):∀(r l:List α),(l5 lt l r).length<=l.length+r.length:=by
 intro r
 induction r with
 | nil=>intro l;exact q0F _
 | cons a r ih=>
   intro l;have:=ih (a1j lt l a);have:=d6A lt l a;simp only[l5,q2E,V9]at*;omega
def c6g[DecidableEq α](lt:α->α->Bool)(l r:List α)(x:α):l5 lt l (r++[x])=a1j lt (l5 lt l r) x:=by
 simp[l5,q2V]
def a0K(t:d9):Bool:=!(t.Var==[])
def v5(l:List d9):List (List UInt8):=(l.filter a0K).map d9.Var
def a8k(l:List d9):List (List UInt8):=l5 sLt [] (v5 l)
def e2F(l:List d9):Lib.compact (a1a sLt (v5 l))=a8k l:=
 a2N t5 (SS.puts t5 SS.nil) fun x=>by rw[a8k,o7];simp
def a2U(l:List d9):(v5 l).length<=l.length:=b5o _ _ _
def b0X(l:List (List UInt8))(v:List UInt8):l.contains v=l.any (fun x=>x==v):=by
 rw[q4F];congr 1;funext x;exact q3L.2 ⟨fun h=>by rw[beq_iff_eq]at h ⊢;exact h.symm,fun h=>by rw[beq_iff_eq]at h ⊢;exact h.symm⟩
def k_idxS(l:List (List UInt8))(v:List UInt8):spZ 276 [(false,[a3G l]),(false,[.s v])] [] (.one (false,[.i .i64 (a0A (fun y=>v==y) l)])):=by
 refine sy' Tryz.func276 (q' 4 [aK 0] (.seq (q' 6 [am 0,aN,aK 0] (fO 0 9 [ar 8 7] 9 1 (q' 10 [am 8,aV 5] (q' 11 [aM [1,0,5],aI 1,aL,aD .eql 11 15] (ci 16 (q' 17 [am 5,aV 4] .ret)))) (g' 18 [aA 8]))) (q' 4 [ao (.mov (.k (.v false [.c (.i .i64 (-1))])))] .ret))) [.t 4] [] ?_;intro hb hE;simp only[go_sem];repeat' first|apply cj'|intro hc|exact om'|fail
 refine lq' false [0,1,7] [] [] (fun i:{i:Nat // i<=l.length/\(l.take i).any (fun y=>v==y)=false}=>[(8,slV (.i .i64 i.1))]) nl' nl' (fun i=>l.length-i.1) (⟨0,z0E⟩) ?_;intro S0 hS0 i;obtain⟨i,hi,ha⟩:=i;simp only[go_sem,hS0];repeat' first|apply cj'|intro hc|exact om'|fail
 ·exact(y5 (p:=fun y=>v==y) (d:=[]) z0D ha hc).symm
 ·exact nx0 ⟨i+1,z0D,u6 (p:=fun y=>v==y) [] z0D ha hc⟩
 ·exact(w9 z0K).symm
noncomputable def e1a:CT:=l4 (fun(x:(List (List UInt8))×(List UInt8))=>k_idxS x.1 x.2)
@[go_sem] def c_idxS_eq:=fun l v=>nm' (fQ' e1a rfl (l,v))
def k_conS(l:List (List UInt8))(v:List UInt8):spZ 207 [(false,[a3G l]),(false,[.s v])] [] (.one (false,[.b (l.contains v)])):=by
 refine sy' Tryz.func207 (q' 4 [aU false] (q' 5 [aM [0,1],ac 276 [5,6],aC .geq 7 0,aV 4] .ret)) [.t 4] [(276,[],e1a)] ?_;intro hb hE;simp only[go_sem];repeat' first|apply cj'|intro hc|exact om'|fail
 all_goals(rw[q4F];exact a0Z _ _)
noncomputable def e0V:CT:=l4 (fun(x:(List (List UInt8))×(List UInt8))=>k_conS x.1 x.2)
@[go_sem] def c_conS_eq:=fun l v=>nm' (fQ' e0V rfl (l,v))
def c5h(l:List (List UInt8))(v:List UInt8):spZ 244 [(false,[a3G l]),(false,[.s v])] [] (.one (false,[.b (l.contains v)])):=by
 refine sy' Tryz.func244 (q' 4 [aU false] (.seq (q' 7 [am 0,aN,aK 0] (fO 0 10 [ar 9 8] 10 1 (q' 11 [ai 1 7 9,aL,aV 6] (q' 13 [aM [6,1],aD .eql 13 14] (ci 15 (q' 4 [aU true] .ret)))) (g' 16 [aA 9]))) (q' 4 [aU false] .ret))) [.t 4] [] ?_;intro hb hE;simp only[go_sem];repeat' first|apply cj'|intro hc|exact om'|fail
 refine lq' false [1,7,8] [] [] (fun i:{i:Nat // i<=l.length/\(l.take i).any (fun x=>x==v)=false}=>[(9,slV (.i .i64 i.1))]) nl' nl' (fun i=>l.length-i.1) (⟨0,z0E⟩) ?_;intro S0 hS0 i;obtain⟨i,hi,ha⟩:=i;simp only[go_sem,hS0];repeat' first|apply cj'|intro hc|exact om'|fail
 ·rw[b0X,any_true (d:=[]) (i:=i) z0D hc]
 ·exact nx0 ⟨i+1,z0D,u6 [] z0D ha hc⟩
 ·rw[b0X,<-ha,j5 z0D]
noncomputable def a6d:CT:=l4 (fun(x:(List (List UInt8))×(List UInt8))=>c5h x.1 x.2)
@[go_sem] def d8s:=fun l v=>nm' (fQ' a6d rfl (l,v))
@[go_sem] def a8w:ACode:=q' 4 [ao (.mov (.k (.v false [.nl [.s []]])))] (q' 9 [ao (.bsl 1 0 [.s] []),aV 5] (q' 6 [aU false] (.seq (q' 10 [am 0,aN,aK 0] (fO 0 13 [ar 12 11] 13 1 (q' 14
 [ai 1 10 12,aL,aV 8] (.seq (q' 16 [aM [8,1],aD .eql 16 17] (ci 18 (q' 19 [am 0,aV 4] .ret))) (.seq (q' 20 [am 6,aO 20,am 21,aH 22 true [bm 1,bm 8,bD .lss 23
 24],aP 22 25] (ci 26 (q' 27 [aM [5,1],ao (.bsl 1 1 [.s] [(0,.t 28)]),ao (.app 1 16 [.s] (.t 27) (.t 29)),aV 5] (g' 6 [aU true])))) (g' 31 [aM [5,8],ao (.bsl
 1 1 [.s] [(0,.t 32)]),ao (.app 1 16 [.s] (.t 31) (.t 33)),aV 5])))) (g' 35 [aA 12]))) (.seq (q' 36 [am 6,aO 36] (ci 37 (g' 38 [aM [5,1],ao (.bsl 1 1 [.s]
 [(0,.t 39)]),ao (.app 1 16 [.s] (.t 38) (.t 40)),aV 5]))) (q' 42 [am 5,aV 4] .ret)))))
def c5i(l:List (List UInt8))(s:List UInt8)(hpre:l.length<1099511627776):spZ 342 [(false,[a3G l]),(false,[.s s])] [] (.one (false,[a3G (a1j sLt l s)])):=by
 refine sx' false true none Tryz.func342 a8w [.t 4] [] ?_;intro hb hE;simp only[go_sem];repeat' first|apply cj'|intro hc|exact om'|fail
 refine lk' false [(false,5,0,100010)] [0,1,10,11] [] [] (fun i:{i:Nat // i<=l.length/\¬s∈l.take i}=>[(5,.v false [.ow 100010]),(6,slV (.b ((l.take i.1).any (sLt s)))),(12,slV (.i .i64 i.1))]) nl' (fun i=>[(100010,[.s []],(a1O sLt s (l.take i.1)).map a0M)]) (fun i=>l.length-i.1) (⟨0,z0E⟩) ?_;intro S0 hS0 i;obtain⟨i,hi,hm⟩:=i;simp only[go_sem,hS0];repeat' first|apply cj'|intro hc|exact om'|fail
 all_goals have hl:=b9d sLt s (l.take i)
 all_goals rw[V1]at hl
 ·have hm2:s∈l:=by
   rw[beq_iff_eq]at hc;have:=k8 (l:=l) [] (i:=i) z0D;rw[<-hc,this];exact q1M _
  rw[a1j,if_pos hm2]
 ·omega
 ·omega
 ·have hx:=j6 (l:=l) [] (i:=i) z0D;have hn:¬s∈l.take (i+1):=by rw[hx];simp only[V0,q0E];rintro(h|h);exact hm h;subst h;simp at*
  have h1:(l.take (i+1)).any (sLt s)=true:=by rw[hx,q2F,hc.1,q2P,show sLt s (l.getD i [])=true from hc.2];rfl
  have h2:a1O sLt s (l.take (i+1))=a1O sLt s (l.take i)++[s]++[l.getD i []]:=by rw[hx,b9c hc.1 hc.2]
  (refine lpK_n2 (⟨i+1,z0D,hn⟩) _ z0H ?_;simp only[go_sem,hS0]<;>repeat' first|apply W6|exact on'|fail)
  all_goals first|rw[h1]|rw[h2]
 ·omega
 ·have hx:=j6 (l:=l) [] (i:=i) z0D;have hn:¬s∈l.take (i+1):=by rw[hx];simp only[V0,q0E];rintro(h|h);exact hm h;subst h;simp at*
  have h3:(l.take (i+1)).any (sLt s)=(l.take i).any (sLt s)/\a1O sLt s (l.take (i+1))=a1O sLt s (l.take i)++[l.getD i []]:=by
   rw[hx];cases h:(l.take i).any (sLt s)with
   | true=>exact⟨z2R,b3u h⟩
   | false=>
     rw[h]at hc;have hc2:sLt s (l.getD i [])=false:=hc;exact⟨z12,c7D h hc2⟩
  (refine lpK_n2 (⟨i+1,z0D,hn⟩) _ z0H ?_;simp only[go_sem,hS0]<;>repeat' first|apply W6|exact on'|fail)
  all_goals first|rw[h3.1]|rw[h3.2]
 ·omega
 ·rw[j5 z0D]at hc hm ⊢;rw[b3w hm hc]
 ·rw[j5 z0D]at hc hm ⊢;rw[b3v hm hc]
noncomputable def b0T:CT:=n9 (fun(x:(List (List UInt8))×(List UInt8)) h=>c5i x.1 x.2 h)
@[go_sem] def d8t:=fun l s=>nm' (fP' b0T rfl (l,s))
def c4z(l:List d9)(hpre:l.length<1099511627776):spZ 270 [(false,[o6 l])] [] (.one (false,[b0Z (a8k l)])):=by
 refine sy' Tryz.func270 (q' 2 [ao (.mov (.k (.v false [.nl [.s []]])))] (q' 6 [ao (.bsl 1 0 [.s] []),aV 3] (.seq (q' 7 [am 0,aN,aK 0] (fO 0 10 [ar 9 8] 10 1 (q' 11 [ai 3 7 9,aE 3,ax (w' 5 [.s,.i .i64,.s]),aS 3 5 12] (q' 13 [aG 0 5,aY .neq 14 []] (ci 15 (g' 16 [am 3,aG 0 5,ao (.bsl 1 1 [.s] [(0,.t 18)]),ao (.app 1 16 [.s] (.t 16) (.t 19)),aV 3])))) (g' 21 [aA 9]))) (q' 22 [am 3,ac 271 [22]] (q' 24 [am 3,ac 272 [24],aV 2] .ret))))) [.t 2] [(271,[0],b5g),(272,[0],c0H)] ?_;intro hb hE;simp only[go_sem];repeat' first|apply cj'|intro hc|exact om'|fail
 refine lk' false [(false,3,0,100006)] [7,8] [] [] (fun i:{i:Nat // i<=l.length}=>[(3,.v false [.ow 100006]),(9,slV (.i .i64 i.1))]) nl' (fun i=>[(100006,[.s []],(v5 (l.take i.1)).map a0M)]) (fun i=>l.length-i.1) (⟨0,z0E⟩) ?_;intro S0 hS0 i;obtain⟨i,hi⟩:=i;simp only[go_sem,hS0];repeat' first|apply cj'|intro hc|exact om'|fail
 all_goals have hl:=a2U (l.take i)
 all_goals rw[V1]at hl
 ·omega
 ·(refine lpK_n2 (⟨i+1,z0D⟩) _ z0H ?_;simp only[go_sem,hS0]<;>repeat' first|apply W6|exact on'|fail)
  all_goals rw[v5,v5,a7n (p:=a0K) d9.Var default z0D z1W]
 ·(refine lpK_n2 (⟨i+1,z0D⟩) _ z0H ?_;simp only[go_sem,hS0]<;>repeat' first|apply W6|exact on'|fail)
  all_goals rw[v5,v5,b3r (p:=a0K) d9.Var default z0D z1W]
 ·omega
 ·rw[j5 z0D,e2F]
noncomputable def a5S:CT:=n9 (fun(x:(List d9)) h=>c4z x h)
@[go_sem] def d7L:=fun l=>nm' (fP' a5S rfl l)
@[go_sem] def a6o:ACode:=q' 4 [ao (.mov (.k (.v false [.nl [.s []]])))] (.seq (q' 7 [am 1,aN,aK 0] (fO 0 10 [ar 9 8] 10 1 (q' 11 [ai 3 7 9,aE 3,ax (w' 6 [.s,.i .i64,.s]),aS 3 6 12]
 (q' 13 [aG 0 6,aY .neq 14 []] (ci 15 (g' 16 [am 0,aG 0 6,ac 342 [16,18],aV 0])))) (g' 20 [aA 9]))) (q' 21 [am 0,aV 4] .ret))
def b8M(a:List (List UInt8))(l:List d9)(hpre:a.length+l.length<1099511627776):spZ 310 [(false,[a3G a]),(false,[o6 l])] [] (.one (false,[a3G (l5 sLt a (v5 l))])):=by
 refine sx' false true none Tryz.func310 a6o [.t 4] [(342,[],b0T)] ?_;intro hb hE;simp only[go_sem];repeat' first|apply cj'|intro hc|exact om'|fail
 refine lq' false [7,8] [] [] (fun i:{i:Nat // i<=l.length}=>[(0,.v false [.c (a3G (l5 sLt a (v5 (l.take i.1))))]),(9,slV (.i .i64 i.1))]) nl' nl' (fun i=>l.length-i.1) (⟨0,z0E⟩) ?_;intro S0 hS0 i;obtain⟨i,hi⟩:=i;simp only[go_sem,hS0];repeat' first|apply cj'|intro hc|exact om'|fail
 all_goals have hl:=a2U (l.take i)
 all_goals have hl2:=a0u sLt (v5 (l.take i)) a
 all_goals rw[V1]at hl
 ·omega
 ·(refine lpK_n2 (⟨i+1,z0D⟩) _ rfl ?_;simp only[go_sem,hS0]<;>repeat' first|apply W6|exact on'|fail)
  all_goals rw[show v5 (l.take (i+1))=v5 (l.take i)++[(l.getD i default).Var] by rw[v5,v5,a7n (p:=a0K) d9.Var default z0D z1W],c6g]
 ·(refine lpK_n2 (⟨i+1,z0D⟩) _ rfl ?_;simp only[go_sem,hS0]<;>repeat' first|apply W6|exact on'|fail)
  all_goals rw[show v5 (l.take (i+1))=v5 (l.take i) by rw[v5,v5,b3r (p:=a0K) d9.Var default z0D z1W]]
 ·rw[j5 z0D]
noncomputable def a2i:CT:=n9 (fun(x:(List (List UInt8))×(List d9)) h=>b8M x.1 x.2 h)
@[go_sem] def a4V:=fun a l=>nm' (fP' a2i rfl (a,l))
def a0Y(l:e8):Bool:=l.Kind==3&&l.Op==1
inductive Bd(r:c8):List UInt8->Prop
 | base {l:e8} {t:d9}:l∈r.Body->(l.Kind==1)=true->t∈l.Atom.Args->a0K t=true->Bd r t.Var
 | leftV {l:e8}:l∈r.Body->a0Y l=true->a0K l.A=true->a0K l.B=false->Bd r l.A.Var
 | leftB {l:e8}:l∈r.Body->a0Y l=true->a0K l.A=true->Bd r l.B.Var->Bd r l.A.Var
 | rightV {l:e8}:l∈r.Body->a0Y l=true->a0K l.B=true->a0K l.A=false->Bd r l.B.Var
 | rightB {l:e8}:l∈r.Body->a0Y l=true->a0K l.B=true->Bd r l.A.Var->Bd r l.B.Var
def y6(out:List (List UInt8))(t:d9):Bool:=t.Var==[]||out.contains t.Var
def a0N(out:List (List UInt8))(l:e8):Prop:=a0Y l=true->(y6 out l.A||y6 out l.B)=true->∀x∈v5 [l.A,l.B],x∈out
def a3S(r:c8)(out:List (List UInt8)):Prop:=∀l∈r.Body,(l.Kind==1)=true->∀x∈v5 l.Atom.Args,x∈out
def a0C{l:List d9}{x:List UInt8}:x∈v5 l↔∃t∈l,a0K t=true/\t.Var=x:=by
 simp only[v5,q0R,q0N,and_assoc]
def Bd.mem{r:c8}(hb:a3S r out)(hc:∀l∈r.Body,a0N out l)(h:Bd r v):v∈out:=by
 induction h with
 | base hl hk ht hv=>exact hb _ hl hk _ (a0C.2 ⟨_,ht,hv,rfl⟩)
 | leftV hl he hv hn=>
   refine hc _ hl he ?_ _ (a0C.2 ⟨_,z0E,hv,rfl⟩);simp only[a0K,q0T]at hn;simp[y6,hn]
 | leftB hl he hv _ ih=>
   refine hc _ hl he ?_ _ (a0C.2 ⟨_,z0E,hv,rfl⟩);simp[y6,ih]
 | rightV hl he hv hn=>
   refine hc _ hl he ?_ _ (a0C.2 ⟨_,q1W _ (q0E.2 rfl),hv,rfl⟩);simp only[a0K,q0T]at hn;simp[y6,hn]
 | rightB hl he hv _ ih=>
   refine hc _ hl he ?_ _ (a0C.2 ⟨_,q1W _ (q0E.2 rfl),hv,rfl⟩);simp[y6,ih]
def a8n(r:c8):List (List UInt8):=r.Body.flatMap fun l=>v5 l.Atom.Args++v5 [l.A,l.B]
def Bd.all{r:c8}(h:Bd r v):v∈a8n r:=by
 have hm:∀{l:e8} {x:List UInt8},l∈r.Body->(x∈v5 l.Atom.Args\/x∈v5 [l.A,l.B])->x∈a8n r:=fun hl hx=>q2K.2 ⟨_,hl,V0.2 hx⟩
 cases h with
 | base hl hk ht hv=>exact hm hl (.inl (a0C.2 ⟨_,ht,hv,rfl⟩))
 | leftV hl he hv hn=>exact hm hl (.inr (a0C.2 ⟨_,z0E,hv,rfl⟩))
 | leftB hl he hv hn=>exact hm hl (.inr (a0C.2 ⟨_,z0E,hv,rfl⟩))
 | rightV hl he hv hn=>exact hm hl (.inr (a0C.2 ⟨_,q1W _ (q0E.2 rfl),hv,rfl⟩))
 | rightB hl he hv hn=>exact hm hl (.inr (a0C.2 ⟨_,q1W _ (q0E.2 rfl),hv,rfl⟩))
open Classical in
noncomputable def a2C(r:c8):List (List UInt8):=(l5 sLt [] (a8n r)).filter fun v=>decide (Bd r v)
def c5z(r:c8):SS sLt (a2C r):=SS.filter (SS.puts t5 SS.nil) _
open Classical in
def a5g{r:c8}:v∈a2C r↔Bd r v:=by
 rw[a2C,q0N,o7,V8];exact⟨fun h=>h.2,fun h=>⟨.inr h.all,h⟩⟩
def d2T{r:c8}(hs:SS sLt out)(hB:∀v∈out,Bd r v)(hb:a3S r out)(hc:∀l∈r.Body,a0N out l):out=a2C r:=
 SS.uniq t5 hs (c5z r) fun x=>⟨fun h=>a5g.2 (hB x h),fun h=>(a5g.1 h).mem hb hc⟩
def d2S{r:c8}(hB:∀v∈out,Bd r v)(hb:a3S r out)(hc:∀l∈r.Body,a0N out l):Lib.compact (a1a sLt out)=a2C r:=
 a2N t5 (c5z r) fun x=>⟨fun h=>(a5g.1 h).mem hb hc,fun h=>a5g.2 (hB x h)⟩
def d1e[DecidableEq α]{lt:α->α->Bool}(h:(a1j lt l s).length=l.length):s∈l:=by
 unfold a1j at h;split at h
 ·assumption
 ·have e:=congrArg List.length (q1Y (p:=fun x=>!lt s x) (l:=l));simp only[V6,V9]at e h;omega
def e2n[DecidableEq α](lt:α->α->Bool)(l:List α)(s:α):l.length<=(a1j lt l s).length:=by
 unfold a1j;split
 ·omega
 ·have e:=congrArg List.length (q1Y (p:=fun x=>!lt s x) (l:=l));simp only[V6,V9]at e ⊢;omega
def d6B[DecidableEq α](lt:α->α->Bool):∀(r l:List α),l.length<=(l5 lt l r).length:=by
 intro r
 induction r with
 | nil=>intro l;exact q0F _
 | cons a r ih=>
   intro l;have:=ih (a1j lt l a);have:=e2n lt l a;simp only[l5,q2E]at*;omega
def d9h[DecidableEq α]{lt:α->α->Bool}:∀{r l:List α},(l5 lt l r).length=l.length->l5 lt l r=l/\∀x∈r,x∈l:=by
 intro r
 induction r with
 | nil=>intro l _;exact⟨rfl,z0E⟩
 | cons a r ih=>
   intro l h;have h1:=d6B lt r (a1j lt l a);have h2:=e2n lt l a;simp only[l5,q2E]at h h1;have ha:a∈l:=d1e (lt:=lt) z0D;have e:a1j lt l a=l:=by rw[a1j,if_pos ha]
   rw[e]at h;have h3:=ih (l:=l) h;simp only[l5,q2E,e];refine⟨h3.1,fun x hx=>?_⟩;rcases q0B.1 hx with rfl|hx
   ·exact ha
   ·exact h3.2 x hx
def a4C{r:c8}(h:l8 r=true):(a8n r).length<=64:=by
 have h8:r.Body.length<=8:=by
  simp only[l8,K7]at h;omega
 have ha:∀l∈r.Body,(v5 l.Atom.Args++v5 [l.A,l.B]).length<=8:=by
  intro l hl;simp only[l8,W3,q0I]at h;have hb:=h.2 l hl;have h1:=a2U l.Atom.Args;have h2:=a2U [l.A,l.B];have h6:l.Atom.Args.length<=6:=by
   rw[a2V]at hb;cases hk:(l.Kind==3)<;>rw[hk]at hb<;>simp only[z0C,K7,beq_iff_eq,a4E]at hb<;>omega
  simp only[V6,V9,q1R]at*;omega
 unfold a8n
 revert ha h8
 generalize r.Body=b;intro h8 ha;have:∀b:List e8,(∀l∈b,(v5 l.Atom.Args++v5 [l.A,l.B]).length<=8)->(b.flatMap fun l=>v5 l.Atom.Args++v5 [l.A,l.B]).length<=8*b.length:=by
  intro b
  induction b with
  | nil=>intro _;simp
  | cons x b ih=>
    intro hb;have h1:=hb x z0E;have h2:=ih fun l hl=>hb l (by simp[hl])
    simp only[q2G,V6,V9]at*;omega
 have:=this b ha;omega
def b8L(l:List (List UInt8))(s:List UInt8)(hpre:l.length<1099511627776):spZ 342 [(false,[b0Z l]),(false,[.s s])] [] (.one (false,[b0Z (a1j sLt l s)])):=by
 refine sy' Tryz.func342 a8w [.t 4] [] ?_;intro hb hE;simp only[go_sem];repeat' first|apply cj'|intro hc|exact om'|fail
 refine lk' false [(false,5,0,100010)] [0,1,10,11] [] [1] (fun i:{i:Nat // i<=l.length/\¬s∈l.take i}=>[(5,.v false [.ow 100010]),(6,slV (.b ((l.take i.1).any (sLt s)))),(12,slV (.i .i64 i.1))]) nl' (fun i=>[(100010,[.s []],(a1O sLt s (l.take i.1)).map a0M)]) (fun i=>l.length-i.1) (⟨0,z0E⟩) ?_;intro S0 hS0 i;obtain⟨i,hi,hm⟩:=i;simp only[go_sem,hS0];repeat' first|apply cj'|intro hc|exact om'|fail
 all_goals have hl:=b9d sLt s (l.take i)
 all_goals rw[V1]at hl
 ·have hm2:s∈l:=by
   rw[beq_iff_eq]at hc;have:=k8 (l:=l) [] (i:=i) z0D;rw[<-hc,this];exact q1M _
  rw[a1j,if_pos hm2]
 ·omega
 ·omega
 ·have hx:=j6 (l:=l) [] (i:=i) z0D;have hn:¬s∈l.take (i+1):=by rw[hx];simp only[V0,q0E];rintro(h|h);exact hm h;subst h;simp at*
  have h1:(l.take (i+1)).any (sLt s)=true:=by rw[hx,q2F,hc.1,q2P,show sLt s (l.getD i [])=true from hc.2];rfl
  have h2:a1O sLt s (l.take (i+1))=a1O sLt s (l.take i)++[s]++[l.getD i []]:=by rw[hx,b9c hc.1 hc.2]
  (refine lpK_n2 (⟨i+1,z0D,hn⟩) _ z0H ?_;simp only[go_sem,hS0]<;>repeat' first|apply W6|exact on'|fail)
  all_goals first|rw[h1]|rw[h2]
 ·omega
 ·have hx:=j6 (l:=l) [] (i:=i) z0D;have hn:¬s∈l.take (i+1):=by rw[hx];simp only[V0,q0E];rintro(h|h);exact hm h;subst h;simp at*
  have h3:(l.take (i+1)).any (sLt s)=(l.take i).any (sLt s)/\a1O sLt s (l.take (i+1))=a1O sLt s (l.take i)++[l.getD i []]:=by
   rw[hx];cases h:(l.take i).any (sLt s)with
   | true=>exact⟨z2R,b3u h⟩
   | false=>
     rw[h]at hc;have hc2:sLt s (l.getD i [])=false:=hc;exact⟨z12,c7D h hc2⟩
  (refine lpK_n2 (⟨i+1,z0D,hn⟩) _ z0H ?_;simp only[go_sem,hS0]<;>repeat' first|apply W6|exact on'|fail)
  all_goals first|rw[h3.1]|rw[h3.2]
 ·omega
 ·rw[j5 z0D]at hc hm ⊢;rw[b3w hm hc]
 ·rw[j5 z0D]at hc hm ⊢;rw[b3v hm hc]
noncomputable def a7Y:CT:=n9 (fun(x:(List (List UInt8))×(List UInt8)) h=>b8L x.1 x.2 h)
@[go_sem] def d3z:=fun l s=>nm' (fP' a7Y rfl (l,s))
def b3O(a:List (List UInt8))(l:List d9)(hpre:a.length+l.length<1099511627776):spZ 310 [(false,[b0Z a]),(false,[o6 l])] [] (.one (false,[b0Z (l5 sLt a (v5 l))])):=by
 refine sy' Tryz.func310 a6o [.t 4] [(342,[0],a7Y)] ?_;intro hb hE;simp only[go_sem];repeat' first|apply cj'|intro hc|exact om'|fail
 refine lk' false [(false,0,0,100000)] [7,8] [] [] (fun i:{i:Nat // i<=l.length}=>[(0,.v false [.ow 100000]),(9,slV (.i .i64 i.1))]) nl' (fun i=>[(100000,[.s []],(l5 sLt a (v5 (l.take i.1))).map a0M)]) (fun i=>l.length-i.1) (⟨0,z0E⟩) ?_;intro S0 hS0 i;obtain⟨i,hi⟩:=i;simp only[go_sem,hS0];repeat' first|apply cj'|intro hc|exact om'|fail
 all_goals have hl:=a2U (l.take i)
 all_goals have hl2:=a0u sLt (v5 (l.take i)) a
 all_goals rw[V1]at hl
 ·omega
 ·(refine lpK_n2 (⟨i+1,z0D⟩) _ z0H ?_;simp only[go_sem,hS0]<;>repeat' first|apply W6|exact on'|fail)
  all_goals rw[show v5 (l.take (i+1))=v5 (l.take i)++[(l.getD i default).Var] by rw[v5,v5,a7n (p:=a0K) d9.Var default z0D z1W],c6g]
 ·(refine lpK_n2 (⟨i+1,z0D⟩) _ z0H ?_;simp only[go_sem,hS0]<;>repeat' first|apply W6|exact on'|fail)
  all_goals rw[show v5 (l.take (i+1))=v5 (l.take i) by rw[v5,v5,b3r (p:=a0K) d9.Var default z0D z1W]]
 ·rw[j5 z0D]
noncomputable def a2L:CT:=n9 (fun(x:(List (List UInt8))×(List d9)) h=>b3O x.1 x.2 h)
@[go_sem] def a9q:=fun a l=>nm' (fP' a2L rfl (a,l))
@[go_sem] def l16T_pair(a:List (List UInt8))(v1:List UInt8)(n1:Int)(s1 v2:List UInt8)(n2:Int)(s2:List UInt8):a2L [(false,[b0Z a]),(false,[.sl false k9 [[.s v1,.i .i64 n1,.s s1],[.s v2,.i .i64 n2,.s s2]]])]=some (a.length+2<1099511627776,[],.one (false,[b0Z (l5 sLt a (v5 [⟨v1,⟨n1,s1⟩⟩,⟨v2,⟨n2,s2⟩⟩]))])):=a9q a [⟨v1,⟨n1,s1⟩⟩,⟨v2,⟨n2,s2⟩⟩]
def b8Q(w:List (List UInt8))(t:d9):spZ 311 [(false,[a3G w]),(true,[.s t.Var,.i .i64 t.Val.N,.s t.Val.S])] [] (.one (false,[.b (y6 w t)])):=by
 refine sy' Tryz.func311 (q' 3 [aX 3 1,aU false] (q' 5 [aG 0 3,aY .eql 6 [],am 7,aH 8 false [bm 0,bf 0 3,bL,bc 244 [9,11]],aQ 8 12,aV 4] .ret)) [.t 4] [(244,[],a6d)] ?_;intro hb hE;simp only[go_sem];repeat' first|apply cj'|intro hc|exact om'|fail
 all_goals rfl
noncomputable def a8b:CT:=l4 (fun(x:(List (List UInt8))×d9)=>b8Q x.1 x.2)
@[go_sem] def d3D:=fun w x0 x1 x2=>nm' (fQ' a8b rfl (w,⟨x0,⟨x1,x2⟩⟩))
def ss_len{l:List (List UInt8)}(hs:SS sLt out)(h:∀v∈out,v∈l):out.length<=l.length:=by
 have e:out=(l5 sLt [] l).filter (fun v=>out.contains v):=SS.uniq t5 hs (SS.filter (SS.puts t5 SS.nil) _) fun x=>⟨fun hx=>q0N.2 ⟨o7.2 (.inr (h x hx)),z2O⟩,fun hx=>by simpa using(q0N.1 hx).2⟩
 have e1:=congrArg List.length e;have e2:=q1F (fun v=>out.contains v) (l5 sLt [] l);have e3:=a0u sLt l [];simp only[q1R]at e3;omega
def d2R{r:c8}(h:l8 r=true)(hs:SS sLt out)(hB:∀v∈out,Bd r v):out.length<=64:=
 q3B (ss_len hs fun v hv=>(hB v hv).all) (a4C h)
def a6Z{r:c8}(h:l8 r=true){l:e8}(hl:l∈r.Body):l.Atom.Args.length<=6:=by
 simp only[l8,W3,q0I]at h;have hb:=h.2 l hl;rw[a2V]at hb;cases hk:(l.Kind==3)<;>rw[hk]at hb<;>simp only[z0C,K7,beq_iff_eq,a4E]at hb<;>omega
def d4E{r:c8}{l:e8}(hl:l∈r.Body)(hk:(l.Kind==1)=true){x:List UInt8}(hx:x∈v5 l.Atom.Args):Bd r x:=by
 obtain⟨t,ht,hv,rfl⟩:=a0C.1 hx;exact Bd.base hl hk ht hv
def bd_step{r:c8}{l:e8}(hl:l∈r.Body)(he:a0Y l=true)(hB:∀v∈out,Bd r v)(hk:(y6 out l.A||y6 out l.B)=true){x:List UInt8}(hx:x∈v5 [l.A,l.B]):Bd r x:=by
 obtain⟨t,ht,hv,rfl⟩:=a0C.1 hx;have hA:y6 out l.A=true->a0K l.A=false\/Bd r l.A.Var:=by
  intro h;simp only[y6,q2U,q2I]at h;rcases h with h|h
  ·exact .inl (by simp[a0K,h])
  ·exact .inr (hB _ h)
 have hBB:y6 out l.B=true->a0K l.B=false\/Bd r l.B.Var:=by
  intro h;simp only[y6,q2U,q2I]at h;rcases h with h|h
  ·exact .inl (by simp[a0K,h])
  ·exact .inr (hB _ h)
 simp only[q2U]at hk;simp only[q0B,q4S,or_false]at ht;rcases ht with rfl|rfl
 ·rcases hk with h|h
  ·rcases hA h with h|h
   ·rw[h]at hv;cases hv
   ·exact h
  ·rcases hBB h with h|h
   ·exact Bd.leftV hl he hv h
   ·exact Bd.leftB hl he hv h
 ·rcases hk with h|h
  ·rcases hA h with h|h
   ·exact Bd.rightV hl he hv h
   ·exact Bd.rightB hl he hv h
  ·rcases hBB h with h|h
   ·rw[h]at hv;cases hv
   ·exact h
def b5K(r:c8):spZ 242 [(true,[.i .i64 r.Kind,.s r.Head.Name,o6 r.Head.Args,a0s r.Body])] [] (.one (false,[a3G (bif l8 r then a2C r else[])])):=by
 refine sx' false true none Tryz.func242 (q' 1 [aX 4 0,ao (.mov (.k (.v false [.nl [.s []]])))] (q' 8 [ao (.bsl 1 0 [.s] []),aV 3] (.seq (q' 9 [ae 4 1,ac 183 [9],aO 10] (ci 11 (q' 12 [am 3,aV 2] .ret))) (.seq (q' 13 [aG 3 1,aN,aK 0] (fO 0 17 [ar 16 15] 17 1 (q' 18 [am 16,aV 4] (q' 19 [aG 3 1,am 4,aI 10,aG 0 22,aC .eql 24 1] (ci 25 (g' 26 [am 3,aG 3 1,am 4,aI 10,aF 1,aG 1 31,ac 310 [26,33],aV 3])))) (g' 35 [aA 16]))) (.seq (q' 5 [ao (.mov (.k (.v false [.c (.i .i64 (-1))])))] (lO 2 (.seq (q' 36 [aM [5,3],aN,ar 36 38] (cd 39 .skip (.exit 2))) (.block 3 (q' 40 [am 3,aN,aV 5] (q' 42 [aG 3 1,aN,aK 0] (fO 4 46 [ar 45 44] 46 5 (q' 47 [am 45,aV 6] (q' 48 [aG 3 1,am 6,aI 10,aE 10,ax (w' 7 [.i .i64,.s,.sl k9,.i .i64,.s,.i .i64,.s,.s,.i .i64,.s]),aS 10 7 52] (q' 53 [aG 0 7,aC .eql 54 3,am 55,aH 56 true [bf 3 7,bL,bC .eql 58 1],aP 56 59,am 60,aH 61 true [bm 3,bf 4 7,bE 3,bc 311 [62,64],bm 65],aH 66 false [bm 3,bf 7 7,bE 3,bc 311 [67,69]],aH 61 true [bQ 66 70],aP 61 71] (ci 72 (g' 73 [am 3,af 4 7,aE 3,af 7 7,aE 3,ao (.bsl 3 2 [.s,.i .i64,.s] [(0,.t 75),(1,.t 77)]),ac 310 [73,78],aV 3]))))) (g' 80 [aA 45])))))))) (q' 81 [am 3,aV 2] .ret)))))) [.t 2] [(183,[],a1X),(310,[0],a2L),(311,[],a8b)] ?_;intro hb hE;simp only[go_sem];repeat' first|apply cj'|intro hc|exact om'|fail
 ·rw[hc];rfl
 have hR:l8 r=true:=hc;have hb8:r.Body.length<=8:=by
  simp only[l8,K7]at hR;omega
 rw[hR];clear hc;refine lk' false [(false,3,0,100006)] [1,15] [2] [] (fun i:{p:Nat×List (List UInt8) // p.1<=r.Body.length/\SS sLt p.2/\(∀v∈p.2,Bd r v)/\∀l∈r.Body.take p.1,(l.Kind==1)=true->∀x∈v5 l.Atom.Args,x∈p.2}=>[(3,.v false [.ow 100006]),(16,slV (.i .i64 i.1.1))]) nl' (fun i=>[(100006,[.s []],i.1.2.map a0M)]) (fun i=>r.Body.length-i.1.1) (⟨(0,[]),z0E,SS.nil,z0E,z0E⟩) ?_;intro S0 hS0 i;obtain⟨⟨i,o⟩,hi,hs,hB,hI⟩:=i;simp only at hi hs hB hI;have hlen:=d2R hR hs hB;simp only[go_sem,hS0];repeat' first|apply cj'|intro hc|exact om'|fail
 ·have:=a6Z hR (l:=r.Body.getD i default) z09;omega
 ·have hm:r.Body.getD i default∈r.Body:=by rw[k8 default z0D];exact q1M _
  have h2:∀v∈l5 sLt o (v5 (r.Body.getD i default).Atom.Args),Bd r v:=fun v hv=>(o7.1 hv).elim (hB v) (d4E hm hc)
  have h3:∀l∈r.Body.take (i+1),(l.Kind==1)=true->∀x∈v5 l.Atom.Args,x∈l5 sLt o (v5 (r.Body.getD i default).Atom.Args):=by
   intro l hl hk x hx;rw[j6 default z0D,V0,q0E]at hl;rcases hl with hl|rfl
   ·exact o7.2 (.inl (hI l hl hk x hx))
   ·exact o7.2 (.inr hx)
  exact nk0 ⟨(i+1,l5 sLt o (v5 (r.Body.getD i default).Atom.Args)),z0G,SS.puts t5 hs,h2,h3⟩
 ·have h3:∀l∈r.Body.take (i+1),(l.Kind==1)=true->∀x∈v5 l.Atom.Args,x∈o:=by
   intro l hl hk x hx;rw[j6 default z0D,V0,q0E]at hl;rcases hl with hl|rfl
   ·exact hI l hl hk x hx
   ·rw[hc]at hk;cases hk
  exact nk0 ⟨(i+1,o),z0G,hs,hB,h3⟩
 rw[j5 z0D]at hI;clear hc hi;refine lk' false [(false,3,0,100006)] [1] [2] [] (fun i:{p:Int×List (List UInt8) // -1<=p.1/\p.1<=p.2.length/\SS sLt p.2/\(∀v∈p.2,Bd r v)/\a3S r p.2/\(p.1=p.2.length->∀l∈r.Body,a0N p.2 l)}=>[(3,.v false [.ow 100006]),(5,slV (.i .i64 i.1.1))]) nl' (fun i=>[(100006,[.s []],i.1.2.map a0M)]) (fun i=>(64-i.1.1).toNat) (⟨(-1,o),z0E,z0G,hs,hB,hI,by intro h;simp only at h;omega⟩) ?_;intro S1 hS1 i;obtain⟨⟨n,o1⟩,hn0,hn,hs1,hB1,hI1,hC1⟩:=i;simp only at hn0 hn hs1 hB1 hI1 hC1;have hlen1:=d2R hR hs1 hB1;simp only[go_sem,hS0,hS1];repeat' first|apply cj'|intro hc|exact om'|fail
 ·skip
  refine lk' false [(false,3,0,100006)] [1,5,44] [2] [] (fun i:{p:Nat×List (List UInt8) // p.1<=r.Body.length/\SS sLt p.2/\(∀v∈p.2,Bd r v)/\a3S r p.2/\o1.length<=p.2.length/\(p.2.length=o1.length->∀l∈r.Body.take p.1,a0N p.2 l)}=>[(3,.v false [.ow 100006]),(45,slV (.i .i64 i.1.1))]) nl' (fun i=>[(100006,[.s []],i.1.2.map a0M)]) (fun i=>r.Body.length-i.1.1) (⟨(0,o1),z0E,hs1,hB1,hI1,z0E,z0E⟩) ?_;intro S2 hS2 i;obtain⟨⟨i,o2⟩,hi,hs2,hB2,hI2,hge,hC2⟩:=i;simp only at hi hs2 hB2 hI2 hge hC2;have hlen2:=d2R hR hs2 hB2;simp only[go_sem,hS0,hS1,hS2];repeat' first|apply cj'|intro hc|exact om'|fail
  ·have hm:r.Body.getD i default∈r.Body:=by rw[k8 default z0D];exact q1M _
   have he:a0Y (r.Body.getD i default)=true:=by rw[a0Y,hc.1.1,hc.1.2];rfl
   have hk:(y6 o2 (r.Body.getD i default).A||y6 o2 (r.Body.getD i default).B)=true:=by rw[q2U];exact hc.2
   have hg:=d6B sLt (v5 [(r.Body.getD i default).A,(r.Body.getD i default).B]) o2;have h2:∀v∈l5 sLt o2 (v5 [(r.Body.getD i default).A,(r.Body.getD i default).B]),Bd r v:=fun v hv=>(o7.1 hv).elim (hB2 v) (bd_step hm he hB2 hk)
   have h3:a3S r (l5 sLt o2 (v5 [(r.Body.getD i default).A,(r.Body.getD i default).B])):=fun l hl hk x hx=>o7.2 (.inl (hI2 l hl hk x hx))
   have h4:(l5 sLt o2 (v5 [(r.Body.getD i default).A,(r.Body.getD i default).B])).length=o1.length->∀l∈r.Body.take (i+1),a0N (l5 sLt o2 (v5 [(r.Body.getD i default).A,(r.Body.getD i default).B])) l:=by
    intro hq l hl;have hs3:=d9h (lt:=sLt) (r:=v5 [(r.Body.getD i default).A,(r.Body.getD i default).B]) (l:=o2) z0D;rw[hs3.1];rw[j6 default z0D,V0,q0E]at hl;rcases hl with hl|rfl
    ·exact hC2 z0D l hl
    ·exact fun _ _=>hs3.2
   (refine lpK_n2 (⟨(i+1,l5 sLt o2 (v5 [(r.Body.getD i default).A,(r.Body.getD i default).B])),z0G,SS.puts t5 hs2,h2,h3,z0G,h4⟩) _ z0M ?_;simp only[go_sem,hS0,hS1,hS2]<;>repeat' first|apply W6|exact on'|fail)
  ·have h4:o2.length=o1.length->∀l∈r.Body.take (i+1),a0N o2 l:=by
    intro hq l hl;rw[j6 default z0D,V0,q0E]at hl;rcases hl with hl|rfl
    ·exact hC2 hq l hl
    ·intro h5 h6;rw[a0Y]at h5;rw[h5,h6]at hc;cases hc
   (refine lpK_n2 (⟨(i+1,o2),z0G,hs2,hB2,hI2,hge,h4⟩) _ z0M ?_;simp only[go_sem,hS0,hS1,hS2]<;>repeat' first|apply W6|exact on'|fail)
  ·have h4:(o1.length:Int)=o2.length->∀l∈r.Body,a0N o2 l:=by
    intro hq l hl;rw[j5 z0D]at hC2;exact hC2 z0D l hl
   (refine lpK_n2 (⟨((o1.length:Int),o2),z0G,z0G,hs2,hB2,hI2,h4⟩) _ z0M ?_;simp only[go_sem,hS0,hS1,hS2]<;>repeat' first|apply W6|exact on'|fail)
 ·rw[d2T hs1 hB1 hI1 (hC1 z0D)]<;>rfl
noncomputable def a6C:CT:=l4 (fun(x:c8)=>b5K x)
@[go_sem] def d1M:=fun x0 x1 x2 x3=>nm' (fQ' a6C rfl ⟨x0,⟨x1,x2⟩,x3⟩)
def miss(r:c8)(out:List (List UInt8)):Nat:=((a8n r).filter fun v=>!out.contains v).length
def b9h(r:c8)(out:List (List UInt8)):miss r out<=(a8n r).length:=q1F _ _
def b5m{α:Type}{p q:α->Bool}:∀{l:List α},(∀x,q x=true->p x=true)->(∃x∈l,p x=true/\q x=false)->(l.filter q).length<(l.filter p).length
 | [],_,h=>by obtain⟨x,hx,_⟩:=h;simp at hx
 | a::l,hpq,h=>by
   have hle:(l.filter q).length<=(l.filter p).length:=by
    clear h
    induction l with
    | nil=>simp
    | cons b l ih=>
      have:=hpq b;cases hq:q b<;>cases hp:p b<;>simp_all<;>omega
   obtain⟨x,hx,h1,h2⟩:=h;rcases q0B.1 hx with rfl|hx
   ·simp only[q3M,h1,h2,if_true,q2Q,if_false,V9];omega
   ·have ih:=b5m (l:=l) hpq ⟨x,hx,h1,h2⟩;have:=hpq a;cases hq:q a<;>cases hp:p a<;>simp_all<;>omega
def miss_lt{r:c8}(hv:v∈a8n r)(hn:out.contains v=false):miss r (out++[v])<miss r out:=by
 refine b5m (fun x hx=>?_) ⟨v,hv,by rw[hn];rfl,z0E⟩;simp only[q0W,q5J,V0,q1E,not_or]at hx ⊢;exact hx.1
def c6t(l:List d9):(a8k l).length<=l.length:=by
 have h1:=a0u sLt (v5 l) [];have h2:=a2U l;simp only[q1R]at h1;unfold a8k;omega
def c6b{l:List d9}{x:List UInt8}:x∈a8k l↔x∈v5 l:=by
 rw[a8k,o7];simp
def d8z{o:List (List UInt8)}{l:e8}(h0:y6 o l.B=true->a0K l.A=true->l.A.Var∈o)(h1:y6 o l.A=true->a0K l.B=true->l.B.Var∈o):a0N o l:=by
 intro _ hk x hx;obtain⟨t,ht,hv,rfl⟩:=a0C.1 hx;have hs:∀t:d9,a0K t=true->y6 o t=true->t.Var∈o:=by
  intro t hv h;simp only[y6,q2U,q2I]at h;rcases h with h|h
  ·simp[a0K,h]at hv
  ·exact h
 simp only[q0B,q4S,or_false]at ht;rw[q2U]at hk;rcases ht with rfl|rfl
 ·rcases hk with h|h
  ·exact hs _ hv h
  ·exact h0 h hv
 ·rcases hk with h|h
  ·exact h1 h hv
  ·exact hs _ hv h
def c9m{r:c8}(hV:(a8n r).length<=64){o1 o3:List (List UInt8)}{g3:Bool}(hl:o3.length+miss r o3<=112)(hB:∀v∈o3,Bd r v)(hI:a3S r o3)(hC:g3=false->o3=o1)(hM:g3=true->miss r o3<miss r o1)(hv:Bd r v)(hn:o3.contains v=false):(o3++[v]).length+miss r (o3++[v])<=112/\(∀x∈o3++[v],Bd r x)/\a3S r (o3++[v])/\miss r (o3++[v])<miss r o1:=by
 have h1:=miss_lt hv.all hn;refine⟨by simp only[V6,V9,q1R];omega,fun x hx=>?_,fun l hl hk x hx=>V0.2 (.inl (hI l hl hk x hx)), ?_⟩
 ·rcases V0.1 hx with h|h
  ·exact hB x h
  ·rw[q0E.1 h];exact hv
 ·cases g3 with
  | false=>rw[hC rfl]at h1 ⊢;exact h1
  | true=>have:=hM rfl;omega
def c7Q(r:c8)(hpre:l8 r=true):spZ 203 [(true,[.i .i64 r.Kind,.s r.Head.Name,o6 r.Head.Args,a0s r.Body])] [] (.one (false,[b0Z (a2C r)])):=by
 refine sy' Tryz.func203 (q' 1 [aX 4 0,ao (.mov (.k (.v false [.nl [.s []]])))] (q' 12 [ao (.bsl 1 0 [.s] []),aV 3] (.seq (q' 13 [aG 3 1,aN,aK 0] (fO 0 17 [ar 16 15] 17 1 (q' 18 [ai 10 14 16,aE 10,ax (w' 5 [.i .i64,.s,.sl k9,.i .i64,.s,.i .i64,.s,.s,.i .i64,.s]),aS 10 5 19] (q' 20 [aG 0 5,aC .eql 21 1] (ci 22 (g' 23 [am 3,af 1 5,aG 1 24,ac 270 [26],ao (.app 1 16 [.s] (.t 23) (.t 27)),aV 3])))) (g' 29 [aA 16]))) (.seq (q' 6 [aU true] (lO 2 (.seq (q' 30 [am 6] (cd 30 .skip (.exit 2))) (.block 3 (q' 6 [aU false] (q' 31 [aG 3 1,aN,aK 0] (fO 4 35 [ar 34 33] 35 5 (q' 36 [ai 10 32 34,aE 10,ax (w' 8 [.i .i64,.s,.sl k9,.i .i64,.s,.i .i64,.s,.s,.i .i64,.s]),aS 10 8 37] (.seq (q' 38 [aG 0 8,aC .neq 39 3,am 40,aH 41 false [bf 3 8,bL,bC .neq 43 1],aQ 41 44] (ci 45 (.exit 5))) (q' 46 [af 4 8,aE 3,af 7 8,aE 3,ao (.bld [.s,.i .i64,.s,.s,.i .i64,.s] [(0,3,.t 47),(3,3,.t 49)]),af 7 8,aE 3,af 4 8,aE 3,ao (.bld [.s,.i .i64,.s,.s,.i .i64,.s] [(0,3,.t 52),(3,3,.t 54)]),ao (.bsl 6 2 [.s,.i .i64,.s,.s,.i .i64,.s] [(0,.t 50),(1,.t 55)]),aN,aK 0] (fO 6 59 [ar 58 57] 59 7 (q' 60 [ai 6 56 58,aE 6,ax (w' 10 [.s,.i .i64,.s,.s,.i .i64,.s]),aS 6 10 61] (q' 62 [ao (.ib 2 3 (.t 10) (k' 1)),aG 0 62,aY .eql 64 [],am 65,aH 66 false [bm 3,bo (.ib 2 3 (.t 10) (k' 1)),bF 0,bL,bc 207 [67,70]],aQ 66 71,aV 11] (q' 73 [aM [11,73],aH 74 true [bo (.ib 2 3 (.t 10) (k' 0)),bF 0,bL,bY .neq 77 []],aP 74 78,am 79,aH 80 true [bm 3,bo (.ib 2 3 (.t 10) (k' 0)),bF 0,bL,bc 207 [81,84],bO 85],aP 80 86] (ci 87 (q' 88 [am 3,ao (.ib 2 3 (.t 10) (k' 0)),aG 0 89,ao (.bsl 1 1 [.s] [(0,.t 91)]),ao (.app 1 16 [.s] (.t 88) (.t 92)),aV 3] (g' 6 [aU true])))))) (g' 94 [aA 58]))))) (g' 95 [aA 34])))))))) (q' 96 [am 3,ac 271 [96]] (q' 98 [am 3,ac 272 [98],aV 2] .ret)))))) [.t 2] [(270,[],a5S),(207,[],e0V),(271,[0],b5g),(272,[0],c0H)] ?_;intro hb hE;have hb8:r.Body.length<=8:=by
  simp only[l8,K7]at hpre;omega
 have hV:=a4C hpre;simp only[go_sem];repeat' first|apply cj'|intro hc|exact om'|fail
 refine lk' false [(false,3,0,100006)] [1,14,15] [2] [] (fun i:{p:Nat×List (List UInt8) // p.1<=r.Body.length/\p.2.length<=6*p.1/\(∀v∈p.2,Bd r v)/\∀l∈r.Body.take p.1,(l.Kind==1)=true->∀x∈v5 l.Atom.Args,x∈p.2}=>[(3,.v false [.ow 100006]),(16,slV (.i .i64 i.1.1))]) nl' (fun i=>[(100006,[.s []],i.1.2.map a0M)]) (fun i=>r.Body.length-i.1.1) (⟨(0,[]),z0E,z0E,z0E,z0E⟩) ?_;intro S0 hS0 i;obtain⟨⟨i,o⟩,hi,hlen,hB,hI⟩:=i;simp only at hi hlen hB hI;simp only[go_sem,hS0];repeat' first|apply cj'|intro hc|exact om'|fail
 ·have:=a6Z hpre (l:=r.Body.getD i default) z09;omega
 ·have:=a6Z hpre (l:=r.Body.getD i default) z09;have:=c6t (r.Body.getD i default).Atom.Args;omega
 ·have hm:r.Body.getD i default∈r.Body:=by rw[k8 default z0D];exact q1M _
  have h6:=a6Z hpre hm;have hv6:=c6t (r.Body.getD i default).Atom.Args;have h2:∀v∈o++a8k (r.Body.getD i default).Atom.Args,Bd r v:=fun v hv=>(V0.1 hv).elim (hB v) fun h=>d4E hm hc (c6b.1 h)
  have h3:∀l∈r.Body.take (i+1),(l.Kind==1)=true->∀x∈v5 l.Atom.Args,x∈o++a8k (r.Body.getD i default).Atom.Args:=by
   intro l hl hk x hx;rw[j6 default z0D,V0,q0E]at hl;rcases hl with hl|rfl
   ·exact V0.2 (.inl (hI l hl hk x hx))
   ·exact V0.2 (.inr (c6b.2 hx))
  (refine lpK_n2 (⟨(i+1,o++a8k (r.Body.getD i default).Atom.Args),z0G,by simp only[V6];omega,h2,h3⟩) _ z0H ?_;simp only[go_sem,hS0]<;>repeat' first|apply W6|exact on'|fail)
  all_goals rw[q1B]
 ·have h3:∀l∈r.Body.take (i+1),(l.Kind==1)=true->∀x∈v5 l.Atom.Args,x∈o:=by
   intro l hl hk x hx;rw[j6 default z0D,V0,q0E]at hl;rcases hl with hl|rfl
   ·exact hI l hl hk x hx
   ·rw[hc]at hk;cases hk
  exact nk0 ⟨(i+1,o),z0G,z0G,hB,h3⟩
 rw[j5 z0D]at hI;clear hc;have hms:=b9h r o;refine lk' false [(false,3,0,100006)] [1] [2] [] (fun i:{p:Bool×List (List UInt8) // p.2.length+miss r p.2<=112/\(∀v∈p.2,Bd r v)/\a3S r p.2/\(p.1=false->∀l∈r.Body,a0N p.2 l)}=>[(3,.v false [.ow 100006]),(6,slV (.b i.1.1))]) nl' (fun i=>[(100006,[.s []],i.1.2.map a0M)]) (fun i=>2*miss r i.1.2+(bif i.1.1 then 1 else 0)) (⟨(true,o),z0G,hB,hI,by intro h;cases h⟩) ?_;intro S1 hS1 i;obtain⟨⟨g,o1⟩,hl1,hB1,hI1,hC1⟩:=i;simp only at hl1 hB1 hI1 hC1;simp only[go_sem,hS0,hS1];repeat' first|apply cj'|intro hc|exact om'|fail
 ·skip
  refine lk' false [(false,3,0,100006)] [1,32,33] [2] [] (fun i:{p:Nat×Bool×List (List UInt8) // p.1<=r.Body.length/\p.2.2.length+miss r p.2.2<=112/\(∀v∈p.2.2,Bd r v)/\a3S r p.2.2/\(p.2.1=false->p.2.2=o1/\∀l∈r.Body.take p.1,a0N o1 l)/\(p.2.1=true->miss r p.2.2<miss r o1)}=>[(3,.v false [.ow 100006]),(6,slV (.b i.1.2.1)),(34,slV (.i .i64 i.1.1))]) nl' (fun i=>[(100006,[.s []],i.1.2.2.map a0M)]) (fun i=>r.Body.length-i.1.1) (⟨(0,false,o1),z0E,hl1,hB1,hI1,z0E,by intro h;cases h⟩) ?_;intro S2 hS2 i;obtain⟨⟨i,g2,o2⟩,hi2,hl2,hB2,hI2,hC2,hM2⟩:=i;simp only at hi2 hl2 hB2 hI2 hC2 hM2;simp only[go_sem,hS0,hS1,hS2];repeat' first|apply cj'|intro hc|exact om'|fail
  ·have h3:g2=false->o2=o1/\∀l∈r.Body.take (i+1),a0N o1 l:=by
    intro hg;refine⟨(hC2 hg).1,fun l hl=>?_⟩;rw[j6 default z0D,V0,q0E]at hl;rcases hl with hl|rfl
    ·exact(hC2 hg).2 l hl
    ·intro h5;simp only[a0Y,W3]at h5;rcases hc with h|h
     ·simp only[bne,h5.1]at h;cases h
     ·simp only[bne,h5.2]at h;cases h
   (refine lpK_n2 (⟨(i+1,g2,o2),z0G,hl2,hB2,hI2,h3,hM2⟩) _ z0M ?_;simp only[go_sem,hS0,hS1,hS2]<;>repeat' first|apply W6|exact on'|fail)
  ·skip
   refine lk' false [(false,3,0,100006)] [1,32,33,34,56,57] [2] [7168] (fun i:{p:Nat×Bool×List (List UInt8) // p.1<=2/\p.2.2.length+miss r p.2.2<=112/\(∀v∈p.2.2,Bd r v)/\a3S r p.2.2/\(p.2.1=false->p.2.2=o1/\(∀l∈r.Body.take i,a0N o1 l)/\(0<p.1->y6 o1 (r.Body.getD i default).B=true->a0K (r.Body.getD i default).A=true->(r.Body.getD i default).A.Var∈o1)/\(1<p.1->y6 o1 (r.Body.getD i default).A=true->a0K (r.Body.getD i default).B=true->(r.Body.getD i default).B.Var∈o1))/\(p.2.1=true->miss r p.2.2<miss r o1)}=>[(3,.v false [.ow 100006]),(6,slV (.b i.1.2.1)),(58,slV (.i .i64 i.1.1))]) nl' (fun i=>[(100006,[.s []],i.1.2.2.map a0M)]) (fun i=>2-i.1.1) (⟨(0,g2,o2),z0E,hl2,hB2,hI2,fun hg=>⟨(hC2 hg).1,(hC2 hg).2,z0E,z0E⟩,hM2⟩) ?_;intro S3 hS3 i;obtain⟨⟨k,g3,o3⟩,hk3,hl3,hB3,hI3,hC3,hM3⟩:=i;simp only at hk3 hl3 hB3 hI3 hC3 hM3;have hm:r.Body.getD i default∈r.Body:=by rw[k8 default z0D];exact q1M _
   have he:a0Y (r.Body.getD i default)=true:=by
    simp only[bne,q0T]at hc;rw[a0Y,hc.1,hc.2];rfl
   rcases(show k=0\/k=1\/k=2 by omega)with rfl|rfl|rfl
   ·simp only[go_sem,hS0,hS1,hS2,hS3];repeat' first|apply cj'|intro hc|exact om'|fail
    ·have hv:Bd r (r.Body.getD i default).A.Var:=by
      rcases hc.1.1 with h|h
      ·exact Bd.leftV hm he z2D (by rw[a0K,h];rfl)
      ·exact Bd.leftB hm he z2D (hB3 _ (q2I.1 h))
     have ha:=c9m hV hl3 hB3 hI3 (fun hg=>(hC3 hg).1) hM3 hv hc.2
     (refine lpK_n2 (⟨(1,true,o3++[(r.Body.getD i default).A.Var]),z0E,ha.1,ha.2.1,ha.2.2.1,fun h=>absurd h z0E,fun _=>ha.2.2.2⟩) _ z0Q ?_;simp only[go_sem,hS0,hS1,hS2,hS3]<;>repeat' first|apply W6|exact on'|fail)
     all_goals rw[q1B];rfl
    ·have h9:g3=false->y6 o1 (r.Body.getD i default).B=true->a0K (r.Body.getD i default).A=true->(r.Body.getD i default).A.Var∈o1:=by
      intro hg h5 h6;rw[<-(hC3 hg).1]at h5 ⊢;rw[y6]at h5;simp only[a0K]at h6;rw[h5,h6]at hc;simpa using hc
     (refine lpK_n2 (⟨(1,g3,o3),z0E,hl3,hB3,hI3,fun hg=>⟨(hC3 hg).1,(hC3 hg).2.1,fun _=>h9 hg,z0E⟩,hM3⟩) _ z0Q ?_;simp only[go_sem,hS0,hS1,hS2,hS3]<;>repeat' first|apply W6|exact on'|fail)
   ·simp only[go_sem,hS0,hS1,hS2,hS3];repeat' first|apply cj'|intro hc|exact om'|fail
    ·have hv:Bd r (r.Body.getD i default).B.Var:=by
      rcases hc.1.1 with h|h
      ·exact Bd.rightV hm he z2D (by rw[a0K,h];rfl)
      ·exact Bd.rightB hm he z2D (hB3 _ (q2I.1 h))
     have ha:=c9m hV hl3 hB3 hI3 (fun hg=>(hC3 hg).1) hM3 hv hc.2
     (refine lpK_n2 (⟨(2,true,o3++[(r.Body.getD i default).B.Var]),z0E,ha.1,ha.2.1,ha.2.2.1,fun h=>absurd h z0E,fun _=>ha.2.2.2⟩) _ z0Q ?_;simp only[go_sem,hS0,hS1,hS2,hS3]<;>repeat' first|apply W6|exact on'|fail)
     all_goals rw[q1B];rfl
    ·have h9:g3=false->y6 o1 (r.Body.getD i default).A=true->a0K (r.Body.getD i default).B=true->(r.Body.getD i default).B.Var∈o1:=by
      intro hg h5 h6;rw[<-(hC3 hg).1]at h5 ⊢;rw[y6]at h5;simp only[a0K]at h6;rw[h5,h6]at hc;simpa using hc
     (refine lpK_n2 (⟨(2,g3,o3),z0E,hl3,hB3,hI3,fun hg=>⟨(hC3 hg).1,(hC3 hg).2.1,(fun _=>(hC3 hg).2.2.1 z0E),fun _=>h9 hg⟩,hM3⟩) _ z0Q ?_;simp only[go_sem,hS0,hS1,hS2,hS3]<;>repeat' first|apply W6|exact on'|fail)
   ·simp only[go_sem,hS0,hS1,hS2,hS3];repeat' first|apply cj'|intro hc|exact om'|fail
    have h9:g3=false->o3=o1/\∀l∈r.Body.take (i+1),a0N o1 l:=by
     intro hg;obtain⟨h5,h6,h7,h8⟩:=hC3 hg;refine⟨h5,fun l hl=>?_⟩;rw[j6 default z0D,V0,q0E]at hl;rcases hl with hl|rfl
     ·exact h6 l hl
     ·exact d8z (h7 z0E) (h8 z0E)
    (refine lpK_n2 (⟨(i+1,g3,o3),z0G,hl3,hB3,hI3,h9,hM3⟩) _ z0Q ?_;simp only[go_sem,hS0,hS1,hS2,hS3]<;>repeat' first|apply W6|exact on'|fail)
  ·have h3:g2=false->∀l∈r.Body,a0N o2 l:=by
    intro hg l hl;have h5:=hC2 hg;rw[j5 z0D]at h5;rw[h5.1];exact h5.2 l hl
   cases g2 with
   | false=>
     have h7:=(hC2 rfl).1
     (refine lpK_n2 (⟨(false,o2),hl2,hB2,hI2,h3⟩) _ z0Q ?_;simp only[go_sem,hS0,hS1,hS2]<;>repeat' first|apply W6|exact on'|fail)
     all_goals(subst h7;rw[show g=true by assumption];simp only[W8];omega)
   | true=>
     have h7:=hM2 rfl
     (refine lpK_n2 (⟨(true,o2),hl2,hB2,hI2,h3⟩) _ z0Q ?_;simp only[go_sem,hS0,hS1,hS2]<;>repeat' first|apply W6|exact on'|fail)
     all_goals(rw[show g=true by assumption];simp only[W8];omega)
 ·rw[d2S hB1 hI1 (hC1 hc)]
noncomputable def b2M:CT:=n9 (fun(x:c8) h=>c7Q x h)
@[go_sem] def d9H:=fun x0 x1 x2 x3=>nm' (fP' b2M rfl ⟨x0,⟨x1,x2⟩,x3⟩)
end Go.Aw
namespace Go.Aw
set_option maxHeartbeats 4000000
open Go.Proofs Go.Shelf Go.RowKit
attribute [local irreducible] aft blk lpK retK AW A0e
set_option linter.all false
set_option maxRecDepth 100000
def a5k(l:e8):List d9:=bif l.Kind==3 then[l.A,l.B]else l.Atom.Args
def d4x(r:c8):List d9:=r.Head.Args++r.Body.flatMap a5k
def a4j(r:c8):List (List UInt8):=l5 sLt [] (v5 r.Head.Args++a8n r)
def d1x(a b:List d9):v5 (a++b)=v5 a++v5 b:=by simp[v5]
def d4A{l:e8}(h:a2V l=true):v5 (a5k l)=v5 l.Atom.Args++v5 [l.A,l.B]:=by
 rw[a2V]at h;rw[a5k];cases hk:(l.Kind==3)with
 | true=>
   rw[hk]at h;simp only[W8,W3,beq_iff_eq]at h ⊢;have:l.Atom.Args=[]:=q0L.1 z0D;rw[this];rfl
 | false=>
   rw[hk]at h;simp only[V2,W3,d1t,beq_iff_eq]at h ⊢;have h1:a0K l.A=false:=by simp[a0K,h.1.2.1]
   have h2:a0K l.B=false:=by simp[a0K,h.2.1]
   simp[v5,h1,h2]
def c6s:∀{b:List e8},(∀l∈b,a2V l=true)->v5 (b.flatMap a5k)=b.flatMap fun l=>v5 l.Atom.Args++v5 [l.A,l.B]
 | [],_=>rfl
 | l::b,h=>by
   rw[q2G,q2G,d1x,d4A (h l z0E),c6s fun x hx=>h x z0N]
def c2Z{r:c8}(h:l8 r=true):∀l∈r.Body,a2V l=true:=by
 simp only[l8,W3,q0I]at h;exact h.2
def e2G{r:c8}(h:l8 r=true):a8k (d4x r)=a4j r:=by
 rw[a8k,d4x,d1x,c6s (c2Z h),a4j,a8n]
def c3h{l:e8}(h:a2V l=true):(a5k l).length<=6:=by
 rw[a2V]at h;rw[a5k];cases hk:(l.Kind==3)with
 | true=>simp
 | false=>
   rw[hk]at h;simp only[V2,K7,a4E]at h ⊢;omega
def c6r:∀{b:List e8},(∀l∈b,a2V l=true)->(b.flatMap a5k).length<=6*b.length
 | [],_=>by simp
 | l::b,h=>by
   have h1:=c3h (h l z0E);have h2:=c6r (b:=b) fun x hx=>h x (by simp[hx])
   simp only[q2G,V6,V9];omega
def b3s{r:c8}(h:l8 r=true):r.Head.Args.length<=6/\r.Body.length<=8:=by
 simp only[l8,K7,a4E]at h;omega
noncomputable def e2a(r:c8):List (List UInt8):=(a4j r).filter fun v=>!(a2C r).contains v
noncomputable def a5E(r:c8):List (List UInt8):=bif l8 r then e2a r else[]
def d9t{r:c8}(h:l8 r=true):(a4j r).length<=128:=by
 have h1:=a0u sLt (v5 r.Head.Args++a8n r) [];have h2:=a2U r.Head.Args;have h3:=a4C h;have h4:=b3s h;simp only[V6,q1R]at h1;rw[a4j];omega
def d0t(l:List d9)(hpre:l.length<1099511627776):spZ 274 [(false,[.sl false [.s [],.i .i64 0,.s []] (l.map d9.cells)])] [] (.one (false,[.sl true [.s [],.i .i64 0,.s []] (l.map d9.cells)])):=by
 exact a6L (d:=[.s [],.i .i64 0,.s []]) Tryz.cloneTerm z0L (hi:=rfl) (hz0:=rfl) (hz1:=rfl) (bytes:=40) (hz2:=rfl) (hzs:=rfl) z02 (fun w=>rfl) _ z01
noncomputable def b6v:CT:=n9 (fun(x:(List d9)) h=>d0t x h)
@[go_sem] def e0U:=fun l=>nm' (fP' b6v rfl l)
def c1T(l:e8):spZ 275 [(true,[.i .i64 l.Kind,.s l.Atom.Name,o6 l.Atom.Args,.i .i64 l.Op,.s l.A.Var,.i .i64 l.A.Val.N,.s l.A.Val.S,.s l.B.Var,.i .i64 l.B.Val.N,.s l.B.Val.S])] [] (.one (false,[o6 (a5k l)])):=by
 refine sx' false true none Tryz.func275 (q' 1 [aX 10 0,ao (.mov (.k (.v false [.nl k9])))] (.seq (q' 3 [aG 0 1,aC .eql 4 3] (ci 5 (q' 6 [af 4 1,aE 3,af 7 1,aE 3,ao (.bsl 3 2 [.s, .i .i64,.s] [(0,.t 7),(1,.t 9)]),aV 2] .ret))) (q' 11 [af 1 1,aG 1 11,aV 2] .ret))) [.t 2] [] ?_;intro hb hE;simp only[go_sem];repeat' first|apply cj'|intro hc|exact om'|fail
 all_goals(rw[a5k,hc];rfl)
noncomputable def a8U:CT:=l4 (fun(x:e8)=>c1T x)
@[go_sem] def d5f:=fun x0 x1 x2 x3 x4 x5 x6 x7 x8 x9=>nm' (fQ' a8U rfl ⟨x0,⟨x1,x2⟩,x3,⟨x4,⟨x5,x6⟩⟩,⟨x7,⟨x8,x9⟩⟩⟩)
def c1h{β:Type}(f:e8->List β){b:List e8}{i:Nat}(h:i<b.length):(b.take (i+1)).flatMap f=(b.take i).flatMap f++f (b.getD i default):=by
 rw[j6 default h,q3X];simp
def c4A(r:c8)(hpre:l8 r=true):spZ 205 [(true,[.i .i64 r.Kind,.s r.Head.Name,o6 r.Head.Args,a0s r.Body])] [] (.one (false,[b0Z (a4j r)])):=by
 refine sy' Tryz.func205 (q' 1 [aX 4 0,ao (.mov (.k (.v false [.nl [.s []]])))] (q' 6 [af 1 1,aG 1 6,ac 274 [8],aV 3] (.seq (q' 10 [aG 3 1,aN,aK 0] (fO 0 14 [ar 13 12] 14 1 (q' 15 [ai 10 11 13,aE 10,ax (w' 5 [.i .i64,.s,.sl k9,.i .i64,.s,.i .i64,.s,.s,.i .i64,.s]),aS 10 5 16] (g' 17 [am 3,ae 10 5,ac 275 [18],ao (.app 3 40 [.s,.i .i64,.s] (.t 17) (.t 19)),aV 3])) (g' 21 [aA 13]))) (q' 22 [am 3,ac 270 [22],aV 2] .ret)))) [.t 2] [(274,[],b6v),(275,[],a8U),(270,[],a5S)] ?_;intro hb hE;have hh:=b3s hpre;have hL:=c2Z hpre;simp only[go_sem];repeat' first|apply cj'|intro hc|exact om'|fail
 refine lk' false [(false,3,0,100006)] [11,12] [] [] (fun i:{i:Nat // i<=r.Body.length}=>[(3,.v false [.ow 100006]),(13,slV (.i .i64 i.1))]) nl' (fun i=>[(100006,k9,(r.Head.Args++(r.Body.take i.1).flatMap a5k).map d9.cells)]) (fun i=>r.Body.length-i.1) (⟨0,z0E⟩) ?_;intro S0 hS0 i;obtain⟨i,hi⟩:=i;have h1:=c6r (b:=r.Body.take i) fun l hl=>hL l (q1L hl)
 rw[V1]at h1;simp only[go_sem,hS0];repeat' first|apply cj'|intro hc|exact om'|fail
 all_goals first
  | (have h2:=c3h (hL _ (A3y (d:=default) (show i<r.Body.length by omega)));(try simp only[V6]at*);omega)
  | ((refine lpK_n2 (⟨i+1,z0D⟩) _ z0H ?_;simp only[go_sem,hS0]<;>repeat' first|apply W6|exact on'|fail);rw[c1h a5k z0D];simp only[q1B,q0X];done)
  | (rw[j5 z0D,<-e2G hpre,d4x];done)
  | ((try simp only[V6]at*);omega)
  | trace_state
noncomputable def b0A:CT:=n9 (fun(x:c8) h=>c4A x h)
@[go_sem] def d7M:=fun x0 x1 x2 x3=>nm' (fP' b0A rfl ⟨x0,⟨x1,x2⟩,x3⟩)
@[go_sem] def l16T_nil(l:List d9):a2i [(false,[.sl false [.s []] []]),(false,[o6 l])]=some (0+l.length<1099511627776,[],.one (false,[a3G (l5 sLt [] (v5 l))])):=a4V [] l
@[go_sem] def l16T_two(a:List (List UInt8))(v1:List UInt8)(n1:Int)(s1 v2:List UInt8)(n2:Int)(s2:List UInt8):a2i [(false,[a3G a]),(false,[.sl false k9 [[.s v1,.i .i64 n1,.s s1],[.s v2,.i .i64 n2,.s s2]]])]=some (a.length+2<1099511627776,[],.one (false,[a3G (l5 sLt a (v5 [⟨v1,⟨n1,s1⟩⟩,⟨v2,⟨n2,s2⟩⟩]))])):=a4V a [⟨v1,⟨n1,s1⟩⟩,⟨v2,⟨n2,s2⟩⟩]
def d9g(l r s:List (List UInt8)):l5 sLt (l5 sLt l r) s=l5 sLt l (r++s):=by simp[l5,q2V]
def c5a(r:c8):spZ 243 [(true,[.i .i64 r.Kind,.s r.Head.Name,o6 r.Head.Args,a0s r.Body])] [] (.one (false,[a3G (bif l8 r then a4j r else[])])):=by
 refine sx' false true none Tryz.func243 (q' 1 [aX 4 0,ao (.mov (.k (.v false [.nl [.s []]])))] (q' 5 [ao (.bsl 1 0 [.s] []),aV 3] (.seq (q' 6 [ae 4 1,ac 183 [6],aO 7] (ci 8 (q' 9 [am 3,aV 2] .ret))) (q' 10 [am 3,af 1 1,aG 1 11,ac 310 [10,13],aV 3] (.seq (q' 15 [aG 3 1,aN,aK 0] (fO 0 19 [ar 18 17] 19 1 (q' 20 [am 18,aV 4] (q' 21 [am 3,aG 3 1,am 4,aI 10,aF 1,aG 1 26,ac 310 [21,28],aV 3] (.rego [(true,0,m' 30 3),(true,1,f' 31 3 1),(true,2,l' 32 31),(true,3,m' 33 4),(true,4,i' 34 10 32 33),(true,5, f' 35 4 34),(true,6,e' 36 3 35),(true,7,f' 37 3 1),(true,8,l' 38 37),(false,9,m' 39 4),(false,10,i' 40 10 38 39),(false,11,f' 41 7 40), (false,12,e' 42 3 41),(false,13,o' 43 (.bsl 3 2 [.s,.i .i64,.s] [(0,.t 36),(1,.t 42)])),(false,14,c' 44 310 [30,43]),(false,15,m' 3 44)] [2, 3]))) (g' 45 [aA 18]))) (q' 46 [am 3,aV 2] .ret)))))) [.t 2] [(183,[],a1X),(310,[],a2i)] ?_;intro hb hE;simp only[go_sem];repeat' first|apply cj'|intro hc|exact om'|fail
 ·rw[hc];rfl
 ·have:=b3s hc;omega
 have hR:l8 r=true:=hc;have hh:=b3s hR;have hA:=a4C hR;rw[hR];clear hc;refine lq' false [1,17] [2,3] [] (fun i:{i:Nat // i<=r.Body.length}=>[(3,.v false [.c (a3G (l5 sLt [] (v5 r.Head.Args++(r.Body.take i.1).flatMap fun l=>v5 l.Atom.Args++v5 [l.A,l.B])))]),(18,slV (.i .i64 i.1))]) nl' nl' (fun i=>r.Body.length-i.1) (⟨0,z0E⟩) ?_;intro S0 hS0 i;obtain⟨i,hi⟩:=i;have hp:=a0u sLt (v5 r.Head.Args++(r.Body.take i).flatMap fun l=>v5 l.Atom.Args++v5 [l.A,l.B]) [];have hv:=a2U r.Head.Args;have hf:((r.Body.take i).flatMap fun l=>v5 l.Atom.Args++v5 [l.A,l.B]).length<=64:=by
  refine q3B ?_ hA;have e:a8n r=((r.Body.take i).flatMap fun l=>v5 l.Atom.Args++v5 [l.A,l.B])++(r.Body.drop i).flatMap fun l=>v5 l.Atom.Args++v5 [l.A,l.B]:=by
   rw[<-q3X,q1X];rfl
  rw[e,V6];omega
 simp only[V6,q1R]at hp;have h2:=a0u sLt (v5 (r.Body.getD i default).Atom.Args) (l5 sLt [] (v5 r.Head.Args++(r.Body.take i).flatMap fun l=>v5 l.Atom.Args++v5 [l.A,l.B]));have h3:=a2U (r.Body.getD i default).Atom.Args;simp only[go_sem,hS0];repeat' first|apply cj'|intro hc|exact om'|fail
 all_goals first
  | (have hq:=a6Z hR (A3y (d:=default) (show i<r.Body.length by omega));omega)
  | ((refine lpK_n2 (⟨i+1,z0D⟩) _ rfl ?_;simp only[go_sem,hS0]<;>repeat' first|apply W6|exact on'|fail);rw[show((r.Body.take (i+1)).flatMap fun l=>v5 l.Atom.Args++v5 [l.A,l.B])=_ from c1h _ z0D];simp only[d9g,q0X];done)
  | ((refine lpK_n2 (⟨i+1,z0D⟩) _ rfl ?_;simp only[go_sem,hS0]<;>repeat' first|apply W6|exact on'|fail);trace_state)
  | (rw[j5 z0D];rfl)
  | trace_state
noncomputable def b0R:CT:=l4 (fun(x:c8)=>c5a x)
@[go_sem] def d8l:=fun x0 x1 x2 x3=>nm' (fQ' b0R rfl ⟨x0,⟨x1,x2⟩,x3⟩)
def b5M(r:c8):spZ 179 [(true,[.i .i64 r.Kind,.s r.Head.Name,o6 r.Head.Args,a0s r.Body])] [] (.one (false,[a3G (a5E r)])):=by
 refine sx' false true none Tryz.func179 (q' 1 [aX 4 0,ao (.mov (.k (.v false [.nl [.s []]])))] (q' 7 [ae 4 1,ac 242 [7],aV 3] (q' 9 [ao (.bsl 1 0 [.s] []),aV 4] (.seq (q' 10 [ae 4 1,ac 243 [10],aN,aK 0] (fO 0 14 [ar 13 12] 14 1 (q' 15 [ai 1 11 13,aL,aV 6] (q' 17 [aM [3,6],ac 244 [17,18],aO 19] (ci 20 (g' 21 [aM [4,6],ao (.bsl 1 1 [.s] [(0,.t 22)]),ao (.app 1 16 [.s] (.t 21) (.t 23)),aV 4])))) (g' 25 [aA 13]))) (q' 26 [am 4,aV 2] .ret))))) [.t 2] [(242,[],a6C),(243,[],b0R),(244,[],a6d)] ?_;intro hb hE;have hlv:(bif l8 r then a4j r else[]).length<=128:=by
  cases h:l8 r with
  | true=>exact d9t h
  | false=>exact q2D _
 simp only[go_sem];repeat' first|apply cj'|intro hc|exact om'|fail
 refine lk' false [(false,4,0,100008)] [3,11,12] [] [] (fun i:{i:Nat // i<=(bif l8 r then a4j r else[]).length}=>[(4,.v false [.ow 100008]),(13,slV (.i .i64 i.1))]) nl' (fun i=>[(100008,[.s []],(((bif l8 r then a4j r else[]).take i.1).filter fun v=>!(bif l8 r then a2C r else[]).contains v).map a0M)]) (fun i=>(bif l8 r then a4j r else[]).length-i.1) (⟨0,z0E⟩) ?_;intro S0 hS0 i;obtain⟨i,hi⟩:=i;have hf:=q1F (fun v=>!(bif l8 r then a2C r else[]).contains v) ((bif l8 r then a4j r else[]).take i);rw[V1]at hf;simp only[go_sem,hS0];repeat' first|apply cj'|intro hc|exact om'|fail
 all_goals first
  | omega
  | (have hc2:(fun v=>!(bif l8 r then a2C r else[]).contains v) ((bif l8 r then a4j r else[]).getD i [])=true:=by(first|exact hc|(simpa[-List.getD_eq_getElem?_getD]using hc))
     (refine lpK_n2 (⟨i+1,z0D⟩) _ z0H ?_;simp only[go_sem,hS0]<;>repeat' first|apply W6|exact on'|fail)
     rw[f_yes (p:=fun v=>!(bif l8 r then a2C r else[]).contains v) [] z0D hc2];done)
  | (have hc2:(fun v=>!(bif l8 r then a2C r else[]).contains v) ((bif l8 r then a4j r else[]).getD i [])=false:=by(first|exact hc|(simpa[-List.getD_eq_getElem?_getD]using hc))
     (refine lpK_n2 (⟨i+1,z0D⟩) _ z0H ?_;simp only[go_sem,hS0]<;>repeat' first|apply W6|exact on'|fail)
     rw[f_no (p:=fun v=>!(bif l8 r then a2C r else[]).contains v) [] z0D hc2];done)
  | (rw[j5 z0D,a5E];cases h:l8 r<;>rfl)
  | trace_state
noncomputable def a6E:CT:=l4 (fun(x:c8)=>b5M x)
@[go_sem] def d1O:=fun x0 x1 x2 x3=>nm' (fQ' a6E rfl ⟨x0,⟨x1,x2⟩,x3⟩)
def c7l(k:List (List UInt8))(x:List UInt8):Lib.containsS (k.map fun s=>(⟨s.toArray⟩:ByteArray)) ⟨x.toArray⟩=k.contains x:=by
 rw[q3L,Lib.containsS_iff,q2I,q0R];constructor
 ·rintro⟨s,hs,e⟩;have e2:s.toArray=x.toArray:=ByteArray.mk.inj e;have:s=x:=by simpa using e2
  exact this▸hs
 ·intro h;exact⟨x,h,rfl⟩
def d4r(b o n cap:Nat)(a:Option Addr)(y:ByteArray)(W:World)(r:Bool)(hcell:W.cell? ⟨b,o,none⟩=some (Value.slice a n cap))(HC:Aside (Calls Tryz.prog 207 #[.slice a n cap,.string y] W fun e w'=>e=.returned (.bool r)/\w'=W)):Calls Tryz.prog 206 #[.string y,.pointer (some ⟨b,o,none⟩)] W fun e w'=>e=.returned (.bool r)/\∃q,w'=W.drewN q:=by
 go_enter Tryz.func206,Tryz.ntmps206
 go_wp2_with (go_at_call 207;refine HC.out.mono ?_;rintro e w' ⟨rfl,rfl⟩)
 go_ret
 exact⟨rfl,0,rfl⟩
def d0P(k:List (List UInt8))(F:Nat->Prop)(W:World)(lb:List Value)(h:C.RdVals F W [.p [a3G k]] lb [])(x:List UInt8):FnGives Tryz.prog 206 lb.toArray #[encStr x] (.bool (k.contains x)) W:=by
 unfold C.RdVals at h;obtain⟨v,vs,f1,f2,rfl,hf,h1,h2⟩:=h;unfold C.RdVals at h2;obtain⟨rfl,rfl⟩:=h2;unfold C.Rd at h1;obtain⟨rfl,b,o,vs,rfl,hFb,hca,hv⟩:=h1;unfold C.RdVals at hv;obtain⟨v,vs',f3,f4,rfl,hf2,hv1,hv2⟩:=hv;unfold C.RdVals at hv2;obtain⟨rfl,rfl⟩:=hv2;unfold C.Rd at hv1;obtain⟨a,cap,rfl,hl1,hl2,hl3,hl4⟩:=hv1;simp only[V2]at hl4;have hcell:=hca 0 z0E;simp only[List.getElem_cons_zero,q4X]at hcell;have hcon:Calls Tryz.prog 207 #[.slice a (k.map a0M).length cap,encStr x] W fun e w'=>e=.returned (.bool (k.contains x))/\w'=W:=by
  rcases hl4.2 with h0|⟨b2,o2,vs2,rfl,hF2,hca2,hrr⟩
  ·have hk:k=[]:=by simpa using h0
   subst hk;exact Any.slices_Contains_string_empty Tryz.l110 a cap ⟨x.toArray⟩ W
  ·obtain⟨rfl,_,hok⟩:=a6Y hrr;have:=Any.slices_Contains_string Tryz.l110 b2 o2 k.length cap (k.map fun s=>(⟨s.toArray⟩:ByteArray)) ⟨x.toArray⟩ W z0E (by rw[q0C]at hl1;simp only[maxLen]at hl2;omega) (fun j hj=>by
    have hj':j<k.length:=by simpa using hj
    have:=hca2 j (by simpa using hj');rw[this];simp[encStr,W5,hj'])
   rw[q1A z0E,c7l]at this;rw[q0C];exact this
 show Calls Tryz.prog 206 #[encStr x,.pointer (some ⟨b,o,none⟩)] W _;exact d4r b o _ cap a _ W _ hcell hcon
def c1w(l:List (List UInt8))(k:List (List UInt8)):spZ 204 [(false,[.sl true [.s []] (l.map a0M)]),(false,[.f 206 [.p [.sl false [.s []] (k.map a0M)]]])] [] (.one (false,[.sl true [.s []] ((l.filter fun v=>!k.contains v).map a0M)])):=by
 refine d3U Tryz.delStr z0L (fun w=>Tryz.zeroValue9 w) (enters_of Tryz.func206 z0L rfl) (fun v=>k.contains v) (d0P k) ?_ l;intro F w lb fp h;unfold C.RdVals at h;obtain⟨v,vs,f1,f2,rfl,hf,h1,h2⟩:=h;unfold C.RdVals at h2;obtain⟨rfl,rfl⟩:=h2;unfold C.Rd at h1;rw[hf,h1.1];rfl
noncomputable def a8E:CT:=l4 (fun(x:(List (List UInt8))×(List (List UInt8)))=>c1w x.1 x.2)
@[go_sem] def d4H:=fun l k=>nm' (fQ' a8E rfl (l,k))
def b5z(r:c8):spZ 151 [(true,[.i .i64 r.Kind,.s r.Head.Name,o6 r.Head.Args,a0s r.Body])] [] (.one (false,[b0Z (a5E r)])):=by
 refine sy' Tryz.func151 (q' 1 [aX 4 0,ao (.mov (.k (.v false [.nl [.s []]])))] (.seq (q' 4 [ae 4 1,ac 202 [4],aO 5] (ci 6 (q' 2 [ao (.mov (.k (.v false [.nl [.s []]])))] .ret))) (q' 7 [ae 4 1,ac 203 [7],ax (w' 3 [.sl [.s []]]),aS 1 3 8] (q' 9 [ae 4 1,ac 205 [9],ao (.mf 206 [.t 3]),ac 204 [10,11],aV 2] .ret)))) [.t 2] [(202,[],a5Q),(203,[],b2M),(205,[],b0A),(204,[0],a8E)] ?_;intro hb hE;simp only[go_sem];repeat' first|apply cj'|intro hc|exact om'|fail
 all_goals(have h9:l8 r=_:=hc;rw[a5E,h9];first|rfl)
noncomputable def a6t:CT:=l4 (fun(x:c8)=>b5z x)
@[go_sem] def d1B:=fun x0 x1 x2 x3=>nm' (fQ' a6t rfl ⟨x0,⟨x1,x2⟩,x3⟩)
end Go.Aw
