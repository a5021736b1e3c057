/- Letters, digits, words, values: what the functions compute. No condition. -/
import Derived.Test.YtokefohpgeajaaaGreatrBx9we
import Derived.Lib.Bytealg
import Derived.Test.YtokefohpgeajaaaGreatrBx8we
namespace Go.Aw
noncomputable section
set_option maxHeartbeats 4000000
open Go.Proofs
attribute [local irreducible] aft blk lpK retK AW A0p
set_option linter.all false
set_option maxRecDepth 100000
def a0C(n:Int):Bool:=decide (97<=n)&&decide (n<=122)
def a3t(n:Int):Bool:=decide (48<=n)&&decide (n<=57)
def a0q(n:Int):Bool:=decide (0<=n)&&decide (n<=281474976710655)
def a7K(x:UInt8):Bool:=a0C x.toNat||a3t x.toNat
def a0S(s:List UInt8):Bool:=s.all a7K&&(decide (1<=s.length)&&decide (s.length<=12)&&a0C (s.getD 0 0).toNat)
def k9(v:d4):Bool:=bif v.S==[]then a0q v.N else v.N==0&&a0S v.S
def b1R(c:Int):spZ 206 [(false,[.i .u8 c])] [] (.one (false,[.b (a0C c)])):=by
 refine sy' Tryz.func206 (q' 2 [aU false] (q' 3 [am 0,ao (.bin .geq (.t 3) (bu 97)),am 4,aH 5 true [bm 0,bo (.bin .leq (.t 6) (bu 122))],aP 5 7,aV 2] .ret)) [.t 2] [] ?_;intro hb hE;simp only[go_sem];repeat' first|apply cj'|intro hc|exact om'|fail
 rfl
def a2B:CT:=o8 (fun(x:Int)=>b1R x)
@[go_sem] def c2o:=fun c=>nm' (fQ' a2B rfl c)
def b4o(c:Int):spZ 208 [(false,[.i .u8 c])] [] (.one (false,[.b (a3t c)])):=by
 refine sy' Tryz.func208 (q' 2 [aU false] (q' 3 [am 0,ao (.bin .geq (.t 3) (bu 48)),am 4,aH 5 true [bm 0,bo (.bin .leq (.t 6) (bu 57))],aP 5 7,aV 2] .ret)) [.t 2] [] ?_;intro hb hE;simp only[go_sem];repeat' first|apply cj'|intro hc|exact om'|fail
 rfl
def a3b:CT:=o8 (fun(x:Int)=>b4o x)
@[go_sem] def c3E:=fun c=>nm' (fQ' a3b rfl c)
def b1S(n:Int):spZ 133 [(false,[.i .i64 n])] [] (.one (false,[.b (a0q n)])):=by
 refine sy' Tryz.func133 (q' 2 [aU false] (q' 3 [am 0,aC .geq 3 0,am 4,aH 5 true [bm 0,bC .leq 6 281474976710655],aP 5 7,aV 2] .ret)) [.t 2] [] ?_;intro hb hE;simp only[go_sem];repeat' first|apply cj'|intro hc|exact om'|fail
 rfl
def a5s:CT:=o8 (fun(x:Int)=>b1S x)
@[go_sem] def c2p:=fun n=>nm' (fQ' a5s rfl n)
def b6a(s:List UInt8):spZ 149 [(false,[.s s])] [] (.one (false,[.b (a0S s)])):=by
 refine sy' Tryz.func149 (q' 2 [aU false] (.seq (q' 4 [am 0,ao (.lens (.t 4)),aK 0] (fO 0 7 [ar 6 5] 7 1 (q' 8 [am 6,aV 3] (q' 9 [aM [0,3],ao (.ixs (.t 9) (.t 10)),ac 206 [11],aO 12,am 13,aH 14 true [bm 0,bm 3,bo (.ixs (.t 15) (.t 16)),bc 208 [17],bO 18],aP 14 19] (ci 20 (q' 2 [aU false] .ret)))) (g' 21 [aA 6]))) (q' 22 [am 0,ao (.lens (.t 22)),aC .geq 23 1,am 24,aH 25 true [bm 0,bo (.lens (.t 26)),bC .leq 27 12],aP 25 28,am 29,aH 30 true [bm 0,bo (.ixs (.t 31) (k' 0)),bc 206 [32]],aP 30 33,aV 2] .ret))) [.t 2] [(206,[],a2B),(208,[],a3b)] ?_;intro hb hE;simp only[go_sem];repeat' first|apply cj'|intro hc|exact om'|fail
 refine lq' false [0,5] [] [] (fun i:{i:Nat // i<=s.length/\(s.take i).all a7K=true}=>[(6,slV (.i .i64 i.1))]) nl' nl' (fun i=>s.length-i.1) (⟨0,by simp⟩) ?_;intro S0 hS0 i;obtain⟨i,hi,ha⟩:=i;simp only[go_sem,hS0];repeat' first|apply cj'|intro hc|exact om'|fail
 ·have h:a7K (s.getD i 0)=false:=by simp only[a7K,hc,Bool.or_self]
  rw[a0S,all_false (by omega) h];rfl
 ·exact nx0 ⟨i+1,by omega,by rw[A7q (d:=0) (by omega),ha];simpa[a7K,-List.getD_eq_getElem?_getD,<-Bool.not_or]using hc⟩
 ·rw[a0S,all_of_take (by omega) ha]
  norm_cast
def a2m:CT:=o8 (fun(x:(List UInt8))=>b6a x)
@[go_sem] def c5E:=fun s=>nm' (fQ' a2m rfl s)
def b4j(v:d4):spZ 168 [(true,[.i .i64 v.N,.s v.S])] [] (.one (false,[.b (k9 v)])):=by
 refine sy' Tryz.func168 (q' 1 [aX 2 0,aU false] (.seq (q' 3 [aG 1 1,aY .eql 4 []] (ci 5 (q' 6 [aG 0 1,ac 133 [7],aV 2] .ret))) (q' 9 [aG 0 1,aC .eql 10 0,am 11,aH 12 true [bf 1 1,bL,bc 149 [14]],aP 12 15,aV 2] .ret))) [.t 2] [(133,[],a5s),(149,[],a2m)] ?_;intro hb hE;simp only[go_sem];repeat' first|apply cj'|intro hc|exact om'|fail
 ·simp only[k9,hc,W5]
 ·simp only[k9,hc,W3]
def a0X:CT:=o8 (fun(x:d4)=>b4j x)
@[go_sem] def c3z:=fun x0 x1=>nm' (fQ' a0X rfl ⟨x0,x1⟩)
def b6p(n:Int):spZ 126 [(false,[.i .i64 n])] [] (.one (false,[.b (a0q n)])):=by
 refine sy' Tryz.func126 (q' 2 [aU false] (q' 3 [am 0,aC .geq 3 0,am 4,aH 5 true [bm 0,bC .leq 6 281474976710655],aP 5 7,aV 2] .ret)) [.t 2] [] ?_;intro hb hE;simp only[go_sem];repeat' first|apply cj'|intro hc|exact om'|fail
 rfl
def a2o:CT:=o8 (fun(x:Int)=>b6p x)
@[go_sem] def c5T:=fun n=>nm' (fQ' a2o rfl n)
def b6n(s:List UInt8):spZ 160 [(false,[.s s])] [] (.one (false,[.b (a0S s)])):=by
 refine sy' Tryz.func160 (q' 2 [aU false] (.seq (q' 6 [am 0,ao (.lens (.t 6)),aC .lss 7 1,am 8,aH 9 false [bm 0,bo (.lens (.t 10)),bC .gtr 11 12],aQ 9 12] (ci 13 (q' 2 [aU false] .ret))) (.seq (q' 3 [aK 0] (fo 0 14 [aM [3,0],ao (.lens (.t 15)),ar 14 16] 17 1 (q' 20 [aM [0,3],ao (.ixs (.t 20) (.t 21)),ao (.bin .geq (.t 22) (bu 97)),am 23,aH 24 true [bm 0,bm 3,bo (.ixs (.t 25) (.t 26)),bo (.bin .leq (.t 27) (bu 122))],aP 24 28,aV 4] (q' 30 [aM [0,3],ao (.ixs (.t 30) (.t 31)),ao (.bin .geq (.t 32) (bu 48)),am 33,aH 34 true [bm 0,bm 3,bo (.ixs (.t 35) (.t 36)),bo (.bin .leq (.t 37) (bu 57))],aP 34 38,aV 5] (q' 40 [am 4,aO 40,am 41,aH 42 true [bm 5,bO 43,bm 44],aH 45 false [bm 3,bC .eql 46 0],aH 42 true [bQ 45 47],aP 42 48] (ci 49 (q' 2 [aU false] .ret))))) (g' 18 [aB 3]))) (q' 2 [aU true] .ret)))) [.t 2] [] ?_;intro hb hE;simp only[go_sem];repeat' first|apply cj'|intro hc|exact om'|fail
 ·cases h:a0S s with
  | false=>rfl
  | true=>
    simp only[a0S,W6,V9]at h;omega
 refine lq' false [0] [] [] (fun i:{i:Nat // i<=s.length/\(s.take i).all a7K=true/\(0<i->a0C (s.getD 0 0).toNat=true)}=>[(3,slV (.i .i64 i.1))]) nl' nl' (fun i=>s.length-i.1) (⟨0,by simp⟩) ?_;intro S0 hS0 i;obtain⟨i,hi,ha,hl⟩:=i;simp only[go_sem,hS0];repeat' first|apply cj'|intro hc|exact om'|fail
 ·cases h:a0S s with
  | false=>rfl
  | true=>
    simp only[a0S,W6,V9]at h;have h2:=all_getD (d:=0) h.1 (show i<s.length by omega);have hc1:a0C (s.getD i 0).toNat=false/\(a3t (s.getD i 0).toNat=false\/((i:Int)==0)=true):=hc;simp only[a7K,hc1.1,q3C]at h2;rcases hc1.2 with h3|h3
    ·rw[h3]at h2;cases h2
    ·have:i=0:=by simpa using h3
     subst this;exact absurd h.2.2 (by rw[hc1.1];exact Bool.false_ne_true)
 ·have hc1:(!a0C (s.getD i 0).toNat&&(!a3t (s.getD i 0).toNat||((i:Int)==0)))=false:=hc;have h1:a7K (s.getD i 0)=true:=by
   revert hc1
   simp only[a7K];generalize a0C (s.getD i 0).toNat=L;generalize a3t (s.getD i 0).toNat=D;cases L<;>cases D<;>simp
  have h2:a0C (s.getD 0 0).toNat=true:=by
   rcases Nat.eq_zero_or_pos i with h0|h0
   ·subst h0
    revert hc1
    cases a0C (s.getD 0 0).toNat<;>simp
   ·exact hl h0
  exact nx0 ⟨i+1,by omega,by rw[A7q (d:=0) (by omega),ha,h1];rfl,fun _=>h2⟩
 ·have h:s.all a7K=true:=all_of_take (by omega) ha;have h2:=hl (by omega);simp only[a0S,h,h2,q1D,q0K];simp;omega
def a0Q:CT:=o8 (fun(x:(List UInt8))=>b6n x)
@[go_sem] def c5R:=fun s=>nm' (fQ' a0Q rfl s)
def b4w(v:d4):spZ 312 [(true,[.i .i64 v.N,.s v.S])] [] (.one (false,[.b (k9 v)])):=by
 refine sy' Tryz.func312 (q' 1 [aX 2 0,aU false] (.seq (q' 3 [aG 1 1,aY .eql 4 []] (ci 5 (q' 6 [aG 0 1,ac 126 [7],aV 2] .ret))) (q' 9 [aG 0 1,aC .eql 10 0,am 11,aH 12 true [bf 1 1,bL,bc 160 [14]],aP 12 15,aV 2] .ret))) [.t 2] [(126,[],a2o),(160,[],a0Q)] ?_;intro hb hE;simp only[go_sem];repeat' first|apply cj'|intro hc|exact om'|fail
 ·simp only[k9,hc,W5]
 ·simp only[k9,hc,W3]
def a0Z:CT:=o8 (fun(x:d4)=>b4w x)
@[go_sem] def c3M:=fun x0 x1=>nm' (fQ' a0Z rfl ⟨x0,x1⟩)
def a4I(n:Int):Bool:=decide (65<=n)&&decide (n<=90)
def c1m(x:UInt8):Bool:=a0C x.toNat||a4I x.toNat||a3t x.toNat
def a3R(s:List UInt8):Bool:=s.all c1m&&(decide (1<=s.length)&&decide (s.length<=12)&&a4I (s.getD 0 0).toNat)
def a2H(n:Int):Int:=if 97<=n/\n<=122 then 1 else if 65<=n/\n<=90 then 2 else if 48<=n/\n<=57 then 3 else 0
def cls2(n:Int):(a2H n != 2)=!a4I n:=by
 unfold a2H a4I;rw[<-q5J];by_cases h:65<=n/\n<=90
 ·rw[if_neg (by omega),if_pos h];simp[h]
 ·rw[if_neg h];(repeat' split)<;>simp[h]
def cls0(x:UInt8):(a2H x.toNat==0)=!c1m x:=by
 unfold a2H c1m a4I a0C a3t;rw[<-q5J,<-q5J,<-q5J]
 (repeat' split)<;>simp[*]
def b4p(c:Int):spZ 207 [(false,[.i .u8 c])] [] (.one (false,[.b (a4I c)])):=by
 refine sy' Tryz.func207 (q' 2 [aU false] (q' 3 [am 0,ao (.bin .geq (.t 3) (bu 65)),am 4,aH 5 true [bm 0,bo (.bin .leq (.t 6) (bu 90))],aP 5 7,aV 2] .ret)) [.t 2] [] ?_;intro hb hE;simp only[go_sem];repeat' first|apply cj'|intro hc|exact om'|fail
 rfl
def a6n:CT:=o8 (fun(x:Int)=>b4p x)
@[go_sem] def c3F:=fun c=>nm' (fQ' a6n rfl c)
def b8y(s:List UInt8):spZ 167 [(false,[.s s])] [] (.one (false,[.b (a3R s)])):=by
 refine sy' Tryz.func167 (q' 2 [aU false] (.seq (q' 4 [am 0,ao (.lens (.t 4)),aK 0] (fO 0 7 [ar 6 5] 7 1 (q' 8 [am 6,aV 3] (q' 9 [aM [0,3],ao (.ixs (.t 9) (.t 10)),ac 206 [11],aO 12,am 13,aH 14 true [bm 0,bm 3,bo (.ixs (.t 15) (.t 16)),bc 207 [17],bO 18],aP 14 19,am 20,aH 21 true [bm 0,bm 3,bo (.ixs (.t 22) (.t 23)),bc 208 [24],bO 25],aP 21 26] (ci 27 (q' 2 [aU false] .ret)))) (g' 28 [aA 6]))) (q' 29 [am 0,ao (.lens (.t 29)),aC .geq 30 1,am 31,aH 32 true [bm 0,bo (.lens (.t 33)),bC .leq 34 12],aP 32 35,am 36,aH 37 true [bm 0,bo (.ixs (.t 38) (k' 0)),bc 207 [39]],aP 37 40,aV 2] .ret))) [.t 2] [(206,[],a2B),(207,[],a6n),(208,[],a3b)] ?_;intro hb hE;simp only[go_sem];repeat' first|apply cj'|intro hc|exact om'|fail
 refine lq' false [0,5] [] [] (fun i:{i:Nat // i<=s.length/\(s.take i).all c1m=true}=>[(6,slV (.i .i64 i.1))]) nl' nl' (fun i=>s.length-i.1) (⟨0,by simp⟩) ?_;intro S0 hS0 i;obtain⟨i,hi,ha⟩:=i;simp only[go_sem,hS0];repeat' first|apply cj'|intro hc|exact om'|fail
 ·have h:c1m (s.getD i 0)=false:=by simp only[c1m,hc,Bool.or_self]
  rw[a3R,all_false (by omega) h];rfl
 ·exact nx0 ⟨i+1,by omega,by rw[A7q (d:=0) (by omega),ha];simpa[c1m,-List.getD_eq_getElem?_getD,<-Bool.not_or]using hc⟩
 ·rw[a3R,all_of_take (by omega) ha]
  norm_cast
def a5a:CT:=o8 (fun(x:(List UInt8))=>b8y x)
@[go_sem] def c7e:=fun s=>nm' (fQ' a5a rfl s)
def b2c(c:Int):spZ 180 [(false,[.i .u8 c])] [] (.one (false,[.i .i64 (a2H c)])):=by
 refine sy' Tryz.func180 (q' 2 [aK 0] (.seq (q' 3 [am 0,ao (.bin .geq (.t 3) (bu 97)),am 4,aH 5 true [bm 0,bo (.bin .leq (.t 6) (bu 122))],aP 5 7] (ci 8 (q' 2 [aK 1] .ret))) (.seq (q' 9 [am 0,ao (.bin .geq (.t 9) (bu 65)),am 10,aH 11 true [bm 0,bo (.bin .leq (.t 12) (bu 90))],aP 11 13] (ci 14 (q' 2 [aK 2] .ret))) (.seq (q' 15 [am 0,ao (.bin .geq (.t 15) (bu 48)),am 16,aH 17 true [bm 0,bo (.bin .leq (.t 18) (bu 57))],aP 17 19] (ci 20 (q' 2 [aK 3] .ret))) (q' 2 [aK 0] .ret))))) [.t 2] [] ?_;intro hb hE;simp only[go_sem];repeat' first|apply cj'|intro hc|exact om'|fail
 all_goals((try simp only[q3P,q2E]at*);simp only[a2H];(repeat' split)<;>omega)
def a2G:CT:=o8 (fun(x:Int)=>b2c x)
@[go_sem] def c2A:=fun c=>nm' (fQ' a2G rfl c)
def b8I(s:List UInt8):spZ 183 [(false,[.s s])] [] (.one (false,[.b (a3R s)])):=by
 refine sy' Tryz.func183 (q' 2 [aU false] (.seq (q' 4 [am 0,ao (.lens (.t 4)),aC .lss 5 1,am 6,aH 7 false [bm 0,bo (.lens (.t 8)),bC .gtr 9 12],aQ 7 10,am 11,aH 12 false [bm 0,bo (.ixs (.t 13) (k' 0)),bc 180 [14],bC .neq 15 2],aQ 12 16] (ci 17 (q' 2 [aU false] .ret))) (.seq (q' 3 [aK 0] (fo 0 18 [aM [3,0],ao (.lens (.t 19)),ar 18 20] 21 1 (q' 24 [aM [0,3],ao (.ixs (.t 24) (.t 25)),ac 180 [26],aC .eql 27 0] (ci 28 (q' 2 [aU false] .ret))) (g' 22 [aB 3]))) (q' 2 [aU true] .ret)))) [.t 2] [(180,[],a2G)] ?_;intro hb hE;simp only[go_sem,cls2,cls0];repeat' first|apply cj'|intro hc|exact om'|fail
 ·symm;unfold a3R;rcases hc with(h|h)|h
  ·rw[V2 (p:=1<=s.length) (by omega)];simp
  ·rw[V2 (p:=s.length<=12) (by omega)];simp
  ·rw[h];simp
 have hh:=hc;refine lq' false [0] [] [] (fun i:{i:Nat // i<=s.length/\(s.take i).all c1m=true}=>[(3,slV (.i .i64 i.1))]) nl' nl' (fun i=>s.length-i.1) (⟨0,by simp⟩) ?_;intro S0 hS0 i;obtain⟨i,hi,ha⟩:=i;simp only[go_sem,cls2,cls0,hS0];repeat' first|apply cj'|intro hc|exact om'|fail
 ·rw[a3R,all_false (by omega) hc];rfl
 ·(refine lpK_n2 (⟨i+1,by omega,by rw[A7q (d:=0) (by omega),ha,hc];rfl⟩) _ rfl ?_;simp only[go_sem,cls2,cls0,hS0]<;>repeat' first|apply V0|exact on'|fail)
 ·symm;rw[a3R,all_of_take (by omega) ha,hh.2,W9 (by omega),W9 (by omega)];rfl
def a5d:CT:=o8 (fun(x:(List UInt8))=>b8I x)
@[go_sem] def c7q:=fun s=>nm' (fQ' a5d rfl s)
def a2Q(l:List c4)(i:Nat):Bool:=!a3R (l.getD i default).Var||!k9 (l.getD i default).Val||(decide ((0:Int)<i)&&!Op.bytesLess (l.getD (i-1) default).Var (l.getD i default).Var)
def b0N(e:c9):Bool:=!a3x e.Binds.length (a2Q e.Binds)&&decide ((e.Binds.length:Int)<=60)
def b8v(e:c9):spZ 77 [(true,[u5 e.Binds])] [] (.one (false,[.b (b0N e)])):=by
 refine sy' Tryz.func77 (q' 1 [aX 1 0,aU false] (.seq (q' 5 [aG 0 1,aN,aK 0] (fO 0 9 [ar 8 7] 9 1 (q' 10 [am 8,ai 3 6 8,aE 3,ax (w' 4 [.s,.i .i64,.s]),av 3 10,aS 3 4 12] (.seq (G' 13 [aG 0 4,ac 167 [14],aO 15,am 16,aH 17 false [bf 1 4,bE 2,bc 168 [19],bO 20],aQ 17 21,am 22,aH 23 false [bm 3,bC .gtr 24 0,bm 25],aH 26 true [bf 0 1,bL,bm 3,bC .sub 29 1,bi 3 28 30,bF 0,bL,bf 0 4,bL,bD .geq 33 35],aH 23 false [bP 26 36],aQ 23 37]) (ci 38 (q' 2 [aU false] .ret)))) (g' 39 [aA 8]))) (q' 40 [aG 0 1,aN,aC .leq 42 60,aV 2] .ret))) [.t 2] [(167,[],a5a),(168,[],a0X)] ?_;intro hb hE;simp only[go_sem];repeat' first|apply cj'|intro hc|exact om'|fail
 refine lq' false [1,6,7] [2] [] (fun i:{i:Nat // i<=e.Binds.length/\a3x i (a2Q e.Binds)=false}=>[(8,slV (.i .i64 i.1))]) nl' nl' (fun i=>e.Binds.length-i.1) (⟨0,by simp[a2V]⟩) ?_;intro S0 hS0 i;obtain⟨i,hi,ha⟩:=i;have hp:=wpred (i:=i) (by omega);simp only[go_sem,hS0,hp];repeat' first|apply cj'|intro hc|exact om'|fail
 ·have h:a2Q e.Binds i=true:=by simpa[a2Q]using hc
  rw[b0N,a4w (by omega) h];rfl
 ·have h:a2Q e.Binds i=false:=by simpa[a2Q]using hc
  (refine lpK_n2 (⟨i+1,by omega,a2c ha h⟩) _ rfl ?_;simp only[go_sem,hS0,hp]<;>repeat' first|apply V0|exact on'|fail)
 ·obtain rfl:i=e.Binds.length:=by omega
  rw[b0N,ha];rfl
def a8x:CT:=o8 (fun(x:c9)=>b8v x)
@[go_sem] def c7b:=fun x0=>nm' (fQ' a8x rfl ⟨x0⟩)
def getB(e:c9)(v:List UInt8):Nat:=a0R e.Binds.length fun i=>(e.Binds.getD i default).Var==v
def w6(e:c9)(v:List UInt8):d4×Bool:=if getB e v<e.Binds.length then((e.Binds.getD (getB e v) default).Val,true)else(default,false)
def a6G{e:c9}{v:List UInt8}(h:∀j,j<e.Binds.length->((e.Binds.getD j default).Var==v)=false):w6 e v=(default,false):=by
 have:=a3J h;rw[w6,getB,this,if_neg (by omega)]
def a6H{e:c9}{v:List UInt8}{i:Nat}(hi:i<e.Binds.length)(h:∀j,j<i->((e.Binds.getD j default).Var==v)=false)(hp:((e.Binds.getD i default).Var==v)=true):w6 e v=((e.Binds.getD i default).Val,true):=by
 have:=a2w h hp hi;rw[w6,getB,this,if_pos hi]
def b8F(e:c9)(v:List UInt8):spZ 260 [(true,[u5 e.Binds]),(false,[.s v])] [] (.tup [(true,[.i .i64 (((w6 e v).1).N),.s (((w6 e v).1).S)]),(false,[.b ((w6 e v).2)])]):=by
 refine sy' Tryz.func260 (q' 2 [aX 1 0,ax (w' 4 [.i .i64,.s]),ab 5 false] (.seq (q' 8 [aG 0 2,aN,aK 0] (fO 0 12 [ar 11 10] 12 1 (q' 13 [ai 3 9 11,aE 3,ax (w' 7 [.s,.i .i64,.s]),aS 3 7 14] (q' 15 [aG 0 7,am 1,aD .eql 16 17] (ci 18 (q' 19 [af 1 7,aE 2,aS 2 4 20,ab 5 true] .ret)))) (g' 21 [aA 11]))) (q' 22 [ao (.bld [.i .i64,.s] []),aS 2 4 22,ab 5 false] .ret))) [.c 4 true 2,.t 5] [] ?_;intro hb hE;simp only[go_sem];repeat' first|apply cj'|intro hc|exact om'|fail
 refine lq' false [1,4,9,10] [] [] (fun i:{i:Nat // i<=e.Binds.length/\∀j,j<i->((e.Binds.getD j default).Var==v)=false}=>[(11,slV (.i .i64 i.1))]) (fun i=>[(8,[.c (.i .i64 0),.c (.s [])])]) nl' (fun i=>e.Binds.length-i.1) (⟨0,by simp⟩) ?_;intro S0 hS0 i;obtain⟨i,hi,ha⟩:=i;simp only[go_sem,hS0];repeat' first|apply cj'|intro hc|exact om'|fail
 ·rw[a6H (by omega) ha hc];exact⟨⟨rfl,rfl⟩,rfl⟩
 ·exact nx0 ⟨i+1,by omega,fun j hj=>(q2S.1 hj).elim (ha j) (fun q=>q▸hc)⟩
 ·rw[a6G fun j hj=>ha j (by omega)];exact⟨⟨rfl,rfl⟩,rfl⟩
def a8C:CT:=o8 (fun(x:c9×(List UInt8))=>b8F x.1 x.2)
@[go_sem] def c7m:=fun x0 v=>nm' (fQ' a8C rfl (⟨x0⟩,v))
def b6C(e:c9)(v:List UInt8):spZ 254 [(true,[u5 e.Binds]),(false,[.s v])] [] (.tup [(true,[.i .i64 (((w6 e v).1).N),.s (((w6 e v).1).S)]),(false,[.b ((w6 e v).2)])]):=by
 refine sy' Tryz.func254 (q' 2 [aX 1 0,ax (w' 4 [.i .i64,.s]),ab 5 false] (.seq (q' 8 [aG 0 2,aN,aK 0] (fO 0 12 [ar 11 10] 12 1 (q' 13 [ai 3 9 11,aE 3,ax (w' 7 [.s,.i .i64,.s]),aS 3 7 14] (q' 15 [aG 0 7,am 1,aD .eql 16 17] (ci 18 (q' 19 [af 1 7,aE 2,aS 2 4 20,ab 5 true] .ret)))) (g' 21 [aA 11]))) (q' 22 [ao (.bld [.i .i64,.s] []),aS 2 4 22,ab 5 false] .ret))) [.c 4 true 2,.t 5] [] ?_;intro hb hE;simp only[go_sem];repeat' first|apply cj'|intro hc|exact om'|fail
 refine lq' false [1,4,9,10] [] [] (fun i:{i:Nat // i<=e.Binds.length/\∀j,j<i->((e.Binds.getD j default).Var==v)=false}=>[(11,slV (.i .i64 i.1))]) (fun i=>[(8,[.c (.i .i64 0),.c (.s [])])]) nl' (fun i=>e.Binds.length-i.1) (⟨0,by simp⟩) ?_;intro S0 hS0 i;obtain⟨i,hi,ha⟩:=i;simp only[go_sem,hS0];repeat' first|apply cj'|intro hc|exact om'|fail
 ·rw[a6H (by omega) ha hc];exact⟨⟨rfl,rfl⟩,rfl⟩
 ·exact nx0 ⟨i+1,by omega,fun j hj=>(q2S.1 hj).elim (ha j) (fun q=>q▸hc)⟩
 ·rw[a6G fun j hj=>ha j (by omega)];exact⟨⟨rfl,rfl⟩,rfl⟩
def a2q:CT:=o8 (fun(x:c9×(List UInt8))=>b6C x.1 x.2)
@[go_sem] def c6h:=fun x0 v=>nm' (fQ' a2q rfl (⟨x0⟩,v))
def a4L(s:List UInt8):Bool:=s==[115,116,97,116,101]||s==[101,118,101,110,116]||s==[118,105,101,119]||s==[110,111,116]
def p6(t:d3):Bool:=bif !(t.Var==[])then a3R t.Var&&(t.Val.N==0&&t.Val.S==[])else k9 t.Val&&!a4L t.Val.S
def c0D(s:List UInt8):spZ 96 [(false,[.s s])] [] (.one (false,[.b (a4L s)])):=by
 refine sy' Tryz.func96 (q' 2 [aU false] (q' 3 [am 0,aY .eql 3 [115,116,97,116,101],am 4,aH 5 false [bm 0,bY .eql 6 [101,118,101,110,116]],aQ 5 7,am 8,aH 9 false [bm 0,bY .eql 10 [118,105,101,119]],aQ 9 11,am 12,aH 13 false [bm 0,bY .eql 14 [110,111,116]],aQ 13 15,aV 2] .ret)) [.t 2] [] ?_;intro hb hE;simp only[go_sem];repeat' first|apply cj'|intro hc|exact om'|fail
 all_goals(first|rfl)
def a0F:CT:=o8 (fun(x:(List UInt8))=>c0D x)
@[go_sem] def c8n:=fun s=>nm' (fQ' a0F rfl s)
def c0z(s:List UInt8):spZ 170 [(false,[.s s])] [] (.one (false,[.b (a4L s)])):=by
 refine sy' Tryz.func170 (q' 2 [aU false] (q' 3 [am 0,aY .eql 3 [115,116,97,116,101],am 4,aH 5 false [bm 0,bY .eql 6 [101,118,101,110,116]],aQ 5 7,am 8,aH 9 false [bm 0,bY .eql 10 [118,105,101,119]],aQ 9 11,am 12,aH 13 false [bm 0,bY .eql 14 [110,111,116]],aQ 13 15,aV 2] .ret)) [.t 2] [] ?_;intro hb hE;simp only[go_sem];repeat' first|apply cj'|intro hc|exact om'|fail
 all_goals(first|rfl)
def a6h:CT:=o8 (fun(x:(List UInt8))=>c0z x)
@[go_sem] def c8j:=fun s=>nm' (fQ' a6h rfl s)
def b0m(t:d3):spZ 249 [(true,[.s t.Var,.i .i64 t.Val.N,.s t.Val.S])] [] (.one (false,[.b (p6 t)])):=by
 refine sy' Tryz.func249 (q' 1 [aX 3 0,aU false] (.seq (q' 3 [aG 0 1,aY .neq 4 []] (ci 5 (q' 6 [aG 0 1,ac 183 [7],am 8,aH 9 true [bf 1 1,bE 2,bo (.bld [.i .i64,.s] []),bo (.eqs false [.i .i64,.s] (.t 11) (.t 12))],aP 9 13,aV 2] .ret))) (q' 15 [af 1 1,aE 2,ac 312 [16],am 17,aH 18 true [bf 1 1,bF 1,bL,bc 96 [21],bO 22],aP 18 23,aV 2] .ret))) [.t 2] [(183,[],a5d),(312,[],a0Z),(96,[],a0F)] ?_;intro hb hE;simp only[go_sem];repeat' first|apply cj'|intro hc|exact om'|fail
 all_goals(first|(rw[p6,hc];rfl)|(have hc2:(!(t.Var==[]))=true:=hc;rw[p6,hc2];rfl)|(have hc2:(!(t.Var==[]))=false:=hc;rw[p6,hc2];rfl))
def a2f:CT:=o8 (fun(x:d3)=>b0m x)
@[go_sem] def c1A:=fun x0 x1 x2=>nm' (fQ' a2f rfl ⟨x0,⟨x1,x2⟩⟩)
def b6i(t:d3):spZ 80 [(true,[.s t.Var,.i .i64 t.Val.N,.s t.Val.S])] [] (.one (false,[.b (p6 t)])):=by
 refine sy' Tryz.func80 (q' 1 [aX 3 0,aU false] (.seq (q' 3 [aG 0 1,aY .neq 4 []] (ci 5 (q' 6 [aG 0 1,ac 167 [7],am 8,aH 9 true [bf 1 1,bE 2,bo (.bld [.i .i64,.s] []),bo (.eqs false [.i .i64,.s] (.t 11) (.t 12))],aP 9 13,aV 2] .ret))) (q' 15 [af 1 1,aE 2,ac 168 [16],am 17,aH 18 true [bf 1 1,bF 1,bL,bc 170 [21],bO 22],aP 18 23,aV 2] .ret))) [.t 2] [(167,[],a5a),(168,[],a0X),(170,[],a6h)] ?_;intro hb hE;simp only[go_sem];repeat' first|apply cj'|intro hc|exact om'|fail
 all_goals(first|(rw[p6,hc];rfl)|(have hc2:(!(t.Var==[]))=true:=hc;rw[p6,hc2];rfl)|(have hc2:(!(t.Var==[]))=false:=hc;rw[p6,hc2];rfl))
def a2n:CT:=o8 (fun(x:d3)=>b6i x)
@[go_sem] def c5M:=fun x0 x1 x2=>nm' (fQ' a2n rfl ⟨x0,⟨x1,x2⟩⟩)
def b5X(t:d3):spZ 79 [(true,[.s t.Var,.i .i64 t.Val.N,.s t.Val.S])] [] (.one (false,[.b (!p6 t)])):=by
 refine sy' Tryz.func79 (q' 1 [aX 3 0,aU false] (q' 3 [ae 3 1,ac 80 [3],aO 4,aV 2] .ret)) [.t 2] [(80,[],a2n)] ?_;intro hb hE;simp only[go_sem];repeat' first|apply cj'|intro hc|exact om'|fail
 all_goals(first|rfl)
def a7i:CT:=o8 (fun(x:d3)=>b5X x)
@[go_sem] def c5B:=fun x0 x1 x2=>nm' (fQ' a7i rfl ⟨x0,⟨x1,x2⟩⟩)
@[go_sem] def b2M:ACode:=q' 4 [aK 0] (.seq (q' 6 [am 0,aN,aK 0] (fO 0 9 [ar 8 7] 9 1 (q' 10 [am 8,aV 5] (q' 11 [aM [1,0,5],aI 3,aE 3,ao (.callv (.t 11) [.t 15])] (ci 16 (q' 17 [am 5,aV
 4] .ret)))) (g' 18 [aA 8]))) (q' 4 [ao (.mov (.k (.v false [.c (.i .i64 (-1))])))] .ret))
def c6z(l:List d3):spZ 169 [(false,[o9 l]),(false,[.f 79 []])] [] (.one (false,[.i .i64 ((a0R l.length (fun i=>!p6 (l.getD i default)):Nat)-(bif l.all p6 then l.length+1 else 0:Nat))])):=by
 refine sy' Tryz.func169 b2M [.t 4] [(79,[],a7i)] ?_;intro hb hE;simp only[go_sem];repeat' first|apply cj'|intro hc|exact om'|fail
 refine lq' false [0,1,7] [] [] (fun i:{i:Nat // i<=l.length/\(l.take i).all p6=true/\∀j,j<i->(!p6 (l.getD j default))=false}=>[(8,slV (.i .i64 i.1))]) nl' nl' (fun i=>l.length-i.1) (⟨0,by simp⟩) ?_;intro S0 hS0 i;obtain⟨i,hi,ha,hf⟩:=i;simp only[go_sem,hS0];repeat' first|apply cj'|intro hc|exact om'|fail
 ·have hc2:p6 (l.getD i default)=false:=by simpa using hc
  rw[all_false (by omega) hc2,a2w hf (by rw[hc2];rfl) (show i<l.length by omega)];simp
 ·have hc2:p6 (l.getD i default)=true:=by simpa using hc
  exact nx0 ⟨i+1,by omega,by rw[A7q (d:=default) (by omega),ha,hc2];rfl,fun j hj=>(q2S.1 hj).elim (hf j) (fun q=>by rw[q,hc2];rfl)⟩
 ·rw[all_of_take (by omega) ha,a3J fun j hj=>hf j (by omega),W5];omega
def b6T:CT:=o8 (fun(x:(List d3))=>c6z x)
@[go_sem] def c9R:=fun l=>nm' (fQ' b6T rfl l)
@[go_sem] def b2L:ACode:=q' 4 [aU false] (q' 5 [aM [0,1],ac 169 [5,6],aC .geq 7 0,aV 4] .ret)
def c6y(l:List d3):spZ 78 [(false,[o9 l]),(false,[.f 79 []])] [] (.one (false,[.b (!l.all p6)])):=by
 refine sy' Tryz.func78 b2L [.t 4] [(169,[],b6T)] ?_;intro hb hE;simp only[go_sem];repeat' first|apply cj'|intro hc|exact om'|fail
 ·have:=c6s l.length (fun i=>!p6 (l.getD i default));cases l.all p6 with
  | true=>simp only[W5,q3Z];exact V2 (by omega)
  | false=>simp only[W3,q2Z];exact W9 (by omega)
def b6S:CT:=o8 (fun(x:(List d3))=>c6y x)
@[go_sem] def c9Q:=fun l=>nm' (fQ' b6S rfl l)
def k8(e:c9)(t:d3):d4×Bool:=bif t.Var==[]then(t.Val,true)else w6 e t.Var
def b4r(e:c9)(t:d3):spZ 171 [(true,[u5 e.Binds]),(true,[.s t.Var,.i .i64 t.Val.N,.s t.Val.S])] [] (.tup [(true,[.i .i64 (((k8 e t).1).N),.s (((k8 e t).1).S)]),(false,[.b ((k8 e t).2)])]):=by
 refine sy' Tryz.func171 (q' 2 [aX 1 0,aX 3 1,aw [.i .i64,.s],aU false] (.seq (q' 6 [aG 0 3,aY .eql 7 []] (ci 8 (q' 9 [af 1 3,aE 2,aS 2 4 10,ab 5 true] .ret))) (q' 11 [ae 1 2,aG 0 3,ac 260 [11,13],aZ 14 0,aZ 14 1,aS 2 4 15,aV 5] .ret))) [.c 4 true 2,.t 5] [(260,[],a8C)] ?_;intro hb hE;simp only[go_sem];repeat' first|apply cj'|intro hc|exact om'|fail
 all_goals(first|(rw[k8,hc];exact⟨⟨rfl,rfl⟩,rfl⟩))
def a0Y:CT:=o8 (fun(x:c9×d3)=>b4r x.1 x.2)
@[go_sem] def c3H:=fun x0 x1 x2 x3=>nm' (fQ' a0Y rfl (⟨x0⟩,⟨x1,⟨x2,x3⟩⟩))
def z7(e:c9)(args:List d3):d5×Bool:=bif args.all (fun t=>(k8 e t).2)then(⟨args.map fun t=>(k8 e t).1⟩,true)else(default,false)
def a4k{α β:Type}(f:α->β){l:List α}{i:Nat}{d:α}(h:i<l.length):(l.take i).map f++[f (l.getD i d)]=(l.take (i+1)).map f:=by
 rw[q3U,q1T,q0F,V5 h];rfl
def c0A(e:c9)(args:List d3)(hpre:args.length<=6):spZ 81 [(true,[u5 e.Binds]),(false,[o9 args])] [] (.tup [(true,[a5h (((z7 e args).1).V)]),(false,[.b ((z7 e args).2)])]):=by
 refine sx' true false none Tryz.func81 (q' 2 [aX 1 0,ax (w' 4 [.sl l5]),ab 5 false] (q' 6 [ax (o' 11 (.bld [.sl l5] [])),aw [.sl l5],aS 1 6 11] (.seq (q' 12 [am 1,aN,aK 0] (fO 0 15 [ar 14 13] 15 1 (q' 16 [ai 3 12 14,aE 3,ax (w' 8 [.s,.i .i64,.s]),aS 3 8 17] (q' 19 [ae 1 2,ae 3 8,ac 171 [19,20],aV 18,aZ 18 0,aZ 18 1,ax (w' 9 [.i .i64,.s]),aS 2 9 22,aV 10] (.seq (q' 24 [am 10,aO 24] (ci 25 (q' 26 [ao (.bld [.sl l5] []),aS 1 4 26,ab 5 false] .ret))) (g' 27 [aG 0 6,ae 2 9,ao (.bsl 2 1 [.i .i64,.s] [(0,.t 29)]),ao (.app 2 24 [.i .i64,.s] (.t 28) (.t 30)),af 0 6,aS 1 32 31])))) (g' 33 [aA 14]))) (q' 34 [ae 1 6,aS 1 4 34,ab 5 true] .ret)))) [.c 4 true 1,.t 5] [(171,[],a0Y)] ?_;intro hb hE;simp only[go_sem,V8];repeat' first|apply cj'|intro hc|exact om'|fail
 refine lk' true [(true,12,0,3968)] [2,4,6,12,13] [4] [] (fun i:{i:Nat // i<=args.length/\(args.take i).all (fun t=>(k8 e t).2)=true}=>[(14,slV (.i .i64 i.1))]) (fun i=>[(8,[.nl l5]),(12,[.ow 3968])]) (fun i=>[(3968,l5,((args.take i.1).map fun t=>(k8 e t).1).map d4.cells)]) (fun i=>args.length-i.1) (⟨0,by simp⟩) ?_;intro S0 hS0 i;obtain⟨i,hi,ha⟩:=i;simp only[go_sem,V8,hS0];repeat' first|apply cj'|intro hc|exact om'|fail
 ·rw[z7,all_false (p:=fun t=>(k8 e t).2) (d:=default) (i:=i) (by omega) hc];exact⟨rfl,rfl⟩
 ·(refine lpK_n2 (⟨i+1,by omega,by rw[A7q (d:=default) (by omega),ha,hc];rfl⟩) _ (by simp only[go_sem,V8];try rfl) ?_;simp only[go_sem,V8,hS0]<;>repeat' first|apply V0|exact on'|fail)
  all_goals(rw[<-a4k (fun t=>(k8 e t).1) (d:=default) (show i<args.length by omega)])
 ·rw[z7,all_of_take (by omega) ha,q1N (by omega)];exact⟨rfl,rfl⟩
def a6m:CT:=s6 (fun(x:c9×(List d3)) h=>c0A x.1 x.2 h)
@[go_sem] def c8k:=fun x0 x1=>nm' (fP' a6m rfl (⟨x0⟩,x1))
def b4R(e:c9)(args:List d3)(hpre:args.length<=6):spZ 178 [(true,[u5 e.Binds]),(false,[o9 args])] [] (.tup [(true,[a5h (((z7 e args).1).V)]),(false,[.b ((z7 e args).2)])]):=by
 refine sx' true false none Tryz.func178 (q' 2 [aX 1 0,ax (w' 4 [.sl l5]),ab 5 false] (q' 6 [ax (o' 12 (.bld [.sl l5] [])),aw [.sl l5],aS 1 6 12] (.seq (q' 13 [am 1,aN,aK 0] (fO 0 16 [ar 15 14] 16 1 (q' 17 [ai 3 13 15,aE 3,ax (w' 8 [.s,.i .i64,.s]),aS 3 8 18] (q' 19 [af 1 8,aE 2,ax (w' 9 [.i .i64,.s]),aS 2 9 20] (.seq (q' 21 [aG 0 8,aY .neq 22 []] (ci 23 (q' 25 [ae 1 2,aG 0 8,ac 254 [25,27],aV 24,aZ 24 0,aZ 24 1,ax (w' 10 [.i .i64,.s]),aS 2 10 29,aV 11] (.seq (q' 31 [am 11,aO 31] (ci 32 (q' 33 [ao (.bld [.sl l5] []),aS 1 4 33,ab 5 false] .ret))) (g' 34 [ae 2 10,aS 2 9 34]))))) (g' 35 [aG 0 6,ae 2 9,ao (.bsl 2 1 [.i .i64,.s] [(0,.t 37)]),ao (.app 2 24 [.i .i64,.s] (.t 36) (.t 38)),af 0 6,aS 1 40 39])))) (g' 41 [aA 15]))) (q' 42 [ae 1 6,aS 1 4 42,ab 5 true] .ret)))) [.c 4 true 1,.t 5] [(254,[],a2q)] ?_;intro hb hE;simp only[go_sem,V8];repeat' first|apply cj'|intro hc|exact om'|fail
 refine lk' true [(true,12,0,4992)] [2,4,6,13,14] [4] [] (fun i:{i:Nat // i<=args.length/\(args.take i).all (fun t=>(k8 e t).2)=true}=>[(15,slV (.i .i64 i.1))]) (fun i=>[(8,[.nl l5]),(12,[.ow 4992])]) (fun i=>[(4992,l5,((args.take i.1).map fun t=>(k8 e t).1).map d4.cells)]) (fun i=>args.length-i.1) (⟨0,by simp⟩) ?_;intro S0 hS0 i;obtain⟨i,hi,ha⟩:=i;simp only[go_sem,V8,hS0];repeat' first|apply cj'|intro hc|exact om'|fail
 ·rename_i h1;have hv:k8 e (args.getD i default)=w6 e (args.getD i default).Var:=by
   have:((args.getD i default).Var==[])=false:=by simpa using h1
   rw[k8,this];rfl
  rw[z7,all_false (p:=fun t=>(k8 e t).2) (d:=default) (i:=i) (by omega) (by simp only[hv];exact hc)];exact⟨rfl,rfl⟩
 ·rename_i h1;have hv:k8 e (args.getD i default)=w6 e (args.getD i default).Var:=by
   have:((args.getD i default).Var==[])=false:=by simpa using h1
   rw[k8,this];rfl
  (refine lpK_n2 (⟨i+1,by omega,by rw[A7q (d:=default) (by omega),ha,hv,hc];rfl⟩) _ (by simp only[go_sem,V8];try rfl) ?_;simp only[go_sem,V8,hS0]<;>repeat' first|apply V0|exact on'|fail)
  all_goals(rw[<-a4k (fun t=>(k8 e t).1) (d:=default) (show i<args.length by omega),hv])
 ·have hv:k8 e (args.getD i default)=((args.getD i default).Val,true):=by
   have:((args.getD i default).Var==[])=true:=by simpa using hc
   rw[k8,this];rfl
  (refine lpK_n2 (⟨i+1,by omega,by rw[A7q (d:=default) (by omega),ha,hv];rfl⟩) _ (by simp only[go_sem,V8];try rfl) ?_;simp only[go_sem,V8,hS0]<;>repeat' first|apply V0|exact on'|fail)
  all_goals(rw[<-a4k (fun t=>(k8 e t).1) (d:=default) (show i<args.length by omega),hv])
 ·rw[z7,all_of_take (by omega) ha,q1N (by omega)];exact⟨rfl,rfl⟩
def a6E:CT:=s6 (fun(x:c9×(List d3)) h=>b4R x.1 x.2 h)
@[go_sem] def c4h:=fun x0 x1=>nm' (fP' a6E rfl (⟨x0⟩,x1))
def a3r(e:c9)(args:List d3):d5×Bool:=bif b0N e&&args.all p6&&decide ((args.length:Int)<=6)then z7 e args else(default,false)
def b0R(e:c9)(args:List d3):spZ 25 [(true,[u5 e.Binds]),(false,[o9 args])] [] (.tup [(true,[a5h (((a3r e args).1).V)]),(false,[.b ((a3r e args).2)])]):=by
 refine sx' true false none Tryz.func25 (q' 2 [aX 1 0,ax (w' 4 [.sl l5]),ab 5 false] (.seq (q' 6 [ae 1 2,ac 77 [6],aO 7,am 8,aH 9 false [bm 1,bN,bC .gtr 11 6],aQ 9 12,am 13,aH 14 false [bm 1,bo (.call 78 [.t 15,.k (.v false [.c (.f 79 [])])])],aQ 14 16] (ci 17 (q' 18 [ao (.bld [.sl l5] []),aS 1 4 18,ab 5 false] .ret))) (q' 19 [ae 1 2,am 1,ac 81 [19,20],aZ 21 0,aZ 21 1,aS 1 4 22,aV 5] .ret))) [.c 4 true 1,.t 5] [(77,[],a8x),(78,[],b6S),(81,[],a6m)] ?_;intro hb hE;simp only[go_sem];repeat' first|apply cj'|intro hc|exact om'|fail
 ·rcases hc with(h|h)|h
  ·rw[a3r,h];exact⟨rfl,rfl⟩
  ·rw[a3r,V2 (p:=(args.length:Int)<=6) (by omega),q2N];exact⟨rfl,rfl⟩
  ·have h:args.all p6=false:=by simpa using h
   rw[a3r,h,q2N];exact⟨rfl,rfl⟩
 ·rw[a3r,hc.1.1,W9 (p:=(args.length:Int)<=6) (by omega),show args.all p6=true by simpa using hc.2];exact⟨rfl,rfl⟩
def b9K:CT:=o8 (fun(x:c9×(List d3))=>b0R x.1 x.2)
@[go_sem] def c8i:=fun x0 x1=>nm' (fQ' b9K rfl (⟨x0⟩,x1))
def c4B(s:List UInt8):Bool:=a0S s&&!a4L s
def a2Z(a:f8):Bool:=c4B a.Name&&decide ((a.Args.length:Int)<=6)&&a.Args.all p6
def b7B(t:d3):Bool:=t.Var==[]&&(t.Val.N==0&&t.Val.S==[])
def a1H(l:d6):Bool:=bif l.Kind==3 then decide (1<=l.Op)&&decide (l.Op<=4)&&l.Atom.Name==[]&&(l.Atom.Args.length:Int)==0&&p6 l.A&&p6 l.B else(l.Kind==1||l.Kind==2)&&a2Z l.Atom&&l.Op==0&&b7B l.A&&b7B l.B
def l4(r:c7):Bool:=decide (1<=r.Kind)&&decide (r.Kind<=3)&&a2Z r.Head&&decide ((r.Body.length:Int)<=8)&&r.Body.all a1H
def declB(d:i3):Bool:=decide (1<=d.Kind)&&decide (d.Kind<=3)&&c4B d.Name&&(decide (0<=d.Arity)&&decide (d.Arity<=6))
def progB(p:d9):Bool:=p.Decls.all declB&&decide ((p.Decls.length:Int)<=16)&&decide ((p.Rules.length:Int)<=24)&&p.Rules.all l4
def b4J(s:List UInt8):spZ 125 [(false,[.s s])] [] (.one (false,[.b (c4B s)])):=by
 refine sy' Tryz.func125 (q' 2 [aU false] (q' 3 [am 0,ac 160 [3],am 4,aH 5 true [bm 0,bc 96 [6],bO 7],aP 5 8,aV 2] .ret)) [.t 2] [(160,[],a0Q),(96,[],a0F)] ?_;intro hb hE;simp only[go_sem];repeat' first|apply cj'|intro hc|exact om'|fail
 all_goals(first|rfl)
def a6y:CT:=o8 (fun(x:(List UInt8))=>b4J x)
@[go_sem] def c3Z:=fun s=>nm' (fQ' a6y rfl s)
def b6g(s:List UInt8):spZ 129 [(false,[.s s])] [] (.one (false,[.b (c4B s)])):=by
 refine sy' Tryz.func129 (q' 2 [aU false] (q' 3 [am 0,ac 149 [3],am 4,aH 5 true [bm 0,bc 170 [6],bO 7],aP 5 8,aV 2] .ret)) [.t 2] [(149,[],a2m),(170,[],a6h)] ?_;intro hb hE;simp only[go_sem];repeat' first|apply cj'|intro hc|exact om'|fail
 all_goals(first|rfl)
def a7o:CT:=o8 (fun(x:(List UInt8))=>b6g x)
@[go_sem] def c5K:=fun s=>nm' (fQ' a7o rfl s)
def b0k(a:f8):spZ 155 [(true,[.s a.Name,o9 a.Args])] [] (.one (false,[.b (a2Z a)])):=by
 refine sy' Tryz.func155 (q' 1 [aX 2 0,aU false] (.seq (q' 5 [aG 0 1,ac 125 [6],aO 7,am 8,aH 9 false [bf 1 1,bL,bN,bC .gtr 12 6],aQ 9 13] (ci 14 (q' 2 [aU false] .ret))) (.seq (q' 15 [aG 1 1,aN,aK 0] (fO 0 19 [ar 18 17] 19 1 (q' 20 [ai 3 16 18,aE 3,ax (w' 4 [.s,.i .i64,.s]),aS 3 4 21] (q' 22 [ae 3 4,ac 249 [22],aO 23] (ci 24 (q' 2 [aU false] .ret)))) (g' 25 [aA 18]))) (q' 2 [aU true] .ret)))) [.t 2] [(125,[],a6y),(249,[],a2f)] ?_;intro hb hE;simp only[go_sem];repeat' first|apply cj'|intro hc|exact om'|fail
 ·rcases hc with h|h
  ·rw[a2Z,h];rfl
  ·rw[a2Z,V2 (p:=(a.Args.length:Int)<=6) (by omega)];simp
 have hh:=hc;refine lq' false [16,17] [] [] (fun i:{i:Nat // i<=a.Args.length/\(a.Args.take i).all p6=true}=>[(18,slV (.i .i64 i.1))]) nl' nl' (fun i=>a.Args.length-i.1) (⟨0,by simp⟩) ?_;intro S0 hS0 i;obtain⟨i,hi,ha⟩:=i;simp only[go_sem,hS0];repeat' first|apply cj'|intro hc|exact om'|fail
 ·rw[a2Z,all_false (by omega) hc,q2N]
 ·exact nx0 ⟨i+1,by omega,a2s default (by omega) ha hc⟩
 ·rw[a2Z,all_of_take (by omega) ha,hh.1,W9 (by omega)];rfl
def a2e:CT:=o8 (fun(x:f8)=>b0k x)
@[go_sem] def c1y:=fun x0 x1=>nm' (fQ' a2e rfl ⟨x0,x1⟩)
def b2e(l:d6):spZ 156 [(true,[.i .i64 l.Kind,.s l.Atom.Name,o9 l.Atom.Args,.i .i64 l.Op,.s l.A.Var,.i .i64 l.A.Val.N,.s l.A.Val.S,.s l.B.Var,.i .i64 l.B.Val.N,.s l.B.Val.S])] [] (.one (false,[.b (a1H l)])):=by
 refine sy' Tryz.func156 (q' 1 [aX 10 0,aU false] (.seq (q' 4 [aG 0 1,aC .eql 5 3] (ci 6 (q' 7 [aG 3 1,aC .geq 8 1,am 9,aH 10 true [bf 3 1,bL,bC .leq 12 4],aP 10 13,am 14,aH 15 true [bf 1 1,bF 0,bL,bY .eql 18 []],aP 15 19,am 20,aH 21 true [bf 1 1,bF 1,bL,bN,bC .eql 25 0],aP 21 26,am 27,aH 28 true [bf 4 1,bE 3,bc 249 [30]],aP 28 31,am 32,aH 33 true [bf 7 1,bE 3,bc 249 [35]],aP 33 36,aV 2] .ret))) (q' 3 [ax (o' 38 (.bld [.s,.i .i64,.s] [])),aw [.s,.i .i64,.s],aS 3 3 38] (q' 39 [aG 0 1,aC .eql 40 1,am 41,aH 42 false [bf 0 1,bL,bC .eql 44 2],aQ 42 45,am 46,aH 47 true [bf 1 1,bE 2,bc 155 [49]],aP 47 50,am 51,aH 52 true [bf 3 1,bL,bC .eql 54 0],aP 52 55,am 56,aH 57 true [bf 4 1,bE 3,be 3 3,bo (.eqs false [.s,.i .i64,.s] (.t 59) (.t 60))],aP 57 61,am 62,aH 63 true [bf 7 1,bE 3,be 3 3,bo (.eqs false [.s, .i .i64,.s] (.t 65) (.t 66))],aP 63 67,aV 2] .ret)))) [.t 2] [(249,[],a2f),(155,[],a2e)] ?_;intro hb hE;simp only[go_sem];repeat' first|apply cj'|intro hc|exact om'|fail
 ·rw[a1H,hc];rfl
 ·rw[a1H,hc];rfl
def a5x:CT:=o8 (fun(x:d6)=>b2e x)
@[go_sem] def c2C:=fun x0 x1 x2 x3 x4 x5 x6 x7 x8 x9=>nm' (fQ' a5x rfl ⟨x0,⟨x1,x2⟩,x3,⟨x4,⟨x5,x6⟩⟩,⟨x7,⟨x8,x9⟩⟩⟩)
def b0l(r:c7):spZ 73 [(true,[.i .i64 r.Kind,.s r.Head.Name,o9 r.Head.Args,a0I r.Body])] [] (.one (false,[.b (l4 r)])):=by
 refine sy' Tryz.func73 (q' 1 [aX 4 0,aU false] (.seq (q' 4 [aG 0 1,aC .lss 5 1,am 6,aH 7 false [bf 0 1,bL,bC .gtr 9 3],aQ 7 10,am 11,aH 12 false [bf 1 1,bE 2,bc 155 [14],bO 15],aQ 12 16,am 17,aH 18 false [bf 3 1,bL,bN,bC .gtr 21 8],aQ 18 22] (ci 23 (q' 2 [aU false] .ret))) (.seq (q' 24 [aG 3 1,aN,aK 0] (fO 0 28 [ar 27 26] 28 1 (q' 29 [am 27,aV 3] (q' 30 [aG 3 1,am 3,aI 10,aE 10,ac 156 [34],aO 35] (ci 36 (q' 2 [aU false] .ret)))) (g' 37 [aA 27]))) (q' 2 [aU true] .ret)))) [.t 2] [(156,[],a5x),(155,[],a2e)] ?_;intro hb hE;simp only[go_sem];repeat' first|apply cj'|intro hc|exact om'|fail
 ·rcases hc with((h|h)|h)|h
  ·rw[l4,V2 (p:=1<=r.Kind) (by omega)];simp
  ·rw[l4,V2 (p:=r.Kind<=3) (by omega)];simp
  ·rw[l4,h];simp
  ·rw[l4,V2 (p:=(r.Body.length:Int)<=8) (by omega)];simp
 have hh:=hc;refine lq' false [1,26] [2] [] (fun i:{i:Nat // i<=r.Body.length/\(r.Body.take i).all a1H=true}=>[(27,slV (.i .i64 i.1))]) nl' nl' (fun i=>r.Body.length-i.1) (⟨0,by simp⟩) ?_;intro S0 hS0 i;obtain⟨i,hi,ha⟩:=i;simp only[go_sem,hS0];repeat' first|apply cj'|intro hc|exact om'|fail
 ·rw[l4,all_false (by omega) hc,q2N]
 ·exact nx0 ⟨i+1,by omega,a2s default (by omega) ha hc⟩
 ·rw[l4,all_of_take (by omega) ha,hh.1.2,W9 (by omega),W9 (by omega),W9 (by omega)];rfl
def a1i:CT:=o8 (fun(x:c7)=>b0l x)
@[go_sem] def c1z:=fun x0 x1 x2 x3=>nm' (fQ' a1i rfl ⟨x0,⟨x1,x2⟩,x3⟩)
def b1P(t:d3):spZ 240 [(true,[.s t.Var,.i .i64 t.Val.N,.s t.Val.S])] [] (.one (false,[.b (!p6 t)])):=by
 refine sy' Tryz.func240 (q' 1 [aX 3 0,aU false] (q' 3 [ae 3 1,ac 80 [3],aO 4,aV 2] .ret)) [.t 2] [(80,[],a2n)] ?_;intro hb hE;simp only[go_sem];repeat' first|apply cj'|intro hc|exact om'|fail
 all_goals(first|rfl)
def a5q:CT:=o8 (fun(x:d3)=>b1P x)
@[go_sem] def c2m:=fun x0 x1 x2=>nm' (fQ' a5q rfl ⟨x0,⟨x1,x2⟩⟩)
def b4g(l:List d3):spZ 169 [(false,[o9 l]),(false,[.f 240 []])] [] (.one (false,[.i .i64 (a5M (fun y=>!p6 y) l)])):=by
 refine sy' Tryz.func169 b2M [.t 4] [(240,[],a5q)] ?_;intro hb hE;simp only[go_sem];repeat' first|apply cj'|intro hc|exact om'|fail
 refine lq' false [0,1,7] [] [] (fun i:{i:Nat // i<=l.length/\(l.take i).any (fun y=>!p6 y)=false}=>[(8,slV (.i .i64 i.1))]) nl' nl' (fun i=>l.length-i.1) (⟨0,by simp⟩) ?_;intro S0 hS0 i;obtain⟨i,hi,ha⟩:=i;simp only[go_sem,hS0];repeat' first|apply cj'|intro hc|exact om'|fail
 ·exact(a2i (p:=fun y=>!p6 y) (d:=default) (by omega) ha (by simpa[-List.getD_eq_getElem?_getD]using hc)).symm
 ·exact nx0 ⟨i+1,by omega,a1J (p:=fun y=>!p6 y) default (by omega) ha (by simpa[-List.getD_eq_getElem?_getD]using hc)⟩
 ·exact(a1B (by rwa [k7 (by omega)]at ha)).symm
def a6g:CT:=o8 (fun(x:(List d3))=>b4g x)
@[go_sem] def c3w:=fun l=>nm' (fQ' a6g rfl l)
def b4e(l:List d3):spZ 78 [(false,[o9 l]),(false,[.f 240 []])] [] (.one (false,[.b (l.any (fun y=>!p6 y))])):=by
 refine sy' Tryz.func78 b2L [.t 4] [(169,[],a6g)] ?_;intro hb hE;simp only[go_sem];repeat' first|apply cj'|intro hc|exact om'|fail
 ·exact a8N _ _
def a6e:CT:=o8 (fun(x:(List d3))=>b4e x)
@[go_sem] def c3u:=fun l=>nm' (fQ' a6e rfl l)
def b6b(a:f8):spZ 145 [(true,[.s a.Name,o9 a.Args])] [] (.one (false,[.b (a2Z a)])):=by
 refine sy' Tryz.func145 (q' 1 [aX 2 0,aU false] (q' 3 [aG 0 1,ac 129 [4],am 5,aH 6 true [bf 1 1,bL,bN,bC .leq 9 6],aP 6 10,am 11,aH 12 true [bf 1 1,bL,bo (.call 78 [.t 14,.k (.v false [.c (.f 240 [])])]),bO 15],aP 12 16,aV 2] .ret)) [.t 2] [(129,[],a7o),(78,[],a6e)] ?_;intro hb hE;simp only[go_sem];repeat' first|apply cj'|intro hc|exact om'|fail
 all_goals(rw[a2Z];grind)
def a3Z:CT:=o8 (fun(x:f8)=>b6b x)
@[go_sem] def c5F:=fun x0 x1=>nm' (fQ' a3Z rfl ⟨x0,x1⟩)
def b8D(l:d6):spZ 148 [(true,[.i .i64 l.Kind,.s l.Atom.Name,o9 l.Atom.Args,.i .i64 l.Op,.s l.A.Var,.i .i64 l.A.Val.N,.s l.A.Val.S,.s l.B.Var,.i .i64 l.B.Val.N,.s l.B.Val.S])] [] (.one (false,[.b (a1H l)])):=by
 refine sy' Tryz.func148 (q' 1 [aX 10 0,aU false] (.seq (q' 3 [aG 0 1] (.block 0 (.seq (q' 6 [aC .eql 4 1,aV 5] (cd 5 .skip (g' 7 [aC .eql 4 2,aV 5]))) (cd 5 (q' 8 [af 1 1,aE 2,ac 145 [9],am 10,aH 11 true [bf 3 1,bL,bC .eql 13 0],aP 11 14,am 15,aH 16 true [bf 4 1,bE 3,bo (.bld [.s,.i .i64,.s] []),bo (.eqs false [.s,.i .i64,.s] (.t 18) (.t 19))],aP 16 20,am 21,aH 22 true [bf 7 1,bE 3,bo (.bld [.s,.i .i64,.s] []),bo (.eqs false [.s,.i .i64,.s] (.t 24) (.t 25))],aP 22 26,aV 2] .ret) (q' 29 [aC .eql 4 3,aV 28] (ci 28 (q' 30 [aG 3 1,aC .geq 31 1,am 32,aH 33 true [bf 3 1,bL,bC .leq 35 4],aP 33 36,am 37,aH 38 true [bf 1 1,bF 0,bL,bY .eql 41 []],aP 38 42,am 43,aH 44 true [bf 1 1,bF 1,bL,bN,bC .eql 48 0],aP 44 49,am 50,aH 51 true [bf 4 1,bE 3,bc 80 [53]],aP 51 54,am 55,aH 56 true [bf 7 1,bE 3,bc 80 [58]],aP 56 59,aV 2] .ret))))))) (q' 2 [aU false] .ret))) [.t 2] [(80,[],a2n),(145,[],a3Z)] ?_;intro hb hE;simp only[go_sem];repeat' first|apply cj'|intro hc|exact om'|fail
 all_goals(first|rfl|(clear hb;(try simp only[b2u,q5M]);first|rfl|(simp only[a1H,b7B];done)|grind [a1H,b7B]))
def a8B:CT:=o8 (fun(x:d6)=>b8D x)
@[go_sem] def c7k:=fun x0 x1 x2 x3 x4 x5 x6 x7 x8 x9=>nm' (fQ' a8B rfl ⟨x0,⟨x1,x2⟩,x3,⟨x4,⟨x5,x6⟩⟩,⟨x7,⟨x8,x9⟩⟩⟩)
def b1T(l:d6):spZ 147 [(true,[.i .i64 l.Kind,.s l.Atom.Name,o9 l.Atom.Args,.i .i64 l.Op,.s l.A.Var,.i .i64 l.A.Val.N,.s l.A.Val.S,.s l.B.Var,.i .i64 l.B.Val.N,.s l.B.Val.S])] [] (.one (false,[.b (!a1H l)])):=by
 refine sy' Tryz.func147 (q' 1 [aX 10 0,aU false] (q' 3 [ae 10 1,ac 148 [3],aO 4,aV 2] .ret)) [.t 2] [(148,[],a8B)] ?_;intro hb hE;simp only[go_sem];repeat' first|apply cj'|intro hc|exact om'|fail
 all_goals(first|rfl|(clear hb;(try simp only[b2u,q5M]);first|rfl|(simp only[a1H];done)|grind [a1H]))
def a5t:CT:=o8 (fun(x:d6)=>b1T x)
@[go_sem] def c2q:=fun x0 x1 x2 x3 x4 x5 x6 x7 x8 x9=>nm' (fQ' a5t rfl ⟨x0,⟨x1,x2⟩,x3,⟨x4,⟨x5,x6⟩⟩,⟨x7,⟨x8,x9⟩⟩⟩)
def c8L(l:List d6):spZ 241 [(false,[a0I l]),(false,[.f 147 []])] [] (.one (false,[.i .i64 (a5M (fun y=>!a1H y) l)])):=by
 refine sy' Tryz.func241 (q' 4 [aK 0] (.seq (q' 6 [am 0,aN,aK 0] (fO 0 9 [ar 8 7] 9 1 (q' 10 [am 8,aV 5] (q' 11 [aM [1,0,5],aI 10,aE 10,ao (.callv (.t 11) [.t 15])] (ci 16 (q' 17 [am 5,aV 4] .ret)))) (g' 18 [aA 8]))) (q' 4 [ao (.mov (.k (.v false [.c (.i .i64 (-1))])))] .ret))) [.t 4] [(147,[],a5t)] ?_;intro hb hE;simp only[go_sem];repeat' first|apply cj'|intro hc|exact om'|fail
 refine lq' false [0,1,7] [] [] (fun i:{i:Nat // i<=l.length/\(l.take i).any (fun y=>!a1H y)=false}=>[(8,slV (.i .i64 i.1))]) nl' nl' (fun i=>l.length-i.1) (⟨0,by simp⟩) ?_;intro S0 hS0 i;obtain⟨i,hi,ha⟩:=i;simp only[go_sem,hS0];repeat' first|apply cj'|intro hc|exact om'|fail
 ·exact(a2i (p:=fun y=>!a1H y) (d:=default) (by omega) ha (by simpa[-List.getD_eq_getElem?_getD]using hc)).symm
 ·exact nx0 ⟨i+1,by omega,a1J (p:=fun y=>!a1H y) default (by omega) ha (by simpa[-List.getD_eq_getElem?_getD]using hc)⟩
 ·exact(a1B (by rwa [k7 (by omega)]at ha)).symm
def b9J:CT:=o8 (fun(x:(List d6))=>c8L x)
@[go_sem] def c_idxLit_eq:=fun l=>nm' (fQ' b9J rfl l)
def c8K(l:List d6):spZ 146 [(false,[a0I l]),(false,[.f 147 []])] [] (.one (false,[.b (l.any (fun y=>!a1H y))])):=by
 refine sy' Tryz.func146 (q' 4 [aU false] (q' 5 [aM [0,1],ac 241 [5,6],aC .geq 7 0,aV 4] .ret)) [.t 4] [(241,[],b9J)] ?_;intro hb hE;simp only[go_sem];repeat' first|apply cj'|intro hc|exact om'|fail
 ·exact a8N _ _
def b9I:CT:=o8 (fun(x:(List d6))=>c8K x)
@[go_sem] def c_conLit_eq:=fun l=>nm' (fQ' b9I rfl l)
def b6h(r:c7):spZ 69 [(true,[.i .i64 r.Kind,.s r.Head.Name,o9 r.Head.Args,a0I r.Body])] [] (.one (false,[.b (l4 r)])):=by
 refine sy' Tryz.func69 (q' 1 [aX 4 0,aU false] (q' 3 [aG 0 1,aC .geq 4 1,am 5,aH 6 true [bf 0 1,bL,bC .leq 8 3],aP 6 9,am 10,aH 11 true [bf 1 1,bE 2,bc 145 [13]],aP 11 14,am 15,aH 16 true [bf 3 1,bL,bN,bC .leq 19 8],aP 16 20,am 21,aH 22 true [bf 3 1,bL,bo (.call 146 [.t 24,.k (.v false [.c (.f 147 [])])]),bO 25],aP 22 26,aV 2] .ret)) [.t 2] [(145,[],a3Z),(146,[],b9I)] ?_;intro hb hE;simp only[go_sem];repeat' first|apply cj'|intro hc|exact om'|fail
 all_goals(first|rfl|(clear hb;(try simp only[b2u,q5M]);first|rfl|(simp only[l4];done)|grind [l4]))
def a4b:CT:=o8 (fun(x:c7)=>b6h x)
@[go_sem] def c5L:=fun x0 x1 x2 x3=>nm' (fQ' a4b rfl ⟨x0,⟨x1,x2⟩,x3⟩)
def c0C(n:Int)(most:Int):spZ 130 [(false,[.i .i64 n]),(false,[.i .i64 most])] [] (.one (false,[.b (decide (0<=n)&&decide (n<=most))])):=by
 refine sy' Tryz.func130 (q' 4 [aU false] (q' 5 [am 0,aC .geq 5 0,am 6,aH 7 true [bm 0,bm 1,bD .leq 8 9],aP 7 10,aV 4] .ret)) [.t 4] [] ?_;intro hb hE;simp only[go_sem];repeat' first|apply cj'|intro hc|exact om'|fail
 all_goals(first|rfl)
def b0L:CT:=o8 (fun(x:Int×Int)=>c0C x.1 x.2)
@[go_sem] def c8m:=fun n x0=>nm' (fQ' b0L rfl (n,x0))
def c8p(p:d9)(name:List UInt8):i3:=(p.Decls.find? fun d=>d.Name==name).getD default
def hasDecl(p:d9)(name:List UInt8):Bool:=p.Decls.any fun d=>d.Name==name
attribute [local irreducible] RM
def nxH(h:Int):Int:=IntKind.i64.wrap (IntKind.i64.wrap (h*6364136223846793005)+1442695040888963407)
def lo8(y:Int):Int:=IntKind.i64.wrap ((BitVec.ofInt 64 y&&& BitVec.ofInt 64 255).toNat:Nat)
def mixH(h:Int):Int:=lo8 (IntKind.i64.wrap ((BitVec.ofInt 64 (h.fdiv (2^min 33 64)) ^^^ BitVec.ofInt 64 (h.fdiv (2^min 45 64))).toNat:Nat))
def a1M(c:c6):Int:=bif decide (c.i<c.b.length)then lo8 (IntKind.i64.wrap (mixH (nxH c.h)+IntKind.i64.wrap (c.b.getD c.i.toNat 0)))else mixH (nxH c.h)
def a0l(c:c6):c6:=⟨c.b,bif decide (c.i<c.b.length)then c.i+1 else c.i,nxH c.h⟩
def k6(c:c6):Prop:=(0<=c.i/\c.i<=c.b.length)/\c.b.length<=1048576
def lo8_bd(y:Int):0<=lo8 y/\lo8 y<=255:=by
 have h:(BitVec.ofInt 64 y&&& BitVec.ofInt 64 255).toNat<=255:=by
  rw[BitVec.toNat_and];exact q2D Nat.and_le_right (by decide)
 have e:lo8 y=((BitVec.ofInt 64 y&&& BitVec.ofInt 64 255).toNat:Nat):=by
  unfold lo8;exact IntWalk.i64_in _ ⟨by omega,by omega⟩
 rw[e];omega
def a6b(c:c6):0<=a1M c/\a1M c<=255:=by
 unfold a1M mixH;cases decide (c.i<c.b.length)<;>exact lo8_bd _
def a2t{c:c6}(h:k6 c):k6 (a0l c):=by
 unfold k6 a0l at*;cases hd:decide (c.i<c.b.length)with
 | true=>simp only[W5];simp only[V9]at hd;omega
 | false=>simp only[W3];omega
def b4x(c:c6)(hpre:k6 c):spZ 91 [(false,[.mp [.sl false [.i .u8 0] (c.b.map cU8),.i .i64 c.i,.i .i64 c.h]])] [(0,(false,[.mp [.sl false [.i .u8 0] (((a0l c).b).map cU8),.i .i64 ((a0l c).i),.i .i64 ((a0l c).h)]]))] (.one (false,[.i .i64 (a1M c)])):=by
 refine sx' false false (some 0) Tryz.func91 (q' 2 [aK 0] (q' 4 [aM [0,0],ao (.nck (.t 5)),aG 2 6,aC .mul 8 6364136223846793005,aC .add 9 1442695040888963407,ao (.nck (.t 4)),aF 2,aS 1 12 10] (.seq (G' 13 [am 0,ao (.nck (.t 13)),aG 2 14,ao (.bin .shr (.t 16) (.k (.v false [.c (.i .u64 33)]))),am 0,ao (.nck (.t 18)),aG 2 19,ao (.bin .shr (.t 21) (.k (.v false [.c (.i .u64 45)]))),aD .xor 17 22,aC .and 23 255,aV 3]) (.seq (.seq (G' 25 [am 0,ao (.nck (.t 25)),aG 1 26,am 0,ao (.nck (.t 29)),aG 0 30,aN,ar 28 33]) (ci 34 (.seq (G' 35 [aM [3,0],ao (.nck (.t 36)),aG 0 37,am 0,ao (.nck (.t 40)),aG 1 41,ai 1 39 43,aL,ao (.cv .i64 (.t 45)),aD .add 35 46,aC .and 47 255,aV 3]) (g' 49 [aM [0,0],ao (.nck (.t 50)),aG 1 51,aC .add 53 1,ao (.nck (.t 49)),aF 1,aS 1 56 54])))) (q' 57 [am 3,aV 2] .ret))))) [.t 2] [] ?_;intro hb hE;obtain⟨⟨h0,h1⟩,h2⟩:=hpre;simp only[go_sem];repeat' first|apply cj'|intro hc|exact om'|fail
 ·have hw:IntKind.i64.wrap (c.i+1)=c.i+1:=w64 (by omega) (by omega) (by omega);rw[a1M,a0l,W9 hc,hw];exact⟨rfl,rfl⟩
 ·rw[a1M,a0l,V2 hc];exact⟨rfl,rfl⟩
def a6s:CT:=s6 (fun(x:c6) h=>b4x x h)
@[go_sem] def c3N:=fun x0 x1 x2=>nm' (fP' a6s rfl ⟨x0,x1,x2⟩)
def by4(c:c6):Int:=IntKind.i64.wrap (IntKind.i64.wrap (IntKind.i64.wrap (IntKind.i64.wrap (a1M c*16777216)+IntKind.i64.wrap (a1M (a0l c)*65536))+IntKind.i64.wrap (a1M (a0l (a0l c))*256))+a1M (a0l (a0l (a0l c))))
def i7(c:c6)(n:Int):Int:=bif decide (n<=0)then 0 else bif decide (n<=256)then(a1M c).tmod n else(by4 c).tmod n
def i6(c:c6)(n:Int):c6:=bif decide (n<=0)then c else bif decide (n<=256)then a0l c else a0l (a0l (a0l (a0l c)))
def b1W(c:c6)(n:Int)(hpre:k6 c):spZ 33 [(false,[.mp [.sl false [.i .u8 0] (c.b.map cU8),.i .i64 c.i,.i .i64 c.h]]),(false,[.i .i64 n])] [(0,(false,[.mp [.sl false [.i .u8 0] (((i6 c n).b).map cU8),.i .i64 ((i6 c n).i),.i .i64 ((i6 c n).h)]]))] (.one (false,[.i .i64 (i7 c n)])):=by
 refine sx' false false (some 0) Tryz.func33 (q' 4 [aK 0] (.seq (q' 9 [am 1,aC .leq 9 0] (ci 10 (q' 4 [aK 0] .ret))) (.seq (q' 11 [am 1,aC .leq 11 256] (ci 12 (q' 13 [am 0,ac 91 [13],am 1,aD .rem 14 15,aV 4] .ret))) (q' 17 [am 0,ac 91 [17],aV 5] (q' 19 [am 0,ac 91 [19],aV 6] (q' 21 [am 0,ac 91 [21],aV 7] (q' 23 [am 0,ac 91 [23],aV 8] (q' 25 [am 5,aC .mul 25 16777216,am 6,aC .mul 27 65536,aD .add 26 28,am 7,aC .mul 30 256,aD .add 29 31,am 8,aD .add 32 33,am 1,aD .rem 34 35,aV 4] .ret)))))))) [.t 4] [(91,[0],a6s)] ?_;intro hb hE;have h1:=a2t hpre;have h2:=a2t h1;have h3:=a2t h2;simp only[go_sem];repeat' first|apply cj'|intro hc|exact om'|fail
 all_goals first
  | assumption
  | (rw[i7,i6,W9 hc];exact⟨rfl,rfl⟩)
  | (rename_i h;rw[i7,i6,V2 h,W9 hc];exact⟨rfl,rfl⟩)
  | (rename_i h;rw[i7,i6,V2 h,V2 hc];exact⟨rfl,rfl⟩)
  | trace_state
def l3:CT:=s6 (fun(x:c6×Int) h=>b1W x.1 x.2 h)
@[go_sem] def c2u:=fun x0 x1 x2 n=>nm' (fP' l3 rfl (⟨x0,x1,x2⟩,n))
def i8{c:c6}(h:k6 c)(n:Int):k6 (i6 c n):=by
 unfold i6;cases decide (n<=0)with
 | true=>exact h
 | false=>
   cases decide (n<=256)with
   | true=>exact a2t h
   | false=>exact a2t (a2t (a2t (a2t h)))
def by4_bd(c:c6):0<=by4 c:=by
 have h1:=a6b c;have h2:=a6b (a0l c);have h3:=a6b (a0l (a0l c));have h4:=a6b (a0l (a0l (a0l c)));unfold by4;rw[IntWalk.i64_in (a1M c*16777216) ⟨by omega,by omega⟩,IntWalk.i64_in (a1M (a0l c)*65536) ⟨by omega,by omega⟩,IntWalk.i64_in (a1M (a0l (a0l c))*256) ⟨by omega,by omega⟩,
  IntWalk.i64_in (a1M c*16777216+a1M (a0l c)*65536) ⟨by omega,by omega⟩,IntWalk.i64_in (a1M c*16777216+a1M (a0l c)*65536+a1M (a0l (a0l c))*256) ⟨by omega,by omega⟩,IntWalk.i64_in _ ⟨by omega,by omega⟩]
 omega
def j9(c:c6){n:Int}(h:0<n):0<=i7 c n/\i7 c n<n:=by
 unfold i7;rw[V2 (by omega),W3];have h1:=(a6b c).1;have h2:=by4_bd c;cases decide (n<=256)with
 | true=>exact⟨q4T _ h1,Int.tmod_lt_of_pos _ h⟩
 | false=>exact⟨q4T _ h2,Int.tmod_lt_of_pos _ h⟩
def b5U:List (List UInt8):=[[97],[98],[99],[104,111,115,116],[108,105,110,107],[115,101,101,110],[112,97,116,104],[100,101,110,121],[120,57],[97,98,99,100,101,102,103,104,105,106,107,108]]
def c8x(k:Nat):([[C.s [97]],[C.s [98]],[C.s [99]],[C.s [104,111,115,116]],[C.s [108,105,110,107]],[C.s [115,101,101,110]],[C.s [112,97,116,104]],[C.s [100,101,110,121]],[C.s [120,57]],[C.s [97,98,99,100,101,102,103,104,105,106,107,108]]]:List (List C)).getD k [C.s []]=[C.s (b5U.getD k [])]:=a1z b5U k
def b4A(c:c6)(hpre:k6 c):spZ 297 [(false,[.mp [.sl false [.i .u8 0] (c.b.map cU8),.i .i64 c.i,.i .i64 c.h]])] [(0,(false,[.mp [.sl false [.i .u8 0] (((i6 c 10).b).map cU8),.i .i64 ((i6 c 10).i),.i .i64 ((i6 c 10).h)]]))] (.one (false,[.s (b5U.getD (i7 c 10).toNat [])])):=by
 refine sx' false false (some 0) Tryz.func297 (q' 2 [ao (.mov (.k (.v false [.c (.s [])])))] (q' 3 [ao (.bsl 1 10 [.s] [(0,.k (.v false [.c (.s [97])])),(1,.k (.v false [.c (.s [98])])),(2,.k (.v false [.c (.s [99])])),(3,.k (.v false [.c (.s [104,111,115,116])])),(4,.k (.v false [.c (.s [108,105,110,107])])),(5,.k (.v false [.c (.s [115,101, 101,110])])),(6,.k (.v false [.c (.s [112,97,116,104])])),(7,.k (.v false [.c (.s [100,101,110,121])])),(8,.k (.v false [.c (.s [120,57])])), (9,.k (.v false [.c (.s [97,98,99,100,101,102,103,104,105,106,107,108])]))]),am 0,ao (.call 33 [.t 4,.k (.v false [.c (.i .i64 10)])]),ai 1 3 5,aL,aV 2] .ret)) [.t 2] [(33,[0],l3)] ?_;intro hb hE;have hb1:=j9 c (n:=10) (by omega);simp only[go_sem,c8x];repeat' first|apply cj'|intro hc|exact om'|fail
 all_goals first|assumption|omega|trace_state
def a3d:CT:=s6 (fun(x:c6) h=>b4A x h)
@[go_sem] def c3Q:=fun x0 x1 x2=>nm' (fP' a3d rfl ⟨x0,x1,x2⟩)
def b4X(c:c6):Int:=bif decide (i7 c 8<6)then i7 (i6 c 8) 9 else bif i7 c 8==6 then 281474976710655 else IntKind.i64.wrap (i7 (i6 c 8) 1000000*1000003)
def b0S(c:c6):c6:=bif decide (i7 c 8<6)then i6 (i6 c 8) 9 else bif i7 c 8==6 then i6 c 8 else i6 (i6 c 8) 1000000
def b4y(c:c6)(hpre:k6 c):spZ 336 [(false,[.mp [.sl false [.i .u8 0] (c.b.map cU8),.i .i64 c.i,.i .i64 c.h]])] [(0,(false,[.mp [.sl false [.i .u8 0] (((b0S c).b).map cU8),.i .i64 ((b0S c).i),.i .i64 ((b0S c).h)]]))] (.one (false,[.i .i64 (b4X c)])):=by
 refine sx' false false (some 0) Tryz.func336 (q' 2 [aK 0] (q' 4 [am 0,ao (.call 33 [.t 4,.k (.v false [.c (.i .i64 8)])]),aV 3] (.seq (q' 6 [am 3,aC .lss 6 6] (ci 7 (q' 8 [am 0,ao (.call 33 [.t 8,.k (.v false [.c (.i .i64 9)])]),aV 2] .ret))) (.seq (q' 10 [am 3,aC .eql 10 6] (ci 11 (q' 2 [aK 281474976710655] .ret))) (q' 12 [am 0,ao (.call 33 [.t 12,.k (.v false [.c (.i .i64 1000000)])]),aC .mul 13 1000003,aV 2] .ret))))) [.t 2] [(33,[0],l3)] ?_;intro hb hE;have h1:=i8 hpre 8;simp only[go_sem];repeat' first|apply cj'|intro hc|exact om'|fail
 all_goals first
  | assumption
  | (rw[b4X,b0S,W9 hc];exact⟨rfl,rfl⟩)
  | (rename_i h;rw[b4X,b0S,V2 h,hc];exact⟨rfl,rfl⟩)
  | trace_state
def a6t:CT:=s6 (fun(x:c6) h=>b4y x h)
@[go_sem] def c3O:=fun x0 x1 x2=>nm' (fP' a6t rfl ⟨x0,x1,x2⟩)
def newF(code:List Int):Nat->Int
 | 0=>IntKind.i64.wrap (391785+(code.length:Int))
 | n+1=>IntKind.i64.wrap ((BitVec.ofInt 64 (IntKind.i64.wrap (IntKind.i64.wrap (IntKind.i64.wrap (newF code n*131)+IntKind.i64.wrap (code.getD n 0))+7))&&& BitVec.ofInt 64 1073741823).toNat:Nat)
def newC(code:List Int):c6:=⟨code,0,newF code (min code.length 4000)⟩
def powF:Nat->Int
 | 0=>1
 | n+1=>IntKind.i64.wrap (powF n*256)
def b6q(n:Int)(hpre:n<=1000):spZ 337 [(false,[.i .i64 n])] [] (.one (false,[.i .i64 (powF n.toNat)])):=by
 refine sy' Tryz.func337 (q' 2 [aK 0] (q' 3 [aK 1] (.seq (q' 4 [aK 0] (fo 0 5 [aM [4,0],ar 5 6] 7 1 (g' 10 [am 3,aC .mul 10 256,aV 3]) (g' 8 [aB 4]))) (q' 12 [am 3,aV 2] .ret)))) [.t 2] [] ?_;intro hb hE;simp only[go_sem];repeat' first|apply cj'|intro hc|exact om'|fail
 refine lq' false [0] [] [] (fun i:{i:Nat // (i:Int)<=max n 0}=>[(3,slV (.i .i64 (powF i.1))),(4,slV (.i .i64 i.1))]) nl' nl' (fun i=>n.toNat-i.1) (⟨0,by omega⟩) ?_;intro S0 hS0 i;obtain⟨i,hi⟩:=i;simp only[go_sem,hS0];repeat' first|apply cj'|intro hc|exact om'|fail
 ·(refine lpK_n2 (⟨i+1,by omega⟩) _ rfl ?_;simp only[go_sem,hS0]<;>repeat' first|apply V0|exact on'|fail)
  all_goals(first|rfl)
 ·rw[show n.toNat=i by omega]
def a7t:CT:=s6 (fun(x:Int) h=>b6q x h)
@[go_sem] def c5U:=fun n=>nm' (fP' a7t rfl n)
def a4n(c:c6):Int×c6:=bif decide (i7 c 12<5)then(i7 (i6 c 12) 12,i6 (i6 c 12) 12)else bif i7 c 12==5 then(i7 (i6 c 12) 256,i6 (i6 c 12) 256)else
 bif i7 c 12==6 then(IntKind.i64.wrap (IntKind.i64.wrap (281474976710655-i7 (i6 c 12) 2)+i7 (i6 (i6 c 12) 2) 3),i6 (i6 (i6 c 12) 2) 3)else bif i7 c 12==7 then(IntKind.i64.wrap (-1-i7 (i6 c 12) 3),i6 (i6 c 12) 3)else
 bif i7 c 12==8 then(IntKind.i64.wrap (9223372036854775807-i7 (i6 c 12) 2),i6 (i6 c 12) 2)else bif i7 c 12==9 then(IntKind.i64.wrap (-9223372036854775807-i7 (i6 c 12) 2),i6 (i6 c 12) 2)else
 bif i7 c 12==10 then(IntKind.i64.wrap (powF (IntKind.i64.wrap (1+i7 (i6 c 12) 6)).toNat-i7 (i6 (i6 c 12) 6) 2),i6 (i6 (i6 c 12) 6) 2)else(IntKind.i64.wrap (i7 (i6 c 12) 65536*i7 (i6 (i6 c 12) 65536) 65536),i6 (i6 (i6 c 12) 65536) 65536)
def b6r(c:c6)(hpre:k6 c):spZ 299 [(false,[.mp [.sl false [.i .u8 0] (c.b.map cU8),.i .i64 c.i,.i .i64 c.h]])] [(0,(false,[.mp [.sl false [.i .u8 0] ((((a4n c).2).b).map cU8),.i .i64 (((a4n c).2).i),.i .i64 (((a4n c).2).h)]]))] (.one (false,[.i .i64 ((a4n c).1)])):=by
 refine sx' false false (some 0) Tryz.func299 (q' 2 [aK 0] (q' 4 [am 0,ao (.call 33 [.t 4,.k (.v false [.c (.i .i64 12)])]),aV 3] (.seq (q' 6 [am 3,aC .lss 6 5] (ci 7 (q' 8 [am 0,ao (.call 33 [.t 8,.k (.v false [.c (.i .i64 12)])]),aV 2] .ret))) (.seq (q' 10 [am 3,aC .eql 10 5] (ci 11 (q' 12 [am 0,ao (.call 33 [.t 12,.k (.v false [.c (.i .i64 256)])]),aV 2] .ret))) (.seq (q' 14 [am 3,aC .eql 14 6] (ci 15 (q' 16 [am 0,ao (.call 33 [.t 16,.k (.v false [.c (.i .i64 2)])]),ao (.bin .sub (k' 281474976710655) (.t 17)),am 0,ao (.call 33 [.t 19,.k (.v false [.c (.i .i64 3)])]),aD .add 18 20,aV 2] .ret))) (.seq (q' 22 [am 3,aC .eql 22 7] (ci 23 (q' 24 [am 0,ao (.call 33 [.t 24,.k (.v false [.c (.i .i64 3)])]),ao (.bin .sub (.k (.v false [.c (.i .i64 (-1))])) (.t 25)),aV 2] .ret))) (.seq (q' 27 [am 3,aC .eql 27 8] (ci 28 (q' 29 [am 0,ao (.call 33 [.t 29,.k (.v false [.c (.i .i64 2)])]),ao (.bin .sub (k' 9223372036854775807) (.t 30)),aV 2] .ret))) (.seq (q' 32 [am 3,aC .eql 32 9] (ci 33 (q' 34 [am 0,ao (.call 33 [.t 34,.k (.v false [.c (.i .i64 2)])]),ao (.bin .sub (.k (.v false [.c (.i .i64 (-9223372036854775807))])) (.t 35)),aV 2] .ret))) (.seq (q' 37 [am 3,aC .eql 37 10] (ci 38 (q' 39 [am 0,ao (.call 33 [.t 39,.k (.v false [.c (.i .i64 6)])]),ao (.bin .add (k' 1) (.t 40)),ac 337 [41],am 0,ao (.call 33 [.t 43,.k (.v false [.c (.i .i64 2)])]),aD .sub 42 44,aV 2] .ret))) (q' 46 [am 0,ao (.call 33 [.t 46,.k (.v false [.c (.i .i64 65536)])]),am 0,ao (.call 33 [.t 48,.k (.v false [.c (.i .i64 65536)])]),aD .mul 47 49,aV 2] .ret)))))))))) [.t 2] [(33,[0],l3),(337,[],a7t)] ?_;intro hb hE;have h1:=i8 hpre 12;have h2:=i8 h1 2;have h3:=i8 h1 6;have h4:=i8 h1 65536;have hb:=j9 (i6 c 12) (n:=6) (by omega);have hw:IntKind.i64.wrap (1+i7 (i6 c 12) 6)=1+i7 (i6 c 12) 6:=w64 (by omega) (by omega) (by omega);simp only[go_sem];repeat' first|apply cj'|intro hc|exact om'|fail
 all_goals first
  | assumption
  | (rw[hw];omega)
  | omega
  | (unfold a4n;simp only[*,W5,W3,decide_true,decide_false,q0Q];first|done|exact⟨rfl,rfl⟩)
  | trace_state
def a2p:CT:=s6 (fun(x:c6) h=>b6r x h)
@[go_sem] def c5V:=fun x0 x1 x2=>nm' (fP' a2p rfl ⟨x0,x1,x2⟩)
def c4J{c:c6}(h:k6 c):k6 (a4n c).2:=by
 have h1:=i8 h 12;unfold a4n;cases decide (i7 c 12<5)with
 | true=>simp only[W5];exact i8 h1 _
 | false=>
   simp only[W3];cases i7 c 12==5 with
   | true=>simp only[W5];exact i8 h1 _
   | false=>
     simp only[W3];cases i7 c 12==6 with
     | true=>simp only[W5];exact i8 (i8 h1 _) _
     | false=>
       simp only[W3];cases i7 c 12==7 with
       | true=>simp only[W5];exact i8 h1 _
       | false=>
         simp only[W3];cases i7 c 12==8 with
         | true=>simp only[W5];exact i8 h1 _
         | false=>
           simp only[W3];cases i7 c 12==9 with
           | true=>simp only[W5];exact i8 h1 _
           | false=>
             simp only[W3];cases i7 c 12==10 with
             | true=>simp only[W5];exact i8 (i8 h1 _) _
             | false=>simp only[W3];exact i8 (i8 h1 _) _
def fewT:List (List UInt8):=[[],[97],[97,98,99,100,101,102,103,104,105,106,107,108],[97,98,99,100,101,102,103,104,105,106,107,108,109],[57,97],[65],[97,95],[48],[48,48],[55],[50,56,49,52,55,52,57,55,54,55,49,48,54,53,53],[50,56,49,52,55,52,57,55,54,55,49,48,54,53,54],[45,49],[49,50,51,52,53,54,55,56,57,48,49,50,51,52,53,54],[104,111,115,116],[120,57],[32,49],[195,169]]
def a2U(c:c6):d4×c6:=bif decide (i7 c 6<4)then(⟨i7 (i6 c 6) 5,[]⟩,i6 (i6 c 6) 5)else bif i7 c 6==4 then(⟨0,b5U.getD (i7 (i6 c 6) 10).toNat []⟩,i6 (i6 c 6) 10)else(⟨b4X (i6 c 6),[]⟩,b0S (i6 c 6))
def c8V{c:c6}(h:k6 c):k6 (b0S c):=by
 have h1:=i8 h 8;unfold b0S;cases decide (i7 c 8<6)with
 | true=>simp only[W5];exact i8 h1 _
 | false=>
   simp only[W3];cases i7 c 8==6 with
   | true=>exact h1
   | false=>simp only[W3];exact i8 h1 _
def b9b{c:c6}(h:k6 c):k6 (a2U c).2:=by
 have h1:=i8 h 6;unfold a2U;cases decide (i7 c 6<4)with
 | true=>simp only[W5];exact i8 h1 _
 | false=>
   simp only[W3];cases i7 c 6==4 with
   | true=>simp only[W5];exact i8 h1 _
   | false=>simp only[W3];exact c8V h1
def b1Z(c:c6)(hpre:k6 c):spZ 296 [(false,[.mp [.sl false [.i .u8 0] (c.b.map cU8),.i .i64 c.i,.i .i64 c.h]])] [(0,(false,[.mp [.sl false [.i .u8 0] ((((a2U c).2).b).map cU8),.i .i64 (((a2U c).2).i),.i .i64 (((a2U c).2).h)]]))] (.one (true,[.i .i64 (((a2U c).1).N),.s (((a2U c).1).S)])):=by
 refine sx' false false (some 0) Tryz.func296 (q' 2 [aw [.i .i64,.s]] (q' 4 [am 0,ao (.call 33 [.t 4,.k (.v false [.c (.i .i64 6)])]),aV 3] (.seq (q' 6 [am 3,aC .lss 6 4] (ci 7 (q' 8 [am 0,ao (.call 33 [.t 8,.k (.v false [.c (.i .i64 5)])]),ao (.bld [.i .i64,.s] [(0,1,.t 9)]),aS 2 2 10] .ret))) (.seq (q' 11 [am 3,aC .eql 11 4] (ci 12 (q' 13 [am 0,ac 297 [13],ao (.bld [.i .i64,.s] [(1,1,.t 14)]),aS 2 2 15] .ret))) (q' 16 [am 0,ac 336 [16],ao (.bld [.i .i64,.s] [(0,1,.t 17)]),aS 2 2 18] .ret))))) [.c 2 true 2] [(33,[0],l3),(297,[0],a3d),(336,[0],a6t)] ?_;intro hb hE;have h1:=i8 hpre 6;simp only[go_sem];repeat' first|apply cj'|intro hc|exact om'|fail
 all_goals first
  | assumption
  | (unfold a2U;simp only[*,W5,W3,decide_true,decide_false,q0Q];first|done|exact⟨rfl,rfl⟩)
  | trace_state
def a2E:CT:=s6 (fun(x:c6) h=>b1Z x h)
@[go_sem] def c2x:=fun x0 x1 x2=>nm' (fP' a2E rfl ⟨x0,x1,x2⟩)
def c8w(k:Nat):([[C.s []],[C.s [97]],[C.s [97,98,99,100,101,102,103,104,105,106,107,108]],[C.s [97,98,99,100,101,102,103,104,105,106,107,108,109]],[C.s [57,97]],[C.s [65]],[C.s [97,95]],[C.s [48]],[C.s [48,48]],[C.s [55]],[C.s [50,56,49,52,55,52,57,55,54,55,49,48,54,53,53]],[C.s [50,56,49,52,55,52,57,55,54,55,49,48,54,53,54]],[C.s [45,49]],[C.s [49,50,51,52,53,54,55,56,57,48,49,50,51,52,53,54]],[C.s [104,111,115,116]],[C.s [120,57]],[C.s [32,49]],[C.s [195,169]]]:List (List C)).getD k [C.s []]=[C.s (fewT.getD k [])]:=a1z fewT k
def b4z(c:c6)(hpre:k6 c):spZ 238 [(false,[.mp [.sl false [.i .u8 0] (c.b.map cU8),.i .i64 c.i,.i .i64 c.h]])] [(0,(false,[.mp [.sl false [.i .u8 0] (((i6 c 18).b).map cU8),.i .i64 ((i6 c 18).i),.i .i64 ((i6 c 18).h)]]))] (.one (false,[.s (fewT.getD (i7 c 18).toNat [])])):=by
 refine sx' false false (some 0) Tryz.func238 (q' 2 [ao (.mov (.k (.v false [.c (.s [])])))] (q' 3 [ao (.bsl 1 18 [.s] [(0,.k (.v false [.c (.s [])])),(1,.k (.v false [.c (.s [97])])),(2,.k (.v false [.c (.s [97,98,99,100,101,102,103,104,105,106,107,108])])),(3,.k (.v false [.c (.s [97,98,99,100,101,102,103,104,105,106,107,108, 109])])),(4,.k (.v false [.c (.s [57,97])])),(5,.k (.v false [.c (.s [65])])),(6,.k (.v false [.c (.s [97,95])])),(7,.k (.v false [.c (.s [48])])), (8,.k (.v false [.c (.s [48,48])])),(9,.k (.v false [.c (.s [55])])),(10,.k (.v false [.c (.s [50,56,49,52,55,52,57,55,54,55,49,48,54,53, 53])])),(11,.k (.v false [.c (.s [50,56,49,52,55,52,57,55,54,55,49,48,54,53,54])])),(12,.k (.v false [.c (.s [45,49])])),(13,.k (.v false [.c (.s [49,50,51,52,53,54,55,56,57,48,49,50,51,52,53,54])])),(14,.k (.v false [.c (.s [104,111,115,116])])),(15,.k (.v false [.c (.s [120,57])])),(16,.k (.v false [.c (.s [32,49])])),(17,.k (.v false [.c (.s [195,169])]))]),am 0,ao (.call 33 [.t 4,.k (.v false [.c (.i .i64 18)])]),ai 1 3 5,aL,aV 2] .ret)) [.t 2] [(33,[0],l3)] ?_;intro hb hE;have hb1:=j9 c (n:=18) (by omega);simp only[go_sem,c8w];repeat' first|apply cj'|intro hc|exact om'|fail
 all_goals first|assumption|omega|trace_state
def a1O:CT:=s6 (fun(x:c6) h=>b4z x h)
@[go_sem] def c3P:=fun x0 x1 x2=>nm' (fP' a1O rfl ⟨x0,x1,x2⟩)
def b5Q(c:c6):d4×c6:=bif i7 (a2U c).2 10==0 then(⟨(a4n (i6 (a2U c).2 10)).1,(a2U c).1.S⟩,(a4n (i6 (a2U c).2 10)).2)else bif i7 (a2U c).2 10==1 then(⟨(a2U c).1.N,fewT.getD (i7 (i6 (a2U c).2 10) 18).toNat []⟩,i6 (i6 (a2U c).2 10) 18)else((a2U c).1,i6 (a2U c).2 10)
def anyR_ok{c:c6}(h:k6 c):k6 (b5Q c).2:=by
 have h1:=i8 (b9b h) 10;unfold b5Q;cases i7 (a2U c).2 10==0 with
 | true=>simp only[W5];exact c4J h1
 | false=>
   simp only[W3];cases i7 (a2U c).2 10==1 with
   | true=>simp only[W5];exact i8 h1 _
   | false=>exact h1
def b6s(c:c6)(hpre:k6 c):spZ 338 [(false,[.mp [.sl false [.i .u8 0] (c.b.map cU8),.i .i64 c.i,.i .i64 c.h]])] [(0,(false,[.mp [.sl false [.i .u8 0] ((((b5Q c).2).b).map cU8),.i .i64 (((b5Q c).2).i),.i .i64 (((b5Q c).2).h)]]))] (.one (true,[.i .i64 (((b5Q c).1).N),.s (((b5Q c).1).S)])):=by
 refine sx' false false (some 0) Tryz.func338 (q' 2 [aw [.i .i64,.s]] (q' 5 [am 0,ac 296 [5],ax (w' 3 [.i .i64,.s]),aS 2 3 6] (q' 7 [am 0,ao (.call 33 [.t 7,.k (.v false [.c (.i .i64 10)])]),aV 4] (.seq (q' 9 [am 4,aC .eql 9 0] (ci 10 (g' 11 [am 0,ac 299 [11],af 0 3,aS 1 13 12]))) (.seq (q' 14 [am 4,aC .eql 14 1] (ci 15 (g' 16 [am 0,ac 238 [16],af 1 3,aS 1 18 17]))) (q' 19 [ae 2 3,aS 2 2 19] .ret)))))) [.c 2 true 2] [(33,[0],l3),(296,[0],a2E),(299,[0],a2p),(238,[0],a1O)] ?_;intro hb hE;have h1:=b9b hpre;have h2:=i8 h1 10;simp only[go_sem];repeat' first|apply cj'|intro hc|exact om'|fail
 all_goals first
  | assumption
  | (exfalso;rename_i h;rw[beq_iff_eq]at h hc;omega)
  | (unfold b5Q;simp only[*,W5,W3,decide_true,decide_false,q0Q];first|done|exact⟨rfl,rfl⟩)
  | trace_state
def a7u:CT:=s6 (fun(x:c6) h=>b6s x h)
@[go_sem] def c5W:=fun x0 x1 x2=>nm' (fP' a7u rfl ⟨x0,x1,x2⟩)
def a0g(c:c6):Nat->List d4×c6
 | 0=>([],c)
 | n+1=>((a0g c n).1++[(a2U (a0g c n).2).1],(a2U (a0g c n).2).2)
def a6X{c:c6}(h:k6 c):∀n,k6 (a0g c n).2
 | 0=>h
 | n+1=>b9b (a6X h n)
def a3v(c:c6):∀n,(a0g c n).1.length=n
 | 0=>rfl
 | n+1=>by simp only[a0g,W4,a3v c n];rfl
def a3K(c:c6)(n:Int)(hpre:k6 c/\n<=1000):spZ 236 [(false,[.mp [.sl false [.i .u8 0] (c.b.map cU8),.i .i64 c.i,.i .i64 c.h]]),(false,[.i .i64 n])] [(0,(false,[.mp [.sl false [.i .u8 0] ((((a0g c n.toNat).2).b).map cU8),.i .i64 (((a0g c n.toNat).2).i),.i .i64 (((a0g c n.toNat).2).h)]]))] (.one (true,[a5h ((⟨(a0g c n.toNat).1⟩:d5).V)])):=by
 refine sx' false false (some 0) Tryz.func236 (q' 4 [aw [.sl l5]] (q' 5 [ax (o' 7 (.bld [.sl l5] [])),aw [.sl l5],aS 1 5 7] (.seq (q' 6 [aK 0] (fo 0 8 [aM [6,1],ar 8 9] 10 1 (rm' [(true,2,m' 15 0),(false,0,f' 13 0 5),(false,1,l' 14 13),(false,3,c' 16 296 [15]),(false,4,o' 17 (.bsl 2 1 [.i .i64,.s] [(0,.t 16)])),(false,5,o' 18 (.app 2 24 [.i .i64,.s] (.t 14) (.t 17))),(false,6,f' 19 0 5),(false,7,s' 1 19 18)] [[0,1,3,2,4,5,6,7],[0,1, 3,4,2,5,6,7],[0,3,1,2,4,5,6,7],[0,3,1,4,2,5,6,7],[0,3,4,1,2,5,6,7]] []) (g' 11 [aB 6]))) (q' 20 [ae 1 5,aS 1 4 20] .ret)))) [.c 4 true 1] [(296,[0],a2E)] ?_;intro hb hE;obtain⟨hp,hn⟩:=hpre;simp only[go_sem,pc_susB];(repeat' first|apply cj'|intro hc|apply y9);(all_goals(try(refine(show A3U _ _ _ _ _ _ from ?_);simp only[go_sem,pc_susB]at hc ⊢;simp only[go_sem,pc_susB,A7u,A7y,A6L,A6K,A7t,A6J,nf_put_sub,A7w,A7v,nf_put_susK,nf_put_dip,nf_put_put,A7x,A7s,A6M,j8,j6,j4,j5,j7,nf_sub_sub]at hc ⊢;simp only[hc,q0Q,q0G];done)));all_goals try exact om'
 refine lk' false [(true,10,0,200020)] [0,1,4,5] [8] [] (fun i:{i:Nat // (i:Int)<=max n 0}=>[(6,slV (.i .i64 i.1))]) (fun i=>[(10,[.ow 200020]),(1,[.c (.sl false [.i .u8 0] ((a0g c i.1).2.b.map cU8)),.c (.i .i64 (a0g c i.1).2.i),.c (.i .i64 (a0g c i.1).2.h)])]) (fun i=>[(200020,l5,((a0g c i.1).1).map d4.cells)]) (fun i=>n.toNat-i.1) (⟨0,by omega⟩) ?_;intro S0 hS0 i;obtain⟨i,hi⟩:=i;have hok:=a6X hp i;have hl:=a3v c i;simp only[go_sem,pc_susB,hS0];(repeat' first|apply cj'|intro hc|apply y9);(all_goals(try((first|refine s9 1 rfl ?_);intro S hS B0 hB;simp only[go_sem,pc_susB,hS0,V6,q0M]at hS hB;(repeat(first|replace hS:=And.right hS|replace hS:=CJ.r hS));have Rr5:=congrArg (fun s:St=>s.sl 5) hS;have Rr15:=congrArg (fun s:St=>s.sl 15) hS;have Rb1:=congrArg (fun s:St=>s.bx 1) hS;have Rb10:=congrArg (fun s:St=>s.bx 10) hS;have Ro200020:=congrArg (fun s:St=>s.ow 200020) hS;clear hS;simp only[go_sem,pc_susB,hS0]at Rr5 Rr15 Rb1 Rb10 Ro200020;(try clear hc);intro K hc;simp only[go_sem,pc_susB,hS0,Rr5,Rr15,Rb1,Rb10,Ro200020,hB,V7,q0H,V4,q0E]at hc ⊢;simp only[go_sem,pc_susB,hS0,Rr5,Rr15,Rb1,Rb10,Ro200020,hB,A7u,A7y,A6L,A6K,A7t,A6J,nf_put_sub,A7w,A7v,nf_put_susK,nf_put_dip,nf_put_put,A7x,A7s,A6M,j8,j6,j4,j5,j7,nf_sub_sub]at hc ⊢;(first|(simp only[hc,q0Q,q0G];done)|((repeat' first|exact hc|apply V0);done)))));all_goals try exact om'
 ·exact hok
 ·(refine lpK_n2 (⟨i+1,by omega⟩) _ (by simp only[go_sem,pc_susB];try rfl) ?_;simp only[go_sem,pc_susB,hS0]<;>repeat' first|apply V0|exact on'|fail)
 ·rw[show n.toNat=i by omega];exact⟨rfl,rfl⟩
def a3E:CT:=s6 (fun(x:c6×Int) h=>a3K x.1 x.2 h)
@[go_sem] def b9N:=fun x0 x1 x2 n=>nm' (fP' a3E rfl (⟨x0,x1,x2⟩,n))
def c9j{c:c6}(h:k6 c)(n:Int):k6 (a0g c n.toNat).2:=a6X h _
def arB(c:c6):List d4×c6:=a0g (i6 c 4) (i7 c 4).toNat
def arF(c:c6):List d4×c6:=bif i7 (arB c).2 10==0 then((arB c).1++[(b5Q (i6 (arB c).2 10)).1],(b5Q (i6 (arB c).2 10)).2)else bif i7 (arB c).2 10==1 then a0g (i6 (i6 (arB c).2 10) 2) (6+i7 (i6 (arB c).2 10) 2).toNat else((arB c).1,i6 (arB c).2 10)
def b0i(c:c6)(hpre:k6 c):spZ 300 [(false,[.mp [.sl false [.i .u8 0] (c.b.map cU8),.i .i64 c.i,.i .i64 c.h]])] [(0,(false,[.mp [.sl false [.i .u8 0] ((((arF c).2).b).map cU8),.i .i64 (((arF c).2).i),.i .i64 (((arF c).2).h)]]))] (.one (true,[a5h ((⟨(arF c).1⟩:d5).V)])):=by
 refine sx' false false (some 0) Tryz.func300 (q' 2 [aw [.sl l5]] (q' 5 [aM [0,0],ao (.call 33 [.t 6,.k (.v false [.c (.i .i64 4)])]),ac 236 [5,7],ax (w' 3 [.sl l5]),aS 1 3 8] (q' 9 [am 0,ao (.call 33 [.t 9,.k (.v false [.c (.i .i64 10)])]),aV 4] (.seq (q' 11 [am 4,aC .eql 11 0] (ci 12 (rm' [(true,2,m' 15 0),(false,0,f' 13 0 3),(false,1,l' 14 13),(false,3,c' 16 338 [15]),(false,4,o' 17 (.bsl 2 1 [.i .i64,.s] [(0,.t 16)])),(false,5,o' 18 (.app 2 24 [.i .i64,.s] (.t 14) (.t 17))),(false,6,f' 19 0 3),(false,7,s' 1 19 18)] [[0,1,3,2,4,5,6,7],[0,1,3,4,2,5,6,7],[0,3,1,2,4,5,6,7],[0,3,1,4,2, 5,6,7],[0,3,4,1,2,5,6,7]] []))) (.seq (q' 20 [am 4,aC .eql 20 1] (ci 21 (g' 22 [aM [0,0],ao (.call 33 [.t 23,.k (.v false [.c (.i .i64 2)])]),ao (.bin .add (k' 6) (.t 24)),ac 236 [22,25],aS 1 3 26]))) (q' 27 [ae 1 3,aS 1 2 27] .ret)))))) [.c 2 true 1] [(33,[0],l3),(236,[0],a3E),(338,[0],a7u)] ?_;intro hb hE;have hb1:=j9 c (n:=4) (by omega);have h1:=i8 hpre 4;have h2:=c9j h1 (i7 c 4);have h3:=i8 h2 10;have h4:=i8 h3 2;have hl:=a3v (i6 c 4) (i7 c 4).toNat
 have hb2:=j9 (i6 (arB c).2 10) (n:=2) (by omega);have hb3:=j9 (i6 (a0g (i6 c 4) (i7 c 4).toNat).2 10) (n:=2) (by omega);have h5:=anyR_ok h3;have hw:IntKind.i64.wrap (6+i7 (i6 (a0g (i6 c 4) (i7 c 4).toNat).2 10) 2)=6+i7 (i6 (a0g (i6 c 4) (i7 c 4).toNat).2 10) 2:=w64 (by omega) (by omega) rfl;simp only[go_sem,pc_susB,hw];(repeat' first|apply cj'|intro hc|apply y9);(all_goals(try((first|refine s9 1 rfl ?_);intro S hS B0 hB;simp only[go_sem,pc_susB,hw,V6,q0M]at hS hB;(repeat(first|replace hS:=And.right hS|replace hS:=CJ.r hS));have Rr3:=congrArg (fun s:St=>s.sl 3) hS;have Rr15:=congrArg (fun s:St=>s.sl 15) hS;have Rb1:=congrArg (fun s:St=>s.bx 1) hS;have Rb6:=congrArg (fun s:St=>s.bx 6) hS;have Ro1024:=congrArg (fun s:St=>s.ow 1024) hS;clear hS;simp only[go_sem,pc_susB,hw]at Rr3 Rr15 Rb1 Rb6 Ro1024;(try clear hc);intro K hc;simp only[go_sem,pc_susB,hw,Rr3,Rr15,Rb1,Rb6,Ro1024,hB,V7,q0H,V4,q0E]at hc ⊢;simp only[go_sem,pc_susB,hw,Rr3,Rr15,Rb1,Rb6,Ro1024,hB,A7u,A7y,A6L,A6K,A7t,A6J,nf_put_sub,A7w,A7v,nf_put_susK,nf_put_dip,nf_put_put,A7x,A7s,A6M,j8,j6,j4,j5,j7,nf_sub_sub]at hc ⊢;(first|(simp only[hc,q0Q,q0G];done)|((repeat' first|exact hc|apply V0);done)))));all_goals try exact om'
 all_goals first
  | assumption
  | exact⟨h1,by omega⟩
  | exact⟨h4,by omega⟩
  | (exfalso;simp only[beq_iff_eq]at*;omega)
  | (unfold arF arB;simp only[*,W5,W3,decide_true,decide_false,q0Q];first|done|exact⟨rfl,rfl⟩)
  | trace_state
def a4C:CT:=s6 (fun(x:c6) h=>b0i x h)
@[go_sem] def c1w:=fun x0 x1 x2=>nm' (fP' a4C rfl ⟨x0,x1,x2⟩)
def l6(r:c8)(i:Int):f9:=r.toks.getD i.toNat default
def o5(r:c8):Prop:=(0<=r.i/\r.i<=r.toks.length)/\r.toks.length<=6000
def l7(r:c8)(c:Int):c8:=bif r.code==0 then⟨r.toks,r.i,r.e,c,bif decide (r.i<r.toks.length)then(l6 r r.i).At else r.e⟩else r
def u1(r:c8):c8:=⟨r.toks,r.i+1,r.e,r.code,r.p⟩
def isS(r:c8)(i:Int)(s:List UInt8):Bool:=r.code==0&&decide (i<r.toks.length)&&(l6 r i).Kind==4&&(l6 r i).S==s
def s7(r:c8)(s:List UInt8):c8:=bif isS r r.i s then u1 r else l7 r 6
def b8O:List UInt8:=[115,116,97,116,101]
def b8N:List UInt8:=[101,118,101,110,116]
def c3e:List UInt8:=[118,105,101,119]
def b7f:List UInt8:=[110,111,116]
def a0T(r:c8):Bool:=!(r.code==0)||decide ((r.toks.length:Int)<=r.i)
def a7L(r:c8):Bool:=!(a0T r||(!((l6 r r.i).Kind==1)||a4L (l6 r r.i).S))
def a3V(r:c8):List UInt8:=bif a7L r then(l6 r r.i).S else[]
def v6(r:c8):c8:=bif a7L r then u1 r else l7 r 6
def a0A(r:c8):Bool:=a0T r||((l6 r r.i).Kind==4||((l6 r r.i).Kind==1&&a4L (l6 r r.i).S))
def a1Y(r:c8)(full:Bool):d3:=bif a0A r||full then default else bif (l6 r r.i).Kind==2 then⟨(l6 r r.i).S,default⟩else⟨[],⟨(l6 r r.i).N,(l6 r r.i).S⟩⟩
def n7(r:c8)(full:Bool):c8:=bif a0A r then l7 r 6 else bif full then l7 r 7 else u1 r
def a0w:List UInt8:=[40]
def a8d:List UInt8:=[41]
def a0n:List UInt8:=[44]
def b5i:List UInt8:=[46]
def sgIf:List UInt8:=[58,45]
def a5j:List UInt8:=[43]
def a3P:List UInt8:=[45]
def a1l:List UInt8:=[47]
def a7U:Nat->c8->List d3->c8×List d3
 | 0,r,a=>(r,a)
 | n+1,r,a=>bif r.code==0 then
    (bif isS (n7 r ((a.length:Int)==6)) (n7 r ((a.length:Int)==6)).i a0n then a7U n (u1 (n7 r ((a.length:Int)==6))) (a++[a1Y r ((a.length:Int)==6)])
     else(n7 r ((a.length:Int)==6),a++[a1Y r ((a.length:Int)==6)]))
   else(r,a)
def a0M(r:c8):Nat:=r.toks.length+2-r.i.toNat
def w5(r:c8):c8×f8:=
 bif isS (s7 (v6 r) a0w) (s7 (v6 r) a0w).i a8d then(u1 (s7 (v6 r) a0w),⟨a3V r,[]⟩)
 else(s7 (a7U (a0M (s7 (v6 r) a0w)) (s7 (v6 r) a0w) []).1 a8d,⟨a3V r,(a7U (a0M (s7 (v6 r) a0w)) (s7 (v6 r) a0w) []).2⟩)
def opR(r:c8):Int:=bif isS r r.i [61]then 1 else bif isS r r.i [33,61]then 2 else bif isS r r.i [60]then 3 else bif isS r r.i [60,61]then 4 else 0
def u7(r:c8):c8×d6:=
 bif !a0T r&&((l6 r r.i).Kind==1&&(l6 r r.i).S==b7f)then((w5 (u1 r)).1,⟨2,(w5 (u1 r)).2,0,default,default⟩)
 else bif !a0T r&&((l6 r r.i).Kind==1&&(!a4L (l6 r r.i).S&&isS r (r.i+1) a0w))then((w5 r).1,⟨1,(w5 r).2,0,default,default⟩)
 else let r1:=n7 r false
  let r2:=bif opR r1==0 then l7 r1 6 else u1 r1
  (n7 r2 false,⟨3,default,opR r1,a1Y r false,a1Y r2 false⟩)
def litY(r:c8):Bool:=!a0T r&&((l6 r r.i).Kind==2||(l6 r r.i).Kind==3||(l6 r r.i).Kind==1&&((l6 r r.i).S==b7f||!a4L (l6 r r.i).S))
def w8(r:c8)(n:Int):c8:=bif n==8&&litY r then l7 r 7 else r
def a3B:Nat->c8->List d6->c8×List d6
 | 0,r,a=>(r,a)
 | n+1,r,a=>bif r.code==0 then
    (bif isS (u7 (w8 r a.length)).1 (u7 (w8 r a.length)).1.i a0n then a3B n (u1 (u7 (w8 r a.length)).1) (a++[(u7 (w8 r a.length)).2])
     else((u7 (w8 r a.length)).1,a++[(u7 (w8 r a.length)).2]))
   else(r,a)
def a3N(r:c8):Int:=bif isS r r.i a5j then 2 else bif isS r r.i a3P then 3 else 1
def a0J(r:c8):c8:=bif isS r r.i a5j||isS r r.i a3P then u1 r else r
def a1E(r:c8):c8×c7:=
 let h:=w5 (a0J r)
 let b:=bif isS h.1 h.1.i sgIf then a3B (a0M (u1 h.1)) (u1 h.1) []else(h.1,[])
 (s7 b.1 b5i,⟨a3N r,h.2,b.2⟩)
def a8J(r:c8):Bool:=!(a0T r||!((l6 r r.i).Kind==3))
def a0B(r:c8)(k:Int):c8×i3:=
 let r1:=s7 (v6 r) a1l
 bif a8J r1 then
  (bif decide (6<(l6 r1 r1.i).N)then(l7 r1 7,⟨k,a3V r,(l6 r1 r1.i).N⟩)else(s7 (u1 r1) b5i,⟨k,a3V r,(l6 r1 r1.i).N⟩))
 else(l7 r1 6,⟨k,a3V r,0⟩)
def a2a(t:f9):Int:=bif t.Kind==1&&t.S==b8O then 1 else bif t.Kind==1&&t.S==b8N then 2 else bif t.Kind==1&&t.S==c3e then 3 else 0
def begY(r:c8):Bool:=((l6 r r.i).Kind==1&&!a4L (l6 r r.i).S)||(isS r r.i a5j||isS r r.i a3P)
def c6q{r:c8}{c:Int}(h:(r.code != 0)=true):l7 r c=r:=by rw[l7,show(r.code==0)=false by simpa[bne]using h];rfl
def c8v{r:c8}{c:Int}(h:(r.code != 0)=false)(h2:r.i<r.toks.length):l7 r c=⟨r.toks,r.i,r.e,c,(l6 r r.i).At⟩:=by rw[l7,show(r.code==0)=true by simpa[bne]using h,W9 h2];rfl
def c6p{r:c8}{c:Int}(h:(r.code != 0)=false)(h2:¬r.i<r.toks.length):l7 r c=⟨r.toks,r.i,r.e,c,r.e⟩:=by rw[l7,show(r.code==0)=true by simpa[bne]using h,V2 h2];rfl
def b2d(r:c8)(c:Int)(hpre:o5 r):spZ 94 [(false,[.mp [w9 r.toks,.i .i64 r.i,.i .i64 r.e,.i .i64 r.code,.i .i64 r.p]]),(false,[.i .i64 c])] [(0,(false,[.mp [w9 ((l7 r c).toks),.i .i64 ((l7 r c).i),.i .i64 ((l7 r c).e),.i .i64 ((l7 r c).code),.i .i64 ((l7 r c).p)]]))] (.tup []):=by
 refine sx' false false (some 0) Tryz.func94 (.seq (q' 4 [am 0,ao (.nck (.t 4)),aG 3 5,aC .neq 7 0] (ci 8 .ret)) (q' 9 [aM [0,1],ao (.nck (.t 9)),aF 3,aS 1 12 10] (q' 13 [aM [0,0],ao (.nck (.t 14)),aG 2 15,ao (.nck (.t 13)),aF 4,aS 1 19 17] (.seq (G' 20 [am 0,ao (.nck (.t 20)),aG 1 21,am 0,ao (.nck (.t 24)),aG 0 25,aN,ar 23 28]) (ci 29 (.rego [(true,0,m' 30 0),(true,1,m' 31 0),(true,2,o' 32 (.nck (.t 31))),(true,5,m' 35 0),(true,6,o' 36 (.nck (.t 35))),(false,3,f' 33 0 32),(false,4,l' 34 33), (false,7,f' 37 1 36),(false,8,l' 38 37),(false,9,i' 39 4 34 38),(false,10,f' 40 3 39),(false,11,l' 41 40),(false,12,o' 42 (.nck (.t 30))), (false,13,f' 43 4 42),(false,14,s' 1 43 41)] [])))))) [] [] ?_;intro hb hE;obtain⟨⟨h0,h1⟩,h2⟩:=hpre;simp only[go_sem];repeat' first|apply cj'|intro hc|exact om'|fail
 ·rw[c6q hc]
 ·rename_i h;rw[c8v h hc];rfl
 ·rename_i h;rw[c6p h hc]
def y4:CT:=s6 (fun(x:c8×Int) h=>b2d x.1 x.2 h)
@[go_sem] def c2B:=fun x0 x1 x2 x3 x4 c=>nm' (fP' y4 rfl (⟨x0,x1,x2,x3,x4⟩,c))
def b8J(r:c8)(i:Int)(s:List UInt8)(hpre:o5 r/\0<=i):spZ 97 [(false,[.p [w9 r.toks,.i .i64 r.i,.i .i64 r.e,.i .i64 r.code,.i .i64 r.p]]),(false,[.i .i64 i]),(false,[.s s])] [] (.one (false,[.b (isS r i s)])):=by
 refine sy' Tryz.func97 (q' 6 [aU false] (q' 7 [am 0,ao (.nck (.t 7)),aG 3 8,aC .eql 10 0,am 11,aH 12 true [bm 1,bm 0,bo (.nck (.t 14)),bF 0,bL,bN,bD .lss 13 18],aP 12 19,am 20,aH 21 true [bm 0,bo (.nck (.t 22)),bF 0,bL,bm 1,bI 4,bF 0,bL,bC .eql 29 4],aP 21 30,am 31,aH 32 true [bm 0,bo (.nck (.t 33)),bF 0,bL,bm 1,bI 4,bF 2,bL,bm 2,bD .eql 40 41],aP 32 42,aV 6] .ret)) [.t 6] [] ?_;intro hb hE;obtain⟨⟨⟨h0,h1⟩,h2⟩,h3⟩:=hpre;simp only[go_sem];repeat' first|apply cj'|intro hc|exact om'|fail
 all_goals first|rfl|trace_state
def a0K:CT:=s6 (fun(x:c8×Int×(List UInt8)) h=>b8J x.1 x.2.1 x.2.2 h)
@[go_sem] def c7r:=fun x0 x1 x2 x3 x4 i s=>nm' (fP' a0K rfl (⟨x0,x1,x2,x3,x4⟩,i,s))
def b2C{r:c8}{s:List UInt8}(h:isS r r.i s=false):s7 r s=l7 r 6:=by rw[s7,h];rfl
def a9n{r:c8}{s:List UInt8}(h:isS r r.i s=true):s7 r s=u1 r:=by rw[s7,h];rfl
def a9q{r:c8}(h:o5 r):IntKind.i64.wrap (r.i+1)=r.i+1:=by
 obtain⟨⟨h0,h1⟩,h2⟩:=h;exact w64 (by omega) (by omega) (by omega)
def w_i0{r:c8}(h:o5 r):IntKind.i64.wrap (r.i+1-1)=r.i:=by
 obtain⟨⟨h0,h1⟩,h2⟩:=h;exact w64 (by omega) (by omega) (by omega)
def b4L(r:c8)(s:List UInt8)(hpre:o5 r):spZ 185 [(false,[.mp [w9 r.toks,.i .i64 r.i,.i .i64 r.e,.i .i64 r.code,.i .i64 r.p]]),(false,[.s s])] [(0,(false,[.mp [w9 ((s7 r s).toks),.i .i64 ((s7 r s).i),.i .i64 ((s7 r s).e),.i .i64 ((s7 r s).code),.i .i64 ((s7 r s).p)]]))] (.tup []):=by
 refine sx' false false (some 0) Tryz.func185 (.seq (q' 4 [aM [0,0],ao (.nck (.t 5)),aG 1 6,am 1,ac 97 [4,8,9],aO 10] (ci 11 (q' 12 [am 0,ao (.call 94 [.t 12,.k (.v false [.c (.i .i64 6)])])] .ret))) (g' 14 [am 0,ao (.nck (.t 14)),aG 1 15,aC .add 17 1,ao (.nck (.t 14)),aF 1,aS 1 20 18])) [] [(97,[],a0K),(94,[0],y4)] ?_;intro hb hE;obtain⟨⟨h0,h1⟩,h2⟩:=id hpre;simp only[go_sem];repeat' first|apply cj'|intro hc|exact om'|fail
 ·rw[b2C hc]
 ·rw[a9n hc,a9q hpre];rfl
def a1R:CT:=s6 (fun(x:c8×(List UInt8)) h=>b4L x.1 x.2 h)
@[go_sem] def c4b:=fun x0 x1 x2 x3 x4 s=>nm' (fP' a1R rfl (⟨x0,x1,x2,x3,x4⟩,s))
def word_no{r:c8}(h:(((r.code != 0)=true\/(r.toks.length:Int)<=r.i)\/((r.toks.getD r.i.toNat default).Kind != 1)=true)\/a4L (r.toks.getD r.i.toNat default).S=true):a7L r=false:=by
 rw[a7L,a0T,l6];rcases h with((h|h)|h)|h
 ·rw[show(r.code==0)=false by simpa[bne]using h];rfl
 ·rw[W9 h];simp
 ·rw[show((r.toks.getD r.i.toNat default).Kind==1)=false by simpa[bne]using h];simp
 ·rw[h];simp
def c9B{r:c8}(h:(((r.code != 0)=false/\¬(r.toks.length:Int)<=r.i)/\((r.toks.getD r.i.toNat default).Kind != 1)=false)/\a4L (r.toks.getD r.i.toNat default).S=false):a7L r=true:=by
 rw[a7L,a0T,l6,h.2,show(r.code==0)=true by simpa[bne]using h.1.1.1,V2 h.1.1.2,show((r.toks.getD r.i.toNat default).Kind==1)=true by simpa[bne]using h.1.2];rfl
def b4N(r:c8)(hpre:o5 r):spZ 184 [(false,[.mp [w9 r.toks,.i .i64 r.i,.i .i64 r.e,.i .i64 r.code,.i .i64 r.p]])] [(0,(false,[.mp [w9 ((v6 r).toks),.i .i64 ((v6 r).i),.i .i64 ((v6 r).e),.i .i64 ((v6 r).code),.i .i64 ((v6 r).p)]]))] (.one (false,[.s (a3V r)])):=by
 refine sx' false false (some 0) Tryz.func184 (q' 2 [ao (.mov (.k (.v false [.c (.s [])])))] (.seq (.seq (G' 3 [am 0,ao (.nck (.t 3)),aG 3 4,aC .neq 6 0,am 7,aH 8 false [bm 0,bo (.nck (.t 9)),bF 1,bL,bm 0,bo (.nck (.t 13)),bF 0,bL,bN,bD .geq 12 17],aQ 8 18,am 19,aH 20 false [bm 0,bo (.nck (.t 21)),bF 0,bL,bm 0,bo (.nck (.t 25)),bF 1,bL,bi 4 24 28,bF 0,bL,bC .neq 31 1],aQ 20 32,am 33,aH 34 false [bm 0,bo (.nck (.t 35)),bF 0,bL,bm 0,bo (.nck (.t 39)),bF 1,bL,bi 4 38 42,bF 2,bL,bc 96 [45]],aQ 34 46]) (ci 47 (q' 48 [am 0,ao (.call 94 [.t 48,.k (.v false [.c (.i .i64 6)])])] (q' 2 [ao (.mov (.k (.v false [.c (.s [])])))] .ret)))) (q' 50 [am 0,ao (.nck (.t 50)),aG 1 51,aC .add 53 1,ao (.nck (.t 50)),aF 1,aS 1 56 54] (.seq (G' 57 [am 0,ao (.nck (.t 57)),aG 0 58,am 0,ao (.nck (.t 61)),aG 1 62,aC .sub 64 1,ai 4 60 65,aG 2 66,aV 2]) .ret)))) [.t 2] [(96,[],a0F),(94,[0],y4)] ?_;intro hb hE;obtain⟨⟨h0,h1⟩,h2⟩:=id hpre;have hw1:=a9q hpre;have hw0:=w_i0 hpre;simp only[go_sem,hw1,hw0];repeat' first|apply cj'|intro hc|exact om'|fail
 ·rw[a3V,v6,word_no hc];exact⟨rfl,rfl⟩
 ·rw[a3V,v6,c9B hc];exact⟨rfl,rfl⟩
def a3j:CT:=s6 (fun(x:c8) h=>b4N x h)
@[go_sem] def c4d:=fun x0 x1 x2 x3 x4=>nm' (fP' a3j rfl ⟨x0,x1,x2,x3,x4⟩)
def b0s{r:c8}(h:(r.code != 0)=true\/(r.toks.length:Int)<=r.i):a0T r=true:=by
 rw[a0T];rcases h with h|h
 ·rw[show(r.code==0)=false by simpa[bne]using h];rfl
 ·rw[W9 h];simp
def a6K{r:c8}(h:(r.code != 0)=false/\¬(r.toks.length:Int)<=r.i):a0T r=false:=by
 rw[a0T,show(r.code==0)=true by simpa[bne]using h.1,V2 h.2];rfl
def c1j{r:c8}{full:Bool}(h:a0A r=true):a1Y r full=default/\n7 r full=l7 r 6:=by
 rw[a1Y,n7,h];exact⟨rfl,rfl⟩
def c6W{r:c8}(h:a0A r=false):a1Y r true=default/\n7 r true=l7 r 7:=by
 rw[a1Y,n7,h];exact⟨rfl,rfl⟩
def c4N{r:c8}(h:a0A r=false):a1Y r false=(bif (l6 r r.i).Kind==2 then⟨(l6 r r.i).S,default⟩else⟨[],⟨(l6 r r.i).N,(l6 r r.i).S⟩⟩)/\n7 r false=u1 r:=by
 rw[a1Y,n7,h];exact⟨rfl,rfl⟩
def tb_yes{r:c8}(h:((r.toks.getD r.i.toNat default).Kind==4)=true\/((r.toks.getD r.i.toNat default).Kind==1)=true/\a4L (r.toks.getD r.i.toNat default).S=true):a0A r=true:=by
 rw[a0A,l6];rcases h with h|h
 ·rw[h];simp
 ·rw[h.1,h.2];simp
def tb_no{r:c8}(h0:a0T r=false)(h:((r.toks.getD r.i.toNat default).Kind==4)=false/\((r.toks.getD r.i.toNat default).Kind==1&&a4L (r.toks.getD r.i.toNat default).S)=false):a0A r=false:=by
 rw[a0A,l6,h0,h.1,h.2];rfl
def b4M(r:c8)(full:Bool)(hpre:o5 r):spZ 271 [(false,[.mp [w9 r.toks,.i .i64 r.i,.i .i64 r.e,.i .i64 r.code,.i .i64 r.p]]),(false,[.b full])] [(0,(false,[.mp [w9 ((n7 r full).toks),.i .i64 ((n7 r full).i),.i .i64 ((n7 r full).e),.i .i64 ((n7 r full).code),.i .i64 ((n7 r full).p)]]))] (.one (true,[.s ((a1Y r full).Var),.i .i64 (((a1Y r full).Val).N),.s (((a1Y r full).Val).S)])):=by
 refine sx' false true (some 0) Tryz.func271 (q' 4 [aw [.s,.i .i64,.s]] (.seq (.seq (G' 6 [am 0,ao (.nck (.t 6)),aG 3 7,aC .neq 9 0,am 10,aH 11 false [bm 0,bo (.nck (.t 12)),bF 1,bL,bm 0,bo (.nck (.t 16)),bF 0,bL,bN,bD .geq 15 20],aQ 11 21]) (ci 22 (q' 23 [am 0,ao (.call 94 [.t 23,.k (.v false [.c (.i .i64 6)])])] (q' 25 [ao (.bld [.s,.i .i64,.s] []),aS 3 4 25] .ret)))) (.seq (.rego [(true,0,m' 26 0),(true,1,o' 27 (.nck (.t 26))),(true,2,f' 28 0 27),(true,3,l' 29 28),(true,4,m' 30 0),(true,5, o' 31 (.nck (.t 30))),(true,6,f' 32 1 31),(true,7,l' 33 32),(true,8,i' 34 4 29 33),(true,9,e' 35 4 34),(false,10,w' 5 [.i .i64,.i .i64,.s,.i .i64]),(false,11,s' 4 5 35)] [0,1,1000000]) (.seq (q' 36 [aG 0 5,aC .eql 37 4,am 38,aH 39 false [bf 0 5,bL,bC .eql 41 1,bm 42],aH 43 true [bf 2 5,bL,bc 96 [45]],aH 39 false [bP 43 46],aQ 39 47] (ci 48 (q' 49 [am 0,ao (.call 94 [.t 49,.k (.v false [.c (.i .i64 6)])])] (q' 51 [ao (.bld [.s,.i .i64,.s] []),aS 3 4 51] .ret)))) (.seq (q' 52 [am 1] (ci 52 (q' 53 [am 0,ao (.call 94 [.t 53,.k (.v false [.c (.i .i64 7)])])] (q' 55 [ao (.bld [.s,.i .i64,.s] []),aS 3 4 55] .ret)))) (q' 56 [am 0,ao (.nck (.t 56)),aG 1 57,aC .add 59 1,ao (.nck (.t 56)),aF 1,aS 1 62 60] (.seq (q' 63 [aG 0 5,aC .eql 64 2] (ci 65 (q' 66 [aG 2 5,ao (.bld [.s,.i .i64,.s] [(0,1,.t 67)]),aS 3 4 68] .ret))) (q' 69 [aG 1 5,aG 2 5,ao (.bld [.i .i64,.s] [(0,1,.t 70),(1,1,.t 72)]),ao (.bld [.s,.i .i64,.s] [(1,2,.t 73)]),aS 3 4 74] .ret)))))))) [.c 4 true 3] [(96,[],a0F),(94,[0],y4)] ?_;intro hb hE;obtain⟨⟨h0,h1⟩,h2⟩:=id hpre;have hw1:=a9q hpre;simp only[go_sem,hw1];repeat' first|apply cj'|intro hc|exact om'|fail
 ·have h:=c1j (full:=full) (show a0A r=true by rw[a0A,b0s hc];rfl);rw[h.1,h.2];exact⟨⟨⟨rfl,rfl⟩,rfl⟩,rfl⟩
 ·have h:=c1j (full:=full) (tb_yes hc);rw[h.1,h.2];exact⟨⟨⟨rfl,rfl⟩,rfl⟩,rfl⟩
 ·rename_i ha hb;subst hc;have h:=c6W (tb_no (a6K ha) hb);rw[h.1,h.2];exact⟨⟨⟨rfl,rfl⟩,rfl⟩,rfl⟩
 ·rename_i ha hb hf;subst hf;have h:=c4N (tb_no (a6K ha) hb);rw[h.1,h.2,l6,hc];exact⟨⟨⟨rfl,rfl⟩,rfl⟩,rfl⟩
 ·rename_i ha hb hf;subst hf;have h:=c4N (tb_no (a6K ha) hb);rw[h.1,h.2,l6,hc];exact⟨⟨⟨rfl,rfl⟩,rfl⟩,rfl⟩
def a3i:CT:=s6 (fun(x:c8×Bool) h=>b4M x.1 x.2 h)
@[go_sem] def c4c:=fun x0 x1 x2 x3 x4 x5=>nm' (fP' a3i rfl (⟨x0,x1,x2,x3,x4⟩,x5))
def a7b(r:c8)(hpre:o5 r):spZ 187 [(false,[.p [w9 r.toks,.i .i64 r.i,.i .i64 r.e,.i .i64 r.code,.i .i64 r.p]])] [] (.one (false,[.b (litY r)])):=by
 refine sy' Tryz.func187 (q' 2 [aU false] (.seq (.seq (G' 4 [am 0,ao (.nck (.t 4)),aG 3 5,aC .neq 7 0,am 8,aH 9 false [bm 0,bo (.nck (.t 10)),bF 1,bL,bm 0,bo (.nck (.t 14)),bF 0,bL,bN,bD .geq 13 18],aQ 9 19]) (ci 20 (q' 2 [aU false] .ret))) (.seq (.rego [(true,0,m' 21 0),(true,1,o' 22 (.nck (.t 21))),(true,2,f' 23 0 22),(true,3,l' 24 23),(true,4,m' 25 0),(true,5,o' 26 (.nck (.t 25))),(true,6,f' 27 1 26),(true,7,l' 28 27),(true,8,i' 29 4 24 28),(true,9,e' 30 4 29), (false,10,w' 3 [.i .i64,.i .i64,.s,.i .i64]),(false,11,s' 4 3 30)] [0,1,1000000]) (q' 31 [aG 0 3,aC .eql 32 2,am 33,aH 34 false [bf 0 3,bL,bC .eql 36 3],aQ 34 37,am 38,aH 39 false [bf 0 3,bL,bC .eql 41 1,bm 42],aH 43 true [bf 2 3,bL,bY .eql 45 [110,111,116],bm 46],aH 47 false [bf 2 3,bL,bc 96 [49],bO 50],aH 43 true [bQ 47 51],aH 39 false [bP 43 52],aQ 39 53,aV 2] .ret)))) [.t 2] [(96,[],a0F)] ?_;intro hb hE;obtain⟨⟨h0,h1⟩,h2⟩:=hpre;simp only[go_sem];repeat' first|apply cj'|intro hc|exact om'|fail
 ·rw[litY,b0s hc];rfl
 ·rw[litY,a6K hc];rfl
def a2M:CT:=s6 (fun(x:c8) h=>a7b x h)
@[go_sem] def b8d:=fun x0 x1 x2 x3 x4=>nm' (fP' a2M rfl ⟨x0,x1,x2,x3,x4⟩)
def b8K(r:c8)(hpre:o5 r):spZ 272 [(false,[.p [w9 r.toks,.i .i64 r.i,.i .i64 r.e,.i .i64 r.code,.i .i64 r.p]])] [] (.one (false,[.i .i64 (opR r)])):=by
 refine sy' Tryz.func272 (q' 2 [aK 0] (.seq (q' 5 [ao (.bsl 1 4 [.s] [(0,.k (.v false [.c (.s [61])])),(1,.k (.v false [.c (.s [33,61])])),(2,.k (.v false [.c (.s [60])])),(3,.k (.v false [.c (.s [60,61])]))]),aN,aK 0] (fO 0 8 [ar 7 6] 8 1 (q' 9 [am 7,ai 1 5 7,aL,av 3 9,aV 4] (q' 12 [aM [0,0],ao (.nck (.t 13)),aG 1 14,am 4,ac 97 [12,16,17]] (ci 18 (q' 19 [am 3,aC .add 19 1,aV 2] .ret)))) (g' 21 [aA 7]))) (q' 2 [aK 0] .ret))) [.t 2] [(97,[],a0K)] ?_;intro hb hE;obtain⟨⟨h0,h1⟩,h2⟩:=id hpre;simp only[go_sem];repeat' first|apply cj'|intro hc|exact om'|fail
 refine a1K 640 ?_;refine lq' false [0,5,6] [] [] (fun i:{i:Nat // i<=4/\(1<=i->isS r r.i [61]=false)/\(2<=i->isS r r.i [33,61]=false)/\(3<=i->isS r r.i [60]=false)/\(4<=i->isS r r.i [60,61]=false)}=>[(7,slV (.i .i64 i.1))]) nl' nl' (fun i=>4-i.1) (⟨0,by omega,by omega,by omega,by omega,by omega⟩) ?_;intro S0 hS0 i;obtain⟨i,hi,g1,g2,g3,g4⟩:=i;rcases(by omega:i=0\/i=1\/i=2\/i=3\/i=4)with rfl|rfl|rfl|rfl|rfl
 all_goals(
  simp only[go_sem,hS0];repeat' first|apply cj'|intro hc|exact om'|fail)
 ·rw[opR,hc];rfl
 ·exact nx0 ⟨1,by omega,fun _=>hc,by omega,by omega,by omega⟩
 ·rw[opR,g1 (by omega),hc];rfl
 ·exact nx0 ⟨2,by omega,fun _=>g1 (by omega),fun _=>hc,by omega,by omega⟩
 ·rw[opR,g1 (by omega),g2 (by omega),hc];rfl
 ·exact nx0 ⟨3,by omega,fun _=>g1 (by omega),fun _=>g2 (by omega),fun _=>hc,by omega⟩
 ·rw[opR,g1 (by omega),g2 (by omega),g3 (by omega),hc];rfl
 ·exact nx0 ⟨4,by omega,fun _=>g1 (by omega),fun _=>g2 (by omega),fun _=>g3 (by omega),fun _=>hc⟩
 ·rw[opR,g1 (by omega),g2 (by omega),g3 (by omega),g4 (by omega)];rfl
def a8F:CT:=s6 (fun(x:c8) h=>b8K x h)
@[go_sem] def c7s:=fun x0 x1 x2 x3 x4=>nm' (fP' a8F rfl ⟨x0,x1,x2,x3,x4⟩)
def a1a{r:c8}(h:o5 r)(c:Int):o5 (l7 r c):=by
 rw[l7];cases r.code==0<;>exact h
def a0h{r:c8}(h:o5 r)(h2:r.i<r.toks.length):o5 (u1 r):=by
 obtain⟨⟨h0,h1⟩,h3⟩:=h;exact⟨⟨by show 0<=r.i+1;omega,by show r.i+1<=(r.toks.length:Int);omega⟩,h3⟩
def a0D{r:c8}{i:Int}{s:List UInt8}(h:isS r i s=true):r.code=0/\i<r.toks.length:=by
 simp only[isS,W6,beq_iff_eq,V9]at h;exact⟨h.1.1.1,h.1.1.2⟩
def b8V{r:c8}(h:o5 r)(s:List UInt8):o5 (s7 r s):=by
 cases hs:isS r r.i s with
 | true=>rw[a9n hs];exact a0h h (a0D hs).2
 | false=>rw[b2C hs];exact a1a h 6
def a4M{r:c8}(h:a0T r=false):r.i<r.toks.length:=by
 simp only[a0T,q0Y,q2E]at h;omega
def b9c{r:c8}(h:o5 r):o5 (v6 r):=by
 rw[v6];cases hw:a7L r with
 | true=>
   refine a0h h (a4M ?_);simp only[a7L,q0T,q0Y]at hw;exact hw.1
 | false=>exact a1a h 6
def a9o{r:c8}(h:o5 r)(full:Bool):o5 (n7 r full):=by
 rw[n7];cases hb:a0A r with
 | true=>exact a1a h 6
 | false=>
   cases full with
   | true=>exact a1a h 7
   | false=>
     refine a0h h (a4M ?_);simp only[a0A,q0Y]at hb;exact hb.1
def b4I(t:f9):spZ 93 [(true,[.i .i64 t.Kind,.i .i64 t.N,.s t.S,.i .i64 t.At])] [] (.one (false,[.i .i64 (a2a t)])):=by
 refine sy' Tryz.func93 (q' 1 [aX 4 0,aK 0] (.seq (q' 5 [ao (.bsl 1 3 [.s] [(0,.k (.v false [.c (.s [115,116,97,116,101])])),(1,.k (.v false [.c (.s [101,118,101,110, 116])])),(2,.k (.v false [.c (.s [118,105,101,119])]))]),aN,aK 0] (fO 0 8 [ar 7 6] 8 1 (q' 9 [am 7,ai 1 5 7,aL,av 3 9,aV 4] (q' 12 [aG 0 1,aC .eql 13 1,am 14,aH 15 true [bf 2 1,bL,bm 4,bD .eql 17 18],aP 15 19] (ci 20 (q' 21 [am 3,aC .add 21 1,aV 2] .ret)))) (g' 23 [aA 7]))) (q' 2 [aK 0] .ret))) [.t 2] [] ?_;intro hb hE;simp only[go_sem];repeat' first|apply cj'|intro hc|exact om'|fail
 refine a1K 640 ?_;refine lq' false [1,5,6] [2] [] (fun i:{i:Nat // i<=3/\(1<=i->(t.Kind==1&&t.S==b8O)=false)/\(2<=i->(t.Kind==1&&t.S==b8N)=false)/\(3<=i->(t.Kind==1&&t.S==c3e)=false)}=>[(7,slV (.i .i64 i.1))]) nl' nl' (fun i=>3-i.1) (⟨0,by omega,by omega,by omega,by omega⟩) ?_;intro S0 hS0 i;obtain⟨i,hi,g1,g2,g3⟩:=i;rcases(by omega:i=0\/i=1\/i=2\/i=3)with rfl|rfl|rfl|rfl
 all_goals(
  simp only[go_sem,hS0];repeat' first|apply cj'|intro hc|exact om'|fail)
 ·rw[a2a,show(t.Kind==1&&t.S==b8O)=true by rw[hc.1];exact hc.2];rfl
 ·exact nx0 ⟨1,by omega,fun _=>hc,by omega,by omega⟩
 ·rw[a2a,g1 (by omega),show(t.Kind==1&&t.S==b8N)=true by rw[hc.1];exact hc.2];rfl
 ·exact nx0 ⟨2,by omega,fun _=>g1 (by omega),fun _=>hc,by omega⟩
 ·rw[a2a,g1 (by omega),g2 (by omega),show(t.Kind==1&&t.S==c3e)=true by rw[hc.1];exact hc.2];rfl
 ·exact nx0 ⟨3,by omega,fun _=>g1 (by omega),fun _=>g2 (by omega),fun _=>hc⟩
 ·rw[a2a,g1 (by omega),g2 (by omega),g3 (by omega)];rfl
def a6x:CT:=o8 (fun(x:f9)=>b4I x)
@[go_sem] def c3Y:=fun x0 x1 x2 x3=>nm' (fQ' a6x rfl ⟨x0,x1,x2,x3⟩)
def decl_no{r r1:c8}{k:Int}(e:s7 (v6 r) [47]=r1)(h:((r1.code != 0)=true\/(r1.toks.length:Int)<=r1.i)\/((r1.toks.getD r1.i.toNat default).Kind != 3)=true):a0B r k=(l7 r1 6,⟨k,a3V r,0⟩):=by
 have e':s7 (v6 r) a1l=r1:=e;have hy:a8J r1=false:=by
  rw[a8J,l6];rcases h with h|h
  ·rw[b0s h];rfl
  ·rw[show((r1.toks.getD r1.i.toNat default).Kind==3)=false by simpa[bne]using h];simp
 simp only[a0B,e',hy,W3]
def c0a{r r1:c8}{k:Int}(e:s7 (v6 r) [47]=r1)(h:((r1.code != 0)=false/\¬(r1.toks.length:Int)<=r1.i)/\((r1.toks.getD r1.i.toNat default).Kind != 3)=false):a0B r k=bif decide (6<(l6 r1 r1.i).N)then(l7 r1 7,⟨k,a3V r,(l6 r1 r1.i).N⟩)else(s7 (u1 r1) b5i,⟨k,a3V r,(l6 r1 r1.i).N⟩):=by
 have e':s7 (v6 r) a1l=r1:=e;have hy:a8J r1=true:=by
  rw[a8J,a6K h.1,l6,show((r1.toks.getD r1.i.toNat default).Kind==3)=true by simpa[bne]using h.2];rfl
 simp only[a0B,e',hy,W5]
def at_ok{r:c8}(h:o5 r)(h2:(r.code != 0)=false/\¬(r.toks.length:Int)<=r.i):0<=r.i/\r.i<r.toks.length:=⟨h.1.1,by omega⟩
def b4H(r:c8)(k:Int)(hpre:o5 r):spZ 95 [(false,[.mp [w9 r.toks,.i .i64 r.i,.i .i64 r.e,.i .i64 r.code,.i .i64 r.p]]),(false,[.i .i64 k])] [(0,(false,[.mp [w9 (((a0B r k).1).toks),.i .i64 (((a0B r k).1).i),.i .i64 (((a0B r k).1).e),.i .i64 (((a0B r k).1).code),.i .i64 (((a0B r k).1).p)]]))] (.one (true,[.i .i64 (((a0B r k).2).Kind),.s (((a0B r k).2).Name),.i .i64 (((a0B r k).2).Arity)])):=by
 refine sx' false true (some 0) Tryz.func95 (q' 4 [aw [.i .i64,.s,.i .i64]] (q' 6 [aM [1,0],ac 184 [7],ao (.bld [.i .i64,.s,.i .i64] [(0,1,.t 6),(1,1,.t 8)]),ax (w' 5 [.i .i64,.s,.i .i64]),aS 3 5 9] (q' 10 [am 0,ao (.call 185 [.t 10,.k (.v false [.c (.s [47])])])] (.seq (.seq (G' 12 [am 0,ao (.nck (.t 12)),aG 3 13,aC .neq 15 0,am 16,aH 17 false [bm 0,bo (.nck (.t 18)),bF 1,bL,bm 0,bo (.nck (.t 22)),bF 0,bL,bN,bD .geq 21 26],aQ 17 27,am 28,aH 29 false [bm 0,bo (.nck (.t 30)),bF 0,bL,bm 0,bo (.nck (.t 34)),bF 1,bL,bi 4 33 37,bF 0,bL,bC .neq 40 3],aQ 29 41]) (ci 42 (q' 43 [am 0,ao (.call 94 [.t 43,.k (.v false [.c (.i .i64 6)])])] (q' 45 [ae 3 5,aS 3 4 45] .ret)))) (.seq (.rego [(true,0,m' 46 0),(true,1,o' 47 (.nck (.t 46))),(true,2,f' 48 0 47),(true,3,l' 49 48),(false,4,m' 50 0),(false,5,o' 51 (.nck (.t 50))),(false,6,f' 52 1 51),(false,7,l' 53 52),(false,8,i' 54 4 49 53),(false,9,f' 55 1 54),(false,10,l' 56 55),(false,11,f' 57 2 5),(false,12,s' 1 57 56)] [0,1,1000000]) (.seq (q' 58 [aG 2 5,aC .gtr 59 6] (ci 60 (q' 61 [am 0,ao (.call 94 [.t 61,.k (.v false [.c (.i .i64 7)])])] (q' 63 [ae 3 5,aS 3 4 63] .ret)))) (q' 64 [am 0,ao (.nck (.t 64)),aG 1 65,aC .add 67 1,ao (.nck (.t 64)),aF 1,aS 1 70 68] (q' 71 [am 0,ao (.call 185 [.t 71, .k (.v false [.c (.s [46])])])] (q' 73 [ae 3 5,aS 3 4 73] .ret))))))))) [.c 4 true 3] [(184,[0],a3j),(185,[0],a1R),(94,[0],y4)] ?_;intro hb hE;have hwo:=b9c hpre;have hto:=b8V hwo [47];have hw1:=a9q hto;simp only[go_sem,hw1];repeat' first|apply cj'|intro hc|exact om'|fail
 all_goals(try generalize hr1:s7 (v6 r) [47]=r1 at*)
 all_goals first
  | exact hpre
  | exact hwo
  | exact hto
  | exact at_ok hto hc
  | exact at_ok hto hc.1
  | (rw[decl_no hr1 hc];exact⟨⟨⟨rfl,rfl⟩,rfl⟩,rfl⟩)
  | (rename_i h;rw[c0a hr1 h,l6,W9 hc];exact⟨⟨⟨rfl,rfl⟩,rfl⟩,rfl⟩)
  | (rename_i h;exact a0h hto (at_ok hto h.1).2)
  | (rename_i h;rw[c0a hr1 h,l6,V2 hc];exact⟨⟨⟨rfl,rfl⟩,rfl⟩,rfl⟩)
  | trace_state
def a6w:CT:=s6 (fun(x:c8×Int) h=>b4H x.1 x.2 h)
@[go_sem] def c3X:=fun x0 x1 x2 x3 x4 k=>nm' (fP' a6w rfl (⟨x0,x1,x2,x3,x4⟩,k))
def a1T(r:c8)(c:Int):(l7 r c).toks=r.toks/\(l7 r c).i=r.i:=by
 rw[l7];cases r.code==0<;>exact⟨rfl,rfl⟩
def c3j(r:c8)(full:Bool):(n7 r full).toks=r.toks/\r.i<=(n7 r full).i:=by
 rw[n7];cases a0A r with
 | true=>exact⟨(a1T r 6).1,by show r.i<=(l7 r 6).i;rw[(a1T r 6).2];omega⟩
 | false=>
   cases full with
   | true=>exact⟨(a1T r 7).1,by show r.i<=(l7 r 7).i;rw[(a1T r 7).2];omega⟩
   | false=>exact⟨rfl,by show r.i<=r.i+1;omega⟩
def b3u:∀(n m:Nat) {r:c8} {a:List d3},o5 r->r.toks.length<n+r.i.toNat->r.toks.length<m+r.i.toNat->a7U n r a=a7U m r a
 | 0,_,r,a,h,h1,_=>by obtain⟨⟨h0,h2⟩,_⟩:=h;omega
 | _,0,r,a,h,_,h1=>by obtain⟨⟨h0,h2⟩,_⟩:=h;omega
 | n+1,m+1,r,a,h,h1,h2=>by
   rw[a7U,a7U];cases r.code==0 with
   | false=>rfl
   | true=>
     rw[W5,W5];cases hs:isS (n7 r ((a.length:Int)==6)) (n7 r ((a.length:Int)==6)).i a0n with
     | false=>rfl
     | true=>
       have ht:=c3j r ((a.length:Int)==6);have hk:=a9o h ((a.length:Int)==6);have hlt:=(a0D hs).2;rw[W5,W5];have h0:=h.1.1;have h3:=hk.1.1;refine b3u n m (a0h hk hlt) ?_ ?_
       ·show(n7 r ((a.length:Int)==6)).toks.length<n+((n7 r ((a.length:Int)==6)).i+1).toNat
        rw[ht.1];omega
       ·show(n7 r ((a.length:Int)==6)).toks.length<m+((n7 r ((a.length:Int)==6)).i+1).toNat
        rw[ht.1];omega
def a7h(r:c8)(a:List d3):c8×List d3:=a7U (a0M r) r a
def c5w{r:c8}{a:List d3}(h:¬r.code=0):a7h r a=(r,a):=by
 rw[a7h];cases a0M r with
 | zero=>rfl
 | succ n=>rw[a7U,show(r.code==0)=false by simpa using h];rfl
def b9E{r:c8}{a:List d3}(h:o5 r)(hc:r.code=0):a7h r a=bif isS (n7 r ((a.length:Int)==6)) (n7 r ((a.length:Int)==6)).i a0n then a7h (u1 (n7 r ((a.length:Int)==6))) (a++[a1Y r ((a.length:Int)==6)])else(n7 r ((a.length:Int)==6),a++[a1Y r ((a.length:Int)==6)]):=by
 have h0:=h.1;have hf:a0M r=(a0M r-1)+1:=by rw[a0M];omega
 rw[a7h,hf,a7U,show(r.code==0)=true by simpa using hc,W5];cases hs:isS (n7 r ((a.length:Int)==6)) (n7 r ((a.length:Int)==6)).i a0n with
 | false=>rfl
 | true=>
   have ht:=c3j r ((a.length:Int)==6);have hk:=a9o h ((a.length:Int)==6);have hlt:=(a0D hs).2;have h3:=hk.1.1;rw[W5,W5,a7h];refine b3u _ _ (a0h hk hlt) ?_ ?_
   ·show(n7 r ((a.length:Int)==6)).toks.length<a0M r-1+((n7 r ((a.length:Int)==6)).i+1).toNat
    rw[ht.1,a0M];omega
   ·show(n7 r ((a.length:Int)==6)).toks.length<a0M (u1 (n7 r ((a.length:Int)==6)))+((n7 r ((a.length:Int)==6)).i+1).toNat
    rw[a0M];show _<(n7 r ((a.length:Int)==6)).toks.length+2-((n7 r ((a.length:Int)==6)).i+1).toNat+_;omega
def c2f{r r1:c8}(e:s7 (v6 r) [40]=r1)(h:isS r1 r1.i [41]=true):w5 r=(u1 r1,⟨a3V r,[]⟩):=by
 have e':s7 (v6 r) a0w=r1:=e;rw[w5,e',show isS r1 r1.i a8d=true from h];rfl
def b6O{r r1:c8}(e:s7 (v6 r) [40]=r1)(h:isS r1 r1.i [41]=false):w5 r=(s7 (a7h r1 []).1 a8d,⟨a3V r,(a7h r1 []).2⟩):=by
 have e':s7 (v6 r) a0w=r1:=e;rw[w5,e',show isS r1 r1.i a8d=false from h];rfl
def b4G(r:c8)(hpre:o5 r):spZ 186 [(false,[.mp [w9 r.toks,.i .i64 r.i,.i .i64 r.e,.i .i64 r.code,.i .i64 r.p]])] [(0,(false,[.mp [w9 (((w5 r).1).toks),.i .i64 (((w5 r).1).i),.i .i64 (((w5 r).1).e),.i .i64 (((w5 r).1).code),.i .i64 (((w5 r).1).p)]]))] (.one (true,[.s (((w5 r).2).Name),c2X (((w5 r).2).Args)])):=by
 refine sx' false false (some 0) Tryz.func186 (q' 2 [aw [.s,.sl j3]] (q' 4 [am 0,ac 184 [4],ao (.bld [.s,.sl j3] [(0,1,.t 5)]),ax (w' 3 [.s,.sl j3]),aS 2 3 6] (q' 7 [am 0,ao (.call 185 [.t 7,.k (.v false [.c (.s [40])])])] (.seq (q' 9 [aM [0,0],ao (.nck (.t 10)),aG 1 11,ao (.call 97 [.t 9,.t 13,.k (.v false [.c (.s [41])])])] (ci 14 (q' 15 [am 0,ao (.nck (.t 15)),aG 1 16,aC .add 18 1,ao (.nck (.t 15)),aF 1,aS 1 21 19] (q' 22 [ae 2 3,aS 2 2 22] .ret)))) (.seq (lO 0 (.seq (q' 23 [am 0,ao (.nck (.t 23)),aG 3 24,aC .eql 26 0] (cd 27 .skip (.exit 0))) (.block 1 (.seq (.regm [(true,2,m' 30 0), (false,0,f' 28 1 3),(false,1,l' 29 28),(false,3,f' 31 1 3),(false,4,l' 32 31),(false,5,n' 33 32),(false,6,o' 34 (.bin .eql (.t 33) (k' 6))), (false,7,c' 35 271 [30,34]),(false,8,o' 36 (.bsl 3 1 [.s,.i .i64,.s] [(0,.t 35)])),(false,9,o' 37 (.app 3 40 [.s,.i .i64,.s] (.t 29) (.t 36))), (false,10,f' 38 1 3),(false,11,s' 1 38 37)] [[(true,2,m' 30 0),(false,0,f' 28 1 3),(false,3,f' 31 1 3),(false,4,l' 32 31),(false,5,n' 33 32),(true,6,o' 34 (.bin .eql (.t 33) (k' 6))),(false,7,c' 35 271 [30,34]),(false,1,l' 29 28),(false,8,o' 36 (.bsl 3 1 [.s,.i .i64,.s] [(0,.t 35)])),(false,9,o' 37 (.app 3 40 [.s,.i .i64,.s] (.t 29) (.t 36))),(false,10,f' 38 1 3),(false,11,s' 1 38 37)],[(true,2,m' 30 0),(false,0,f' 28 1 3),(false,3,f' 31 1 3),(false,4,l' 32 31),(false,5,n' 33 32),(true,6,o' 34 (.bin .eql (.t 33) (k' 6))),(false,7,c' 35 271 [30,34]), (false,8,o' 36 (.bsl 3 1 [.s,.i .i64,.s] [(0,.t 35)])),(false,1,l' 29 28),(false,9,o' 37 (.app 3 40 [.s,.i .i64,.s] (.t 29) (.t 36))),(false, 10,f' 38 1 3),(false,11,s' 1 38 37)],[(true,2,m' 30 0),(false,3,f' 31 1 3),(false,4,l' 32 31),(false,5,n' 33 32),(true,6,o' 34 (.bin .eql (.t 33) (k' 6))),(false,7,c' 35 271 [30,34]),(false,0,f' 28 1 3),(false,1,l' 29 28),(false,8,o' 36 (.bsl 3 1 [.s,.i .i64,.s] [(0,.t 35)])), (false,9,o' 37 (.app 3 40 [.s,.i .i64,.s] (.t 29) (.t 36))),(false,10,f' 38 1 3),(false,11,s' 1 38 37)],[(true,2,m' 30 0),(false,3,f' 31 1 3), (false,4,l' 32 31),(false,5,n' 33 32),(true,6,o' 34 (.bin .eql (.t 33) (k' 6))),(false,7,c' 35 271 [30,34]),(false,0,f' 28 1 3),(false,8,o' 36 (.bsl 3 1 [.s,.i .i64,.s] [(0,.t 35)])),(false,1,l' 29 28),(false,9,o' 37 (.app 3 40 [.s,.i .i64,.s] (.t 29) (.t 36))),(false,10,f' 38 1 3), (false,11,s' 1 38 37)],[(true,2,m' 30 0),(false,3,f' 31 1 3),(false,4,l' 32 31),(false,5,n' 33 32),(true,6,o' 34 (.bin .eql (.t 33) (k' 6))), (false,7,c' 35 271 [30,34]),(false,8,o' 36 (.bsl 3 1 [.s,.i .i64,.s] [(0,.t 35)])),(false,0,f' 28 1 3),(false,1,l' 29 28),(false,9,o' 37 (.app 3 40 [.s,.i .i64,.s] (.t 29) (.t 36))),(false,10,f' 38 1 3),(false,11,s' 1 38 37)]] []) (.seq (q' 39 [aM [0,0],ao (.nck (.t 40)),aG 1 41,ao (.call 97 [.t 39,.t 43,.k (.v false [.c (.s [44])])]),aO 44] (ci 45 (.exit 0))) (g' 46 [am 0,ao (.nck (.t 46)),aG 1 47,aC .add 49 1,ao (.nck (.t 46)),aF 1,aS 1 52 50])))))) (q' 53 [am 0,ao (.call 185 [.t 53,.k (.v false [.c (.s [41])])])] (q' 55 [ae 2 3,aS 2 2 55] .ret))))))) [.c 2 true 2] [(184,[0],a3j),(185,[0],a1R),(97,[],a0K),(271,[0],a3i)] ?_;intro hb hE;have hwo:=b9c hpre;have hto:=b8V hwo [40];have hw1:=a9q hto;simp only[go_sem,hw1,pc_susB];(repeat' first|apply cj'|intro hc|apply y9);(all_goals(try(refine(show A3U _ _ _ _ _ _ from ?_);simp only[go_sem,hw1,pc_susB]at hc ⊢;simp only[go_sem,hw1,pc_susB,A7u,A7y,A6L,A6K,A7t,A6J,nf_put_sub,A7w,A7v,nf_put_susK,nf_put_dip,nf_put_put,A7x,A7s,A6M,j8,j6,j4,j5,j7,nf_sub_sub]at hc ⊢;simp only[hc,q0Q,q0G];done)));all_goals try exact om'
 ·exact hpre
 ·exact hwo
 all_goals(try generalize hr1:s7 (v6 r) [40]=r1 at*)
 ·exact⟨hto,hto.1.1⟩
 ·rw[c2f hr1 hc];exact⟨⟨rfl,rfl⟩,rfl⟩
 refine lk' false [(true,6,1,200012)] [0,2,3] [4] [] (fun i:{q:c8×List d3 // o5 q.1/\q.1.toks=r1.toks/\(q.2.length:Int)<=q.1.i/\a7h q.1 q.2=a7h r1 []}=>[]) (fun i=>[(6,[.c (.s (a3V r)),.ow 200012]),(1,[.c (w9 i.1.1.toks),.c (.i .i64 i.1.1.i),.c (.i .i64 i.1.1.e),.c (.i .i64 i.1.1.code),.c (.i .i64 i.1.1.p)])]) (fun i=>[(200012,j3,i.1.2.map d3.cells)]) (fun i=>r1.toks.length-i.1.1.i.toNat) (⟨(r1,[]),hto,rfl,hto.1.1,rfl⟩) ?_;intro S0 hS0 i;have hsh:=hc;obtain⟨⟨q,a⟩,hq,hqt,hal,hqe⟩:=i;simp only at hq hqt hal hqe;have hln:a.length<=6000:=by have:=hq.1.2;have:=hq.2;omega
 have htk:=fun f=>a9o hq f
 simp only[go_sem,hw1,pc_susB,hS0];(repeat' first|apply cj'|intro hc|apply y9);(all_goals(try((first|refine s9 1 rfl ?_);intro S hS B0 hB;simp only[go_sem,hw1,pc_susB,hS0,V6,q0M]at hS hB;(repeat(first|replace hS:=And.right hS|replace hS:=CJ.r hS));have Rr0:=congrArg (fun s:St=>s.sl 0) hS;have Rr3:=congrArg (fun s:St=>s.sl 3) hS;have Rr30:=congrArg (fun s:St=>s.sl 30) hS;have Rb1:=congrArg (fun s:St=>s.bx 1) hS;have Rb6:=congrArg (fun s:St=>s.bx 6) hS;have Ro200012:=congrArg (fun s:St=>s.ow 200012) hS;clear hS;simp only[go_sem,hw1,pc_susB,hS0]at Rr0 Rr3 Rr30 Rb1 Rb6 Ro200012;(try clear hc);intro K hc;simp only[go_sem,hw1,pc_susB,hS0,Rr0,Rr3,Rr30,Rb1,Rb6,Ro200012,hB,V7,q0H,V4,q0E]at hc ⊢;simp only[go_sem,hw1,pc_susB,hS0,Rr0,Rr3,Rr30,Rb1,Rb6,Ro200012,hB,A7u,A7y,A6L,A6K,A7t,A6J,nf_put_sub,A7w,A7v,nf_put_susK,nf_put_dip,nf_put_put,A7x,A7s,A6M,j8,j6,j4,j5,j7,nf_sub_sub]at hc ⊢;(first|(simp only[hc,q0Q,q0G];done)|((repeat' first|exact hc|apply V0);done)))));all_goals try exact om'
 ·exact hq
 ·exact⟨htk _,(htk _).1.1⟩
 ·exact htk _
 ·rename_i hcd;rw[b6O hr1 hsh,<-hqe,b9E hq (by simpa using hcd),show isS (n7 q ((a.length:Int)==6)) (n7 q ((a.length:Int)==6)).i a0n=false from hc,W3];exact⟨⟨rfl,rfl⟩,rfl⟩
 ·rename_i hcd;have hlt:=(a0D hc).2;have hon:=b9E hq (a:=a) (by simpa using hcd);rw[show isS (n7 q ((a.length:Int)==6)) (n7 q ((a.length:Int)==6)).i a0n=true from hc,W5]at hon;have hst:=a0h (htk ((a.length:Int)==6)) hlt;have h00:=hq.1.1;have ht:=c3j q ((a.length:Int)==6);have hw3:=a9q (htk ((a.length:Int)==6))
  (refine lpK_n2 (⟨(u1 (n7 q ((a.length:Int)==6)),a++[a1Y q ((a.length:Int)==6)]),hst,ht.1.trans hqt,by show((a++[_]).length:Int)<=(n7 q ((a.length:Int)==6)).i+1;rw[W4];have:=ht.2;simp only[V3,q0V];omega,hon.symm.trans hqe⟩) _ (by simp only[go_sem,hw1,pc_susB];try rfl) ?_;simp only[go_sem,hw1,pc_susB,hS0]<;>repeat' first|apply V0|exact on'|fail)
  ·show r1.toks.length-((n7 q ((a.length:Int)==6)).i+1).toNat<r1.toks.length-q.i.toNat
   have h1:=ht.2;rw[ht.1,hqt]at hlt;omega
  ·exact hw3
 ·exact hq
 ·rw[b6O hr1 hsh,<-hqe,c5w (by simpa using hc)];exact⟨⟨rfl,rfl⟩,rfl⟩
def a3h:CT:=s6 (fun(x:c8) h=>b4G x h)
@[go_sem] def c3W:=fun x0 x1 x2 x3 x4=>nm' (fP' a3h rfl ⟨x0,x1,x2,x3,x4⟩)
end
end Go.Aw
