/- Letters, digits, words, values: what the functions compute. No condition. -/
import Derived.Test.YtokefohpgeajaaaGreatrBx9wf
import Derived.Lib.Bytealg
import Derived.Test.YtokefohpgeajaaaGreatrBx8wf
namespace Go.Aw
noncomputable section
set_option maxHeartbeats 4000000
open Go.Proofs
attribute [local irreducible] aft blk lpK retK AW A0p
set_option linter.all false
set_option maxRecDepth 100000
def a0F(n:Int):Bool:=decide (97<=n)&&decide (n<=122)
def a3G(n:Int):Bool:=decide (48<=n)&&decide (n<=57)
def a0x(n:Int):Bool:=decide (0<=n)&&decide (n<=281474976710655)
def a8g(x:UInt8):Bool:=a0F x.toNat||a3G x.toNat
def a0X(s:List UInt8):Bool:=s.all a8g&&(decide (1<=s.length)&&decide (s.length<=12)&&a0F (s.getD 0 0).toNat)
def k9(v:d5):Bool:=bif v.S==[]then a0x v.N else v.N==0&&a0X v.S
def b2w(c:Int):spZ 206 [(false,[.i .u8 c])] [] (.one (false,[.b (a0F c)])):=by
 refine sy' Tryz.func206 (q' 2 [aU false] (q' 3 [am 0,ao (.bin .geq (.t 3) (bu 97)),am 4,aH 5 true [bm 0,bo (.bin .leq (.t 6) (bu 122))],aP 5 7,aV 2] .ret)) [.t 2] [] ?_;intro hb hE;simp only[go_sem];repeat' first|apply cj'|intro hc|exact om'|fail
 rfl
def a2Q:CT:=o9 (fun(x:Int)=>b2w x)
@[go_sem] def c3i:=fun c=>nm' (fQ' a2Q rfl c)
def b4W(c:Int):spZ 208 [(false,[.i .u8 c])] [] (.one (false,[.b (a3G c)])):=by
 refine sy' Tryz.func208 (q' 2 [aU false] (q' 3 [am 0,ao (.bin .geq (.t 3) (bu 48)),am 4,aH 5 true [bm 0,bo (.bin .leq (.t 6) (bu 57))],aP 5 7,aV 2] .ret)) [.t 2] [] ?_;intro hb hE;simp only[go_sem];repeat' first|apply cj'|intro hc|exact om'|fail
 rfl
def a3p:CT:=o9 (fun(x:Int)=>b4W x)
@[go_sem] def c4A:=fun c=>nm' (fQ' a3p rfl c)
def b2x(n:Int):spZ 133 [(false,[.i .i64 n])] [] (.one (false,[.b (a0x n)])):=by
 refine sy' Tryz.func133 (q' 2 [aU false] (q' 3 [am 0,aC .geq 3 0,am 4,aH 5 true [bm 0,bC .leq 6 281474976710655],aP 5 7,aV 2] .ret)) [.t 2] [] ?_;intro hb hE;simp only[go_sem];repeat' first|apply cj'|intro hc|exact om'|fail
 rfl
def a5C:CT:=o9 (fun(x:Int)=>b2x x)
@[go_sem] def c3j:=fun n=>nm' (fQ' a5C rfl n)
def b6P(s:List UInt8):spZ 149 [(false,[.s s])] [] (.one (false,[.b (a0X s)])):=by
 refine sy' Tryz.func149 (q' 2 [aU false] (.seq (q' 4 [am 0,ao (.lens (.t 4)),aK 0] (fO 0 7 [ar 6 5] 7 1 (q' 8 [am 6,aV 3] (q' 9 [aM [0,3],ao (.ixs (.t 9) (.t 10)),ac 206 [11],aO 12,am 13,aH 14 true [bm 0,bm 3,bo (.ixs (.t 15) (.t 16)),bc 208 [17],bO 18],aP 14 19] (ci 20 (q' 2 [aU false] .ret)))) (g' 21 [aA 6]))) (q' 22 [am 0,ao (.lens (.t 22)),aC .geq 23 1,am 24,aH 25 true [bm 0,bo (.lens (.t 26)),bC .leq 27 12],aP 25 28,am 29,aH 30 true [bm 0,bo (.ixs (.t 31) (k' 0)),bc 206 [32]],aP 30 33,aV 2] .ret))) [.t 2] [(206,[],a2Q),(208,[],a3p)] ?_;intro hb hE;simp only[go_sem];repeat' first|apply cj'|intro hc|exact om'|fail
 refine lq' false [0,5] [] [] (fun i:{i:Nat // i<=s.length/\(s.take i).all a8g=true}=>[(6,slV (.i .i64 i.1))]) nl' nl' (fun i=>s.length-i.1) (⟨0,by simp⟩) ?_;intro S0 hS0 i;obtain⟨i,hi,ha⟩:=i;simp only[go_sem,hS0];repeat' first|apply cj'|intro hc|exact om'|fail
 ·have h:a8g (s.getD i 0)=false:=by simp only[a8g,hc,Bool.or_self]
  rw[a0X,all_false (by omega) h];rfl
 ·exact nx0 ⟨i+1,by omega,by rw[A7q (d:=0) (by omega),ha];simpa[a8g,-List.getD_eq_getElem?_getD,<-Bool.not_or]using hc⟩
 ·rw[a0X,all_of_take (by omega) ha]
  norm_cast
def a2z:CT:=o9 (fun(x:(List UInt8))=>b6P x)
@[go_sem] def c6G:=fun s=>nm' (fQ' a2z rfl s)
def b4R(v:d5):spZ 168 [(true,[.i .i64 v.N,.s v.S])] [] (.one (false,[.b (k9 v)])):=by
 refine sy' Tryz.func168 (q' 1 [aX 2 0,aU false] (.seq (q' 3 [aG 1 1,aY .eql 4 []] (ci 5 (q' 6 [aG 0 1,ac 133 [7],aV 2] .ret))) (q' 9 [aG 0 1,aC .eql 10 0,am 11,aH 12 true [bf 1 1,bL,bc 149 [14]],aP 12 15,aV 2] .ret))) [.t 2] [(133,[],a5C),(149,[],a2z)] ?_;intro hb hE;simp only[go_sem];repeat' first|apply cj'|intro hc|exact om'|fail
 ·simp only[k9,hc,W4]
 ·simp only[k9,hc,W6]
def a1b:CT:=o9 (fun(x:d5)=>b4R x)
@[go_sem] def c4v:=fun x0 x1=>nm' (fQ' a1b rfl ⟨x0,x1⟩)
def b7e(n:Int):spZ 126 [(false,[.i .i64 n])] [] (.one (false,[.b (a0x n)])):=by
 refine sy' Tryz.func126 (q' 2 [aU false] (q' 3 [am 0,aC .geq 3 0,am 4,aH 5 true [bm 0,bC .leq 6 281474976710655],aP 5 7,aV 2] .ret)) [.t 2] [] ?_;intro hb hE;simp only[go_sem];repeat' first|apply cj'|intro hc|exact om'|fail
 rfl
def a2C:CT:=o9 (fun(x:Int)=>b7e x)
@[go_sem] def c6V:=fun n=>nm' (fQ' a2C rfl n)
def b7c(s:List UInt8):spZ 160 [(false,[.s s])] [] (.one (false,[.b (a0X s)])):=by
 refine sy' Tryz.func160 (q' 2 [aU false] (.seq (q' 6 [am 0,ao (.lens (.t 6)),aC .lss 7 1,am 8,aH 9 false [bm 0,bo (.lens (.t 10)),bC .gtr 11 12],aQ 9 12] (ci 13 (q' 2 [aU false] .ret))) (.seq (q' 3 [aK 0] (fo 0 14 [aM [3,0],ao (.lens (.t 15)),ar 14 16] 17 1 (q' 20 [aM [0,3],ao (.ixs (.t 20) (.t 21)),ao (.bin .geq (.t 22) (bu 97)),am 23,aH 24 true [bm 0,bm 3,bo (.ixs (.t 25) (.t 26)),bo (.bin .leq (.t 27) (bu 122))],aP 24 28,aV 4] (q' 30 [aM [0,3],ao (.ixs (.t 30) (.t 31)),ao (.bin .geq (.t 32) (bu 48)),am 33,aH 34 true [bm 0,bm 3,bo (.ixs (.t 35) (.t 36)),bo (.bin .leq (.t 37) (bu 57))],aP 34 38,aV 5] (q' 40 [am 4,aO 40,am 41,aH 42 true [bm 5,bO 43,bm 44],aH 45 false [bm 3,bC .eql 46 0],aH 42 true [bQ 45 47],aP 42 48] (ci 49 (q' 2 [aU false] .ret))))) (g' 18 [aB 3]))) (q' 2 [aU true] .ret)))) [.t 2] [] ?_;intro hb hE;simp only[go_sem];repeat' first|apply cj'|intro hc|exact om'|fail
 ·cases h:a0X s with
  | false=>rfl
  | true=>
    simp only[a0X,W7,q0B]at h;omega
 refine lq' false [0] [] [] (fun i:{i:Nat // i<=s.length/\(s.take i).all a8g=true/\(0<i->a0F (s.getD 0 0).toNat=true)}=>[(3,slV (.i .i64 i.1))]) nl' nl' (fun i=>s.length-i.1) (⟨0,by simp⟩) ?_;intro S0 hS0 i;obtain⟨i,hi,ha,hl⟩:=i;simp only[go_sem,hS0];repeat' first|apply cj'|intro hc|exact om'|fail
 ·cases h:a0X s with
  | false=>rfl
  | true=>
    simp only[a0X,W7,q0B]at h;have h2:=all_getD (d:=0) h.1 (show i<s.length by omega);have hc1:a0F (s.getD i 0).toNat=false/\(a3G (s.getD i 0).toNat=false\/((i:Int)==0)=true):=hc;simp only[a8g,hc1.1,q3E]at h2;rcases hc1.2 with h3|h3
    ·rw[h3]at h2;cases h2
    ·have:i=0:=by simpa using h3
     subst this;exact absurd h.2.2 (by rw[hc1.1];exact Bool.false_ne_true)
 ·have hc1:(!a0F (s.getD i 0).toNat&&(!a3G (s.getD i 0).toNat||((i:Int)==0)))=false:=hc;have h1:a8g (s.getD i 0)=true:=by
   revert hc1
   simp only[a8g];generalize a0F (s.getD i 0).toNat=L;generalize a3G (s.getD i 0).toNat=D;cases L<;>cases D<;>simp
  have h2:a0F (s.getD 0 0).toNat=true:=by
   rcases q5A i with h0|h0
   ·subst h0
    revert hc1
    cases a0F (s.getD 0 0).toNat<;>simp
   ·exact hl h0
  exact nx0 ⟨i+1,by omega,by rw[A7q (d:=0) (by omega),ha,h1];rfl,fun _=>h2⟩
 ·have h:s.all a8g=true:=all_of_take (by omega) ha;have h2:=hl (by omega);simp only[a0X,h,h2,q1H,q0N];simp;omega
def a0V:CT:=o9 (fun(x:(List UInt8))=>b7c x)
@[go_sem] def c6T:=fun s=>nm' (fQ' a0V rfl s)
def b5e(v:d5):spZ 312 [(true,[.i .i64 v.N,.s v.S])] [] (.one (false,[.b (k9 v)])):=by
 refine sy' Tryz.func312 (q' 1 [aX 2 0,aU false] (.seq (q' 3 [aG 1 1,aY .eql 4 []] (ci 5 (q' 6 [aG 0 1,ac 126 [7],aV 2] .ret))) (q' 9 [aG 0 1,aC .eql 10 0,am 11,aH 12 true [bf 1 1,bL,bc 160 [14]],aP 12 15,aV 2] .ret))) [.t 2] [(126,[],a2C),(160,[],a0V)] ?_;intro hb hE;simp only[go_sem];repeat' first|apply cj'|intro hc|exact om'|fail
 ·simp only[k9,hc,W4]
 ·simp only[k9,hc,W6]
def a1d:CT:=o9 (fun(x:d5)=>b5e x)
@[go_sem] def c4K:=fun x0 x1=>nm' (fQ' a1d rfl ⟨x0,x1⟩)
def a4R(n:Int):Bool:=decide (65<=n)&&decide (n<=90)
def c2f(x:UInt8):Bool:=a0F x.toNat||a4R x.toNat||a3G x.toNat
def a4e(s:List UInt8):Bool:=s.all c2f&&(decide (1<=s.length)&&decide (s.length<=12)&&a4R (s.getD 0 0).toNat)
def a2U(n:Int):Int:=if 97<=n/\n<=122 then 1 else if 65<=n/\n<=90 then 2 else if 48<=n/\n<=57 then 3 else 0
def cls2(n:Int):(a2U n != 2)=!a4R n:=by
 unfold a2U a4R;rw[<-q5O];by_cases h:65<=n/\n<=90
 ·rw[if_neg (by omega),if_pos h];simp[h]
 ·rw[if_neg h];(repeat' split)<;>simp[h]
def cls0(x:UInt8):(a2U x.toNat==0)=!c2f x:=by
 unfold a2U c2f a4R a0F a3G;rw[<-q5O,<-q5O,<-q5O]
 (repeat' split)<;>simp[*]
def b4X(c:Int):spZ 207 [(false,[.i .u8 c])] [] (.one (false,[.b (a4R c)])):=by
 refine sy' Tryz.func207 (q' 2 [aU false] (q' 3 [am 0,ao (.bin .geq (.t 3) (bu 65)),am 4,aH 5 true [bm 0,bo (.bin .leq (.t 6) (bu 90))],aP 5 7,aV 2] .ret)) [.t 2] [] ?_;intro hb hE;simp only[go_sem];repeat' first|apply cj'|intro hc|exact om'|fail
 rfl
def a6w:CT:=o9 (fun(x:Int)=>b4X x)
@[go_sem] def c4B:=fun c=>nm' (fQ' a6w rfl c)
def b9p(s:List UInt8):spZ 167 [(false,[.s s])] [] (.one (false,[.b (a4e s)])):=by
 refine sy' Tryz.func167 (q' 2 [aU false] (.seq (q' 4 [am 0,ao (.lens (.t 4)),aK 0] (fO 0 7 [ar 6 5] 7 1 (q' 8 [am 6,aV 3] (q' 9 [aM [0,3],ao (.ixs (.t 9) (.t 10)),ac 206 [11],aO 12,am 13,aH 14 true [bm 0,bm 3,bo (.ixs (.t 15) (.t 16)),bc 207 [17],bO 18],aP 14 19,am 20,aH 21 true [bm 0,bm 3,bo (.ixs (.t 22) (.t 23)),bc 208 [24],bO 25],aP 21 26] (ci 27 (q' 2 [aU false] .ret)))) (g' 28 [aA 6]))) (q' 29 [am 0,ao (.lens (.t 29)),aC .geq 30 1,am 31,aH 32 true [bm 0,bo (.lens (.t 33)),bC .leq 34 12],aP 32 35,am 36,aH 37 true [bm 0,bo (.ixs (.t 38) (k' 0)),bc 207 [39]],aP 37 40,aV 2] .ret))) [.t 2] [(206,[],a2Q),(207,[],a6w),(208,[],a3p)] ?_;intro hb hE;simp only[go_sem];repeat' first|apply cj'|intro hc|exact om'|fail
 refine lq' false [0,5] [] [] (fun i:{i:Nat // i<=s.length/\(s.take i).all c2f=true}=>[(6,slV (.i .i64 i.1))]) nl' nl' (fun i=>s.length-i.1) (⟨0,by simp⟩) ?_;intro S0 hS0 i;obtain⟨i,hi,ha⟩:=i;simp only[go_sem,hS0];repeat' first|apply cj'|intro hc|exact om'|fail
 ·have h:c2f (s.getD i 0)=false:=by simp only[c2f,hc,Bool.or_self]
  rw[a4e,all_false (by omega) h];rfl
 ·exact nx0 ⟨i+1,by omega,by rw[A7q (d:=0) (by omega),ha];simpa[c2f,-List.getD_eq_getElem?_getD,<-Bool.not_or]using hc⟩
 ·rw[a4e,all_of_take (by omega) ha]
  norm_cast
def a5j:CT:=o9 (fun(x:(List UInt8))=>b9p x)
@[go_sem] def c8i:=fun s=>nm' (fQ' a5j rfl s)
def b2H(c:Int):spZ 180 [(false,[.i .u8 c])] [] (.one (false,[.i .i64 (a2U c)])):=by
 refine sy' Tryz.func180 (q' 2 [aK 0] (.seq (q' 3 [am 0,ao (.bin .geq (.t 3) (bu 97)),am 4,aH 5 true [bm 0,bo (.bin .leq (.t 6) (bu 122))],aP 5 7] (ci 8 (q' 2 [aK 1] .ret))) (.seq (q' 9 [am 0,ao (.bin .geq (.t 9) (bu 65)),am 10,aH 11 true [bm 0,bo (.bin .leq (.t 12) (bu 90))],aP 11 13] (ci 14 (q' 2 [aK 2] .ret))) (.seq (q' 15 [am 0,ao (.bin .geq (.t 15) (bu 48)),am 16,aH 17 true [bm 0,bo (.bin .leq (.t 18) (bu 57))],aP 17 19] (ci 20 (q' 2 [aK 3] .ret))) (q' 2 [aK 0] .ret))))) [.t 2] [] ?_;intro hb hE;simp only[go_sem];repeat' first|apply cj'|intro hc|exact om'|fail
 all_goals((try simp only[q3W,q2K]at*);simp only[a2U];(repeat' split)<;>omega)
def a2T:CT:=o9 (fun(x:Int)=>b2H x)
@[go_sem] def c3t:=fun c=>nm' (fQ' a2T rfl c)
def b9B(s:List UInt8):spZ 183 [(false,[.s s])] [] (.one (false,[.b (a4e s)])):=by
 refine sy' Tryz.func183 (q' 2 [aU false] (.seq (q' 4 [am 0,ao (.lens (.t 4)),aC .lss 5 1,am 6,aH 7 false [bm 0,bo (.lens (.t 8)),bC .gtr 9 12],aQ 7 10,am 11,aH 12 false [bm 0,bo (.ixs (.t 13) (k' 0)),bc 180 [14],bC .neq 15 2],aQ 12 16] (ci 17 (q' 2 [aU false] .ret))) (.seq (q' 3 [aK 0] (fo 0 18 [aM [3,0],ao (.lens (.t 19)),ar 18 20] 21 1 (q' 24 [aM [0,3],ao (.ixs (.t 24) (.t 25)),ac 180 [26],aC .eql 27 0] (ci 28 (q' 2 [aU false] .ret))) (g' 22 [aB 3]))) (q' 2 [aU true] .ret)))) [.t 2] [(180,[],a2T)] ?_;intro hb hE;simp only[go_sem,cls2,cls0];repeat' first|apply cj'|intro hc|exact om'|fail
 ·symm;unfold a4e;rcases hc with(h|h)|h
  ·rw[V3 (p:=1<=s.length) (by omega)];simp
  ·rw[V3 (p:=s.length<=12) (by omega)];simp
  ·rw[h];simp
 have hh:=hc;refine lq' false [0] [] [] (fun i:{i:Nat // i<=s.length/\(s.take i).all c2f=true}=>[(3,slV (.i .i64 i.1))]) nl' nl' (fun i=>s.length-i.1) (⟨0,by simp⟩) ?_;intro S0 hS0 i;obtain⟨i,hi,ha⟩:=i;simp only[go_sem,cls2,cls0,hS0];repeat' first|apply cj'|intro hc|exact om'|fail
 ·rw[a4e,all_false (by omega) hc];rfl
 ·(refine lpK_n2 (⟨i+1,by omega,by rw[A7q (d:=0) (by omega),ha,hc];rfl⟩) _ rfl ?_;simp only[go_sem,cls2,cls0,hS0]<;>repeat' first|apply V1|exact on'|fail)
 ·symm;rw[a4e,all_of_take (by omega) ha,hh.2,V0 (by omega),V0 (by omega)];rfl
def a5n:CT:=o9 (fun(x:(List UInt8))=>b9B x)
@[go_sem] def c8x:=fun s=>nm' (fQ' a5n rfl s)
def a3e(l:List c4)(i:Nat):Bool:=!a4e (l.getD i default).Var||!k9 (l.getD i default).Val||(decide ((0:Int)<i)&&!Op.bytesLess (l.getD (i-1) default).Var (l.getD i default).Var)
def b1q(e:c9):Bool:=!a3n e.Binds.length (a3e e.Binds)&&decide ((e.Binds.length:Int)<=60)
def b9m(e:c9):spZ 77 [(true,[u9 e.Binds])] [] (.one (false,[.b (b1q e)])):=by
 refine sy' Tryz.func77 (q' 1 [aX 1 0,aU false] (.seq (q' 5 [aG 0 1,aN,aK 0] (fO 0 9 [ar 8 7] 9 1 (q' 10 [am 8,ai 3 6 8,aE 3,ax (w' 4 [.s,.i .i64,.s]),av 3 10,aS 3 4 12] (.seq (G' 13 [aG 0 4,ac 167 [14],aO 15,am 16,aH 17 false [bf 1 4,bE 2,bc 168 [19],bO 20],aQ 17 21,am 22,aH 23 false [bm 3,bC .gtr 24 0,bm 25],aH 26 true [bf 0 1,bL,bm 3,bC .sub 29 1,bi 3 28 30,bF 0,bL,bf 0 4,bL,bD .geq 33 35],aH 23 false [bP 26 36],aQ 23 37]) (ci 38 (q' 2 [aU false] .ret)))) (g' 39 [aA 8]))) (q' 40 [aG 0 1,aN,aC .leq 42 60,aV 2] .ret))) [.t 2] [(167,[],a5j),(168,[],a1b)] ?_;intro hb hE;simp only[go_sem];repeat' first|apply cj'|intro hc|exact om'|fail
 refine lq' false [1,6,7] [2] [] (fun i:{i:Nat // i<=e.Binds.length/\a3n i (a3e e.Binds)=false}=>[(8,slV (.i .i64 i.1))]) nl' nl' (fun i=>e.Binds.length-i.1) (⟨0,by simp[a2o]⟩) ?_;intro S0 hS0 i;obtain⟨i,hi,ha⟩:=i;have hp:=wpred (i:=i) (by omega);simp only[go_sem,hS0,hp];repeat' first|apply cj'|intro hc|exact om'|fail
 ·have h:a3e e.Binds i=true:=by simpa[a3e]using hc
  rw[b1q,a3k (by omega) h];rfl
 ·have h:a3e e.Binds i=false:=by simpa[a3e]using hc
  (refine lpK_n2 (⟨i+1,by omega,a1L ha h⟩) _ rfl ?_;simp only[go_sem,hS0,hp]<;>repeat' first|apply V1|exact on'|fail)
 ·obtain rfl:i=e.Binds.length:=by omega
  rw[b1q,ha];rfl
def a8T:CT:=o9 (fun(x:c9)=>b9m x)
@[go_sem] def c8e:=fun x0=>nm' (fQ' a8T rfl ⟨x0⟩)
def getB(e:c9)(v:List UInt8):Nat:=a0W e.Binds.length fun i=>(e.Binds.getD i default).Var==v
def y4(e:c9)(v:List UInt8):d5×Bool:=if getB e v<e.Binds.length then((e.Binds.getD (getB e v) default).Val,true)else(default,false)
def a6R{e:c9}{v:List UInt8}(h:∀j,j<e.Binds.length->((e.Binds.getD j default).Var==v)=false):y4 e v=(default,false):=by
 have:=a3W h;rw[y4,getB,this,if_neg (by omega)]
def a6S{e:c9}{v:List UInt8}{i:Nat}(hi:i<e.Binds.length)(h:∀j,j<i->((e.Binds.getD j default).Var==v)=false)(hp:((e.Binds.getD i default).Var==v)=true):y4 e v=((e.Binds.getD i default).Val,true):=by
 have:=a2M h hp hi;rw[y4,getB,this,if_pos hi]
def b9x(e:c9)(v:List UInt8):spZ 260 [(true,[u9 e.Binds]),(false,[.s v])] [] (.tup [(true,[.i .i64 (((y4 e v).1).N),.s (((y4 e v).1).S)]),(false,[.b ((y4 e v).2)])]):=by
 refine sy' Tryz.func260 (q' 2 [aX 1 0,ax (w' 4 [.i .i64,.s]),ab 5 false] (.seq (q' 8 [aG 0 2,aN,aK 0] (fO 0 12 [ar 11 10] 12 1 (q' 13 [ai 3 9 11,aE 3,ax (w' 7 [.s,.i .i64,.s]),aS 3 7 14] (q' 15 [aG 0 7,am 1,aD .eql 16 17] (ci 18 (q' 19 [af 1 7,aE 2,aS 2 4 20,ab 5 true] .ret)))) (g' 21 [aA 11]))) (q' 22 [ao (.bld [.i .i64,.s] []),aS 2 4 22,ab 5 false] .ret))) [.c 4 true 2,.t 5] [] ?_;intro hb hE;simp only[go_sem];repeat' first|apply cj'|intro hc|exact om'|fail
 refine lq' false [1,4,9,10] [] [] (fun i:{i:Nat // i<=e.Binds.length/\∀j,j<i->((e.Binds.getD j default).Var==v)=false}=>[(11,slV (.i .i64 i.1))]) (fun i=>[(8,[.c (.i .i64 0),.c (.s [])])]) nl' (fun i=>e.Binds.length-i.1) (⟨0,by simp⟩) ?_;intro S0 hS0 i;obtain⟨i,hi,ha⟩:=i;simp only[go_sem,hS0];repeat' first|apply cj'|intro hc|exact om'|fail
 ·rw[a6S (by omega) ha hc];exact⟨⟨rfl,rfl⟩,rfl⟩
 ·exact nx0 ⟨i+1,by omega,fun j hj=>(q2U.1 hj).elim (ha j) (fun q=>q▸hc)⟩
 ·rw[a6R fun j hj=>ha j (by omega)];exact⟨⟨rfl,rfl⟩,rfl⟩
def a9a:CT:=o9 (fun(x:c9×(List UInt8))=>b9x x.1 x.2)
@[go_sem] def c8s:=fun x0 v=>nm' (fQ' a9a rfl (⟨x0⟩,v))
def b7s(e:c9)(v:List UInt8):spZ 254 [(true,[u9 e.Binds]),(false,[.s v])] [] (.tup [(true,[.i .i64 (((y4 e v).1).N),.s (((y4 e v).1).S)]),(false,[.b ((y4 e v).2)])]):=by
 refine sy' Tryz.func254 (q' 2 [aX 1 0,ax (w' 4 [.i .i64,.s]),ab 5 false] (.seq (q' 8 [aG 0 2,aN,aK 0] (fO 0 12 [ar 11 10] 12 1 (q' 13 [ai 3 9 11,aE 3,ax (w' 7 [.s,.i .i64,.s]),aS 3 7 14] (q' 15 [aG 0 7,am 1,aD .eql 16 17] (ci 18 (q' 19 [af 1 7,aE 2,aS 2 4 20,ab 5 true] .ret)))) (g' 21 [aA 11]))) (q' 22 [ao (.bld [.i .i64,.s] []),aS 2 4 22,ab 5 false] .ret))) [.c 4 true 2,.t 5] [] ?_;intro hb hE;simp only[go_sem];repeat' first|apply cj'|intro hc|exact om'|fail
 refine lq' false [1,4,9,10] [] [] (fun i:{i:Nat // i<=e.Binds.length/\∀j,j<i->((e.Binds.getD j default).Var==v)=false}=>[(11,slV (.i .i64 i.1))]) (fun i=>[(8,[.c (.i .i64 0),.c (.s [])])]) nl' (fun i=>e.Binds.length-i.1) (⟨0,by simp⟩) ?_;intro S0 hS0 i;obtain⟨i,hi,ha⟩:=i;simp only[go_sem,hS0];repeat' first|apply cj'|intro hc|exact om'|fail
 ·rw[a6S (by omega) ha hc];exact⟨⟨rfl,rfl⟩,rfl⟩
 ·exact nx0 ⟨i+1,by omega,fun j hj=>(q2U.1 hj).elim (ha j) (fun q=>q▸hc)⟩
 ·rw[a6R fun j hj=>ha j (by omega)];exact⟨⟨rfl,rfl⟩,rfl⟩
def a2F:CT:=o9 (fun(x:c9×(List UInt8))=>b7s x.1 x.2)
@[go_sem] def c7k:=fun x0 v=>nm' (fQ' a2F rfl (⟨x0⟩,v))
def a4U(s:List UInt8):Bool:=s==[115,116,97,116,101]||s==[101,118,101,110,116]||s==[118,105,101,119]||s==[110,111,116]
def s6(t:d4):Bool:=bif !(t.Var==[])then a4e t.Var&&(t.Val.N==0&&t.Val.S==[])else k9 t.Val&&!a4U t.Val.S
def c1y(s:List UInt8):spZ 96 [(false,[.s s])] [] (.one (false,[.b (a4U s)])):=by
 refine sy' Tryz.func96 (q' 2 [aU false] (q' 3 [am 0,aY .eql 3 [115,116,97,116,101],am 4,aH 5 false [bm 0,bY .eql 6 [101,118,101,110,116]],aQ 5 7,am 8,aH 9 false [bm 0,bY .eql 10 [118,105,101,119]],aQ 9 11,am 12,aH 13 false [bm 0,bY .eql 14 [110,111,116]],aQ 13 15,aV 2] .ret)) [.t 2] [] ?_;intro hb hE;simp only[go_sem];repeat' first|apply cj'|intro hc|exact om'|fail
 all_goals(first|rfl)
def a0K:CT:=o9 (fun(x:(List UInt8))=>c1y x)
@[go_sem] def c9x:=fun s=>nm' (fQ' a0K rfl s)
def c1u(s:List UInt8):spZ 170 [(false,[.s s])] [] (.one (false,[.b (a4U s)])):=by
 refine sy' Tryz.func170 (q' 2 [aU false] (q' 3 [am 0,aY .eql 3 [115,116,97,116,101],am 4,aH 5 false [bm 0,bY .eql 6 [101,118,101,110,116]],aQ 5 7,am 8,aH 9 false [bm 0,bY .eql 10 [118,105,101,119]],aQ 9 11,am 12,aH 13 false [bm 0,bY .eql 14 [110,111,116]],aQ 13 15,aV 2] .ret)) [.t 2] [] ?_;intro hb hE;simp only[go_sem];repeat' first|apply cj'|intro hc|exact om'|fail
 all_goals(first|rfl)
def a6r:CT:=o9 (fun(x:(List UInt8))=>c1u x)
@[go_sem] def c9t:=fun s=>nm' (fQ' a6r rfl s)
def b0M(t:d4):spZ 249 [(true,[.s t.Var,.i .i64 t.Val.N,.s t.Val.S])] [] (.one (false,[.b (s6 t)])):=by
 refine sy' Tryz.func249 (q' 1 [aX 3 0,aU false] (.seq (q' 3 [aG 0 1,aY .neq 4 []] (ci 5 (q' 6 [aG 0 1,ac 183 [7],am 8,aH 9 true [bf 1 1,bE 2,bo (.bld [.i .i64,.s] []),bo (.eqs false [.i .i64,.s] (.t 11) (.t 12))],aP 9 13,aV 2] .ret))) (q' 15 [af 1 1,aE 2,ac 312 [16],am 17,aH 18 true [bf 1 1,bF 1,bL,bc 96 [21],bO 22],aP 18 23,aV 2] .ret))) [.t 2] [(183,[],a5n),(312,[],a1d),(96,[],a0K)] ?_;intro hb hE;simp only[go_sem];repeat' first|apply cj'|intro hc|exact om'|fail
 all_goals(first|(rw[s6,hc];rfl)|(have hc2:(!(t.Var==[]))=true:=hc;rw[s6,hc2];rfl)|(have hc2:(!(t.Var==[]))=false:=hc;rw[s6,hc2];rfl))
def a2s:CT:=o9 (fun(x:d4)=>b0M x)
@[go_sem] def c2u:=fun x0 x1 x2=>nm' (fQ' a2s rfl ⟨x0,⟨x1,x2⟩⟩)
def b6X(t:d4):spZ 80 [(true,[.s t.Var,.i .i64 t.Val.N,.s t.Val.S])] [] (.one (false,[.b (s6 t)])):=by
 refine sy' Tryz.func80 (q' 1 [aX 3 0,aU false] (.seq (q' 3 [aG 0 1,aY .neq 4 []] (ci 5 (q' 6 [aG 0 1,ac 167 [7],am 8,aH 9 true [bf 1 1,bE 2,bo (.bld [.i .i64,.s] []),bo (.eqs false [.i .i64,.s] (.t 11) (.t 12))],aP 9 13,aV 2] .ret))) (q' 15 [af 1 1,aE 2,ac 168 [16],am 17,aH 18 true [bf 1 1,bF 1,bL,bc 170 [21],bO 22],aP 18 23,aV 2] .ret))) [.t 2] [(167,[],a5j),(168,[],a1b),(170,[],a6r)] ?_;intro hb hE;simp only[go_sem];repeat' first|apply cj'|intro hc|exact om'|fail
 all_goals(first|(rw[s6,hc];rfl)|(have hc2:(!(t.Var==[]))=true:=hc;rw[s6,hc2];rfl)|(have hc2:(!(t.Var==[]))=false:=hc;rw[s6,hc2];rfl))
def a2B:CT:=o9 (fun(x:d4)=>b6X x)
@[go_sem] def c6O:=fun x0 x1 x2=>nm' (fQ' a2B rfl ⟨x0,⟨x1,x2⟩⟩)
def b6M(t:d4):spZ 79 [(true,[.s t.Var,.i .i64 t.Val.N,.s t.Val.S])] [] (.one (false,[.b (!s6 t)])):=by
 refine sy' Tryz.func79 (q' 1 [aX 3 0,aU false] (q' 3 [ae 3 1,ac 80 [3],aO 4,aV 2] .ret)) [.t 2] [(80,[],a2B)] ?_;intro hb hE;simp only[go_sem];repeat' first|apply cj'|intro hc|exact om'|fail
 all_goals(first|rfl)
def a7E:CT:=o9 (fun(x:d4)=>b6M x)
@[go_sem] def c6D:=fun x0 x1 x2=>nm' (fQ' a7E rfl ⟨x0,⟨x1,x2⟩⟩)
@[go_sem] def b3q:ACode:=q' 4 [aK 0] (.seq (q' 6 [am 0,aN,aK 0] (fO 0 9 [ar 8 7] 9 1 (q' 10 [am 8,aV 5] (q' 11 [aM [1,0,5],aI 3,aE 3,ao (.callv (.t 11) [.t 15])] (ci 16 (q' 17 [am 5,aV
 4] .ret)))) (g' 18 [aA 8]))) (q' 4 [ao (.mov (.k (.v false [.c (.i .i64 (-1))])))] .ret))
def c7D(l:List d4):spZ 169 [(false,[n9 l]),(false,[.f 79 []])] [] (.one (false,[.i .i64 ((a0W l.length (fun i=>!s6 (l.getD i default)):Nat)-(bif l.all s6 then l.length+1 else 0:Nat))])):=by
 refine sy' Tryz.func169 b3q [.t 4] [(79,[],a7E)] ?_;intro hb hE;simp only[go_sem];repeat' first|apply cj'|intro hc|exact om'|fail
 refine lq' false [0,1,7] [] [] (fun i:{i:Nat // i<=l.length/\(l.take i).all s6=true/\∀j,j<i->(!s6 (l.getD j default))=false}=>[(8,slV (.i .i64 i.1))]) nl' nl' (fun i=>l.length-i.1) (⟨0,by simp⟩) ?_;intro S0 hS0 i;obtain⟨i,hi,ha,hf⟩:=i;simp only[go_sem,hS0];repeat' first|apply cj'|intro hc|exact om'|fail
 ·have hc2:s6 (l.getD i default)=false:=by simpa using hc
  rw[all_false (by omega) hc2,a2M hf (by rw[hc2];rfl) (show i<l.length by omega)];simp
 ·have hc2:s6 (l.getD i default)=true:=by simpa using hc
  exact nx0 ⟨i+1,by omega,by rw[A7q (d:=default) (by omega),ha,hc2];rfl,fun j hj=>(q2U.1 hj).elim (hf j) (fun q=>by rw[q,hc2];rfl)⟩
 ·rw[all_of_take (by omega) ha,a3W fun j hj=>hf j (by omega),W4];omega
def b7K:CT:=o9 (fun(x:(List d4))=>c7D x)
@[go_sem] def d1j:=fun l=>nm' (fQ' b7K rfl l)
@[go_sem] def b3p:ACode:=q' 4 [aU false] (q' 5 [aM [0,1],ac 169 [5,6],aC .geq 7 0,aV 4] .ret)
def c7C(l:List d4):spZ 78 [(false,[n9 l]),(false,[.f 79 []])] [] (.one (false,[.b (!l.all s6)])):=by
 refine sy' Tryz.func78 b3p [.t 4] [(169,[],b7K)] ?_;intro hb hE;simp only[go_sem];repeat' first|apply cj'|intro hc|exact om'|fail
 ·have:=c7v l.length (fun i=>!s6 (l.getD i default));cases l.all s6 with
  | true=>simp only[W4,q4D];exact V3 (by omega)
  | false=>simp only[W6,q3B];exact V0 (by omega)
def b7J:CT:=o9 (fun(x:(List d4))=>c7C x)
@[go_sem] def d1i:=fun l=>nm' (fQ' b7J rfl l)
def k8(e:c9)(t:d4):d5×Bool:=bif t.Var==[]then(t.Val,true)else y4 e t.Var
def b4Z(e:c9)(t:d4):spZ 171 [(true,[u9 e.Binds]),(true,[.s t.Var,.i .i64 t.Val.N,.s t.Val.S])] [] (.tup [(true,[.i .i64 (((k8 e t).1).N),.s (((k8 e t).1).S)]),(false,[.b ((k8 e t).2)])]):=by
 refine sy' Tryz.func171 (q' 2 [aX 1 0,aX 3 1,aw [.i .i64,.s],aU false] (.seq (q' 6 [aG 0 3,aY .eql 7 []] (ci 8 (q' 9 [af 1 3,aE 2,aS 2 4 10,ab 5 true] .ret))) (q' 11 [ae 1 2,aG 0 3,ac 260 [11,13],aZ 14 0,aZ 14 1,aS 2 4 15,aV 5] .ret))) [.c 4 true 2,.t 5] [(260,[],a9a)] ?_;intro hb hE;simp only[go_sem];repeat' first|apply cj'|intro hc|exact om'|fail
 all_goals(first|(rw[k8,hc];exact⟨⟨rfl,rfl⟩,rfl⟩))
def a1c:CT:=o9 (fun(x:c9×d4)=>b4Z x.1 x.2)
@[go_sem] def c4E:=fun x0 x1 x2 x3=>nm' (fQ' a1c rfl (⟨x0⟩,⟨x1,⟨x2,x3⟩⟩))
def v8(e:c9)(args:List d4):d3×Bool:=bif args.all (fun t=>(k8 e t).2)then(⟨args.map fun t=>(k8 e t).1⟩,true)else(default,false)
def a4v{α β:Type}(f:α->β){l:List α}{i:Nat}{d:α}(h:i<l.length):(l.take i).map f++[f (l.getD i d)]=(l.take (i+1)).map f:=by
 rw[q4A,q1U,q0E,V4 h];rfl
def c1v(e:c9)(args:List d4)(hpre:args.length<=6):spZ 81 [(true,[u9 e.Binds]),(false,[n9 args])] [] (.tup [(true,[a5s (((v8 e args).1).V)]),(false,[.b ((v8 e args).2)])]):=by
 refine sx' true false none Tryz.func81 (q' 2 [aX 1 0,ax (w' 4 [.sl l3]),ab 5 false] (q' 6 [ax (o' 11 (.bld [.sl l3] [])),aw [.sl l3],aS 1 6 11] (.seq (q' 12 [am 1,aN,aK 0] (fO 0 15 [ar 14 13] 15 1 (q' 16 [ai 3 12 14,aE 3,ax (w' 8 [.s,.i .i64,.s]),aS 3 8 17] (q' 19 [ae 1 2,ae 3 8,ac 171 [19,20],aV 18,aZ 18 0,aZ 18 1,ax (w' 9 [.i .i64,.s]),aS 2 9 22,aV 10] (.seq (q' 24 [am 10,aO 24] (ci 25 (q' 26 [ao (.bld [.sl l3] []),aS 1 4 26,ab 5 false] .ret))) (g' 27 [aG 0 6,ae 2 9,ao (.bsl 2 1 [.i .i64,.s] [(0,.t 29)]),ao (.app 2 24 [.i .i64,.s] (.t 28) (.t 30)),af 0 6,aS 1 32 31])))) (g' 33 [aA 14]))) (q' 34 [ae 1 6,aS 1 4 34,ab 5 true] .ret)))) [.c 4 true 1,.t 5] [(171,[],a1c)] ?_;intro hb hE;simp only[go_sem,V9];repeat' first|apply cj'|intro hc|exact om'|fail
 refine lk' true [(true,12,0,3968)] [2,4,6,12,13] [4] [] (fun i:{i:Nat // i<=args.length/\(args.take i).all (fun t=>(k8 e t).2)=true}=>[(14,slV (.i .i64 i.1))]) (fun i=>[(8,[.nl l3]),(12,[.ow 3968])]) (fun i=>[(3968,l3,((args.take i.1).map fun t=>(k8 e t).1).map d5.cells)]) (fun i=>args.length-i.1) (⟨0,by simp⟩) ?_;intro S0 hS0 i;obtain⟨i,hi,ha⟩:=i;simp only[go_sem,V9,hS0];repeat' first|apply cj'|intro hc|exact om'|fail
 ·rw[v8,all_false (p:=fun t=>(k8 e t).2) (d:=default) (i:=i) (by omega) hc];exact⟨rfl,rfl⟩
 ·(refine lpK_n2 (⟨i+1,by omega,by rw[A7q (d:=default) (by omega),ha,hc];rfl⟩) _ (by simp only[go_sem,V9];try rfl) ?_;simp only[go_sem,V9,hS0]<;>repeat' first|apply V1|exact on'|fail)
  all_goals(rw[<-a4v (fun t=>(k8 e t).1) (d:=default) (show i<args.length by omega)])
 ·rw[v8,all_of_take (by omega) ha,q1S (by omega)];exact⟨rfl,rfl⟩
def a3Q:CT:=p6 (fun(x:c9×(List d4)) h=>c1v x.1 x.2 h)
@[go_sem] def c9u:=fun x0 x1=>nm' (fP' a3Q rfl (⟨x0⟩,x1))
def a7a(e:c9)(args:List d4)(hpre:args.length<=6):spZ 178 [(true,[u9 e.Binds]),(false,[n9 args])] [] (.tup [(true,[a5s (((v8 e args).1).V)]),(false,[.b ((v8 e args).2)])]):=by
 refine sx' true false none Tryz.func178 (q' 2 [aX 1 0,ax (w' 4 [.sl l3]),ab 5 false] (q' 6 [ax (o' 12 (.bld [.sl l3] [])),aw [.sl l3],aS 1 6 12] (.seq (q' 13 [am 1,aN,aK 0] (fO 0 16 [ar 15 14] 16 1 (q' 17 [ai 3 13 15,aE 3,ax (w' 8 [.s,.i .i64,.s]),aS 3 8 18] (q' 19 [af 1 8,aE 2,ax (w' 9 [.i .i64,.s]),aS 2 9 20] (.seq (q' 21 [aG 0 8,aY .neq 22 []] (ci 23 (q' 25 [ae 1 2,aG 0 8,ac 254 [25,27],aV 24,aZ 24 0,aZ 24 1,ax (w' 10 [.i .i64,.s]),aS 2 10 29,aV 11] (.seq (q' 31 [am 11,aO 31] (ci 32 (q' 33 [ao (.bld [.sl l3] []),aS 1 4 33,ab 5 false] .ret))) (g' 34 [ae 2 10,aS 2 9 34]))))) (g' 35 [aG 0 6,ae 2 9,ao (.bsl 2 1 [.i .i64,.s] [(0,.t 37)]),ao (.app 2 24 [.i .i64,.s] (.t 36) (.t 38)),af 0 6,aS 1 40 39])))) (g' 41 [aA 15]))) (q' 42 [ae 1 6,aS 1 4 42,ab 5 true] .ret)))) [.c 4 true 1,.t 5] [(254,[],a2F)] ?_;intro hb hE;simp only[go_sem,V9];repeat' first|apply cj'|intro hc|exact om'|fail
 refine lk' true [(true,12,0,4992)] [2,4,6,13,14] [4] [] (fun i:{i:Nat // i<=args.length/\(args.take i).all (fun t=>(k8 e t).2)=true}=>[(15,slV (.i .i64 i.1))]) (fun i=>[(8,[.nl l3]),(12,[.ow 4992])]) (fun i=>[(4992,l3,((args.take i.1).map fun t=>(k8 e t).1).map d5.cells)]) (fun i=>args.length-i.1) (⟨0,by simp⟩) ?_;intro S0 hS0 i;obtain⟨i,hi,ha⟩:=i;simp only[go_sem,V9,hS0];repeat' first|apply cj'|intro hc|exact om'|fail
 ·rename_i h1;have hv:k8 e (args.getD i default)=y4 e (args.getD i default).Var:=by
   have:((args.getD i default).Var==[])=false:=by simpa using h1
   rw[k8,this];rfl
  rw[v8,all_false (p:=fun t=>(k8 e t).2) (d:=default) (i:=i) (by omega) (by simp only[hv];exact hc)];exact⟨rfl,rfl⟩
 ·rename_i h1;have hv:k8 e (args.getD i default)=y4 e (args.getD i default).Var:=by
   have:((args.getD i default).Var==[])=false:=by simpa using h1
   rw[k8,this];rfl
  (refine lpK_n2 (⟨i+1,by omega,by rw[A7q (d:=default) (by omega),ha,hv,hc];rfl⟩) _ (by simp only[go_sem,V9];try rfl) ?_;simp only[go_sem,V9,hS0]<;>repeat' first|apply V1|exact on'|fail)
  all_goals(rw[<-a4v (fun t=>(k8 e t).1) (d:=default) (show i<args.length by omega),hv])
 ·have hv:k8 e (args.getD i default)=((args.getD i default).Val,true):=by
   have:((args.getD i default).Var==[])=true:=by simpa using hc
   rw[k8,this];rfl
  (refine lpK_n2 (⟨i+1,by omega,by rw[A7q (d:=default) (by omega),ha,hv];rfl⟩) _ (by simp only[go_sem,V9];try rfl) ?_;simp only[go_sem,V9,hS0]<;>repeat' first|apply V1|exact on'|fail)
  all_goals(rw[<-a4v (fun t=>(k8 e t).1) (d:=default) (show i<args.length by omega),hv])
 ·rw[v8,all_of_take (by omega) ha,q1S (by omega)];exact⟨rfl,rfl⟩
def a6N:CT:=p6 (fun(x:c9×(List d4)) h=>a7a x.1 x.2 h)
@[go_sem] def c5f:=fun x0 x1=>nm' (fP' a6N rfl (⟨x0⟩,x1))
def a3a(e:c9)(args:List d4):d3×Bool:=bif b1q e&&args.all s6&&decide ((args.length:Int)<=6)then v8 e args else(default,false)
def b1u(e:c9)(args:List d4):spZ 25 [(true,[u9 e.Binds]),(false,[n9 args])] [] (.tup [(true,[a5s (((a3a e args).1).V)]),(false,[.b ((a3a e args).2)])]):=by
 refine sx' true false none Tryz.func25 (q' 2 [aX 1 0,ax (w' 4 [.sl l3]),ab 5 false] (.seq (q' 6 [ae 1 2,ac 77 [6],aO 7,am 8,aH 9 false [bm 1,bN,bC .gtr 11 6],aQ 9 12,am 13,aH 14 false [bm 1,bo (.call 78 [.t 15,.k (.v false [.c (.f 79 [])])])],aQ 14 16] (ci 17 (q' 18 [ao (.bld [.sl l3] []),aS 1 4 18,ab 5 false] .ret))) (q' 19 [ae 1 2,am 1,ac 81 [19,20],aZ 21 0,aZ 21 1,aS 1 4 22,aV 5] .ret))) [.c 4 true 1,.t 5] [(77,[],a8T),(78,[],b7J),(81,[],a3Q)] ?_;intro hb hE;simp only[go_sem];repeat' first|apply cj'|intro hc|exact om'|fail
 ·rcases hc with(h|h)|h
  ·rw[a3a,h];exact⟨rfl,rfl⟩
  ·rw[a3a,V3 (p:=(args.length:Int)<=6) (by omega),q2T];exact⟨rfl,rfl⟩
  ·have h:args.all s6=false:=by simpa using h
   rw[a3a,h,q2T];exact⟨rfl,rfl⟩
 ·rw[a3a,hc.1.1,V0 (p:=(args.length:Int)<=6) (by omega),show args.all s6=true by simpa using hc.2];exact⟨rfl,rfl⟩
def c0F:CT:=o9 (fun(x:c9×(List d4))=>b1u x.1 x.2)
@[go_sem] def c9s:=fun x0 x1=>nm' (fQ' c0F rfl (⟨x0⟩,x1))
def c5C(s:List UInt8):Bool:=a0X s&&!a4U s
def a2Y(a:f7):Bool:=c5C a.Name&&decide ((a.Args.length:Int)<=6)&&a.Args.all s6
def b8r(t:d4):Bool:=t.Var==[]&&(t.Val.N==0&&t.Val.S==[])
def a1U(l:d7):Bool:=bif l.Kind==3 then decide (1<=l.Op)&&decide (l.Op<=4)&&l.Atom.Name==[]&&(l.Atom.Args.length:Int)==0&&s6 l.A&&s6 l.B else(l.Kind==1||l.Kind==2)&&a2Y l.Atom&&l.Op==0&&b8r l.A&&b8r l.B
def l4(r:c6):Bool:=decide (1<=r.Kind)&&decide (r.Kind<=3)&&a2Y r.Head&&decide ((r.Body.length:Int)<=8)&&r.Body.all a1U
def declB(d:i3):Bool:=decide (1<=d.Kind)&&decide (d.Kind<=3)&&c5C d.Name&&(decide (0<=d.Arity)&&decide (d.Arity<=6))
def progB(p:d9):Bool:=p.Decls.all declB&&decide ((p.Decls.length:Int)<=16)&&decide ((p.Rules.length:Int)<=24)&&p.Rules.all l4
def b5r(s:List UInt8):spZ 125 [(false,[.s s])] [] (.one (false,[.b (c5C s)])):=by
 refine sy' Tryz.func125 (q' 2 [aU false] (q' 3 [am 0,ac 160 [3],am 4,aH 5 true [bm 0,bc 96 [6],bO 7],aP 5 8,aV 2] .ret)) [.t 2] [(160,[],a0V),(96,[],a0K)] ?_;intro hb hE;simp only[go_sem];repeat' first|apply cj'|intro hc|exact om'|fail
 all_goals(first|rfl)
def a6H:CT:=o9 (fun(x:(List UInt8))=>b5r x)
@[go_sem] def c4X:=fun s=>nm' (fQ' a6H rfl s)
def b6V(s:List UInt8):spZ 129 [(false,[.s s])] [] (.one (false,[.b (c5C s)])):=by
 refine sy' Tryz.func129 (q' 2 [aU false] (q' 3 [am 0,ac 149 [3],am 4,aH 5 true [bm 0,bc 170 [6],bO 7],aP 5 8,aV 2] .ret)) [.t 2] [(149,[],a2z),(170,[],a6r)] ?_;intro hb hE;simp only[go_sem];repeat' first|apply cj'|intro hc|exact om'|fail
 all_goals(first|rfl)
def a7J:CT:=o9 (fun(x:(List UInt8))=>b6V x)
@[go_sem] def c6M:=fun s=>nm' (fQ' a7J rfl s)
def b0K(a:f7):spZ 155 [(true,[.s a.Name,n9 a.Args])] [] (.one (false,[.b (a2Y a)])):=by
 refine sy' Tryz.func155 (q' 1 [aX 2 0,aU false] (.seq (q' 5 [aG 0 1,ac 125 [6],aO 7,am 8,aH 9 false [bf 1 1,bL,bN,bC .gtr 12 6],aQ 9 13] (ci 14 (q' 2 [aU false] .ret))) (.seq (q' 15 [aG 1 1,aN,aK 0] (fO 0 19 [ar 18 17] 19 1 (q' 20 [ai 3 16 18,aE 3,ax (w' 4 [.s,.i .i64,.s]),aS 3 4 21] (q' 22 [ae 3 4,ac 249 [22],aO 23] (ci 24 (q' 2 [aU false] .ret)))) (g' 25 [aA 18]))) (q' 2 [aU true] .ret)))) [.t 2] [(125,[],a6H),(249,[],a2s)] ?_;intro hb hE;simp only[go_sem];repeat' first|apply cj'|intro hc|exact om'|fail
 ·rcases hc with h|h
  ·rw[a2Y,h];rfl
  ·rw[a2Y,V3 (p:=(a.Args.length:Int)<=6) (by omega)];simp
 have hh:=hc;refine lq' false [16,17] [] [] (fun i:{i:Nat // i<=a.Args.length/\(a.Args.take i).all s6=true}=>[(18,slV (.i .i64 i.1))]) nl' nl' (fun i=>a.Args.length-i.1) (⟨0,by simp⟩) ?_;intro S0 hS0 i;obtain⟨i,hi,ha⟩:=i;simp only[go_sem,hS0];repeat' first|apply cj'|intro hc|exact om'|fail
 ·rw[a2Y,all_false (by omega) hc,q2T]
 ·exact nx0 ⟨i+1,by omega,a2H default (by omega) ha hc⟩
 ·rw[a2Y,all_of_take (by omega) ha,hh.1,V0 (by omega)];rfl
def a2r:CT:=o9 (fun(x:f7)=>b0K x)
@[go_sem] def c2s:=fun x0 x1=>nm' (fQ' a2r rfl ⟨x0,x1⟩)
def b2J(l:d7):spZ 156 [(true,[.i .i64 l.Kind,.s l.Atom.Name,n9 l.Atom.Args,.i .i64 l.Op,.s l.A.Var,.i .i64 l.A.Val.N,.s l.A.Val.S,.s l.B.Var,.i .i64 l.B.Val.N,.s l.B.Val.S])] [] (.one (false,[.b (a1U l)])):=by
 refine sy' Tryz.func156 (q' 1 [aX 10 0,aU false] (.seq (q' 4 [aG 0 1,aC .eql 5 3] (ci 6 (q' 7 [aG 3 1,aC .geq 8 1,am 9,aH 10 true [bf 3 1,bL,bC .leq 12 4],aP 10 13,am 14,aH 15 true [bf 1 1,bF 0,bL,bY .eql 18 []],aP 15 19,am 20,aH 21 true [bf 1 1,bF 1,bL,bN,bC .eql 25 0],aP 21 26,am 27,aH 28 true [bf 4 1,bE 3,bc 249 [30]],aP 28 31,am 32,aH 33 true [bf 7 1,bE 3,bc 249 [35]],aP 33 36,aV 2] .ret))) (q' 3 [ax (o' 38 (.bld [.s,.i .i64,.s] [])),aw [.s,.i .i64,.s],aS 3 3 38] (q' 39 [aG 0 1,aC .eql 40 1,am 41,aH 42 false [bf 0 1,bL,bC .eql 44 2],aQ 42 45,am 46,aH 47 true [bf 1 1,bE 2,bc 155 [49]],aP 47 50,am 51,aH 52 true [bf 3 1,bL,bC .eql 54 0],aP 52 55,am 56,aH 57 true [bf 4 1,bE 3,be 3 3,bo (.eqs false [.s,.i .i64,.s] (.t 59) (.t 60))],aP 57 61,am 62,aH 63 true [bf 7 1,bE 3,be 3 3,bo (.eqs false [.s, .i .i64,.s] (.t 65) (.t 66))],aP 63 67,aV 2] .ret)))) [.t 2] [(249,[],a2s),(155,[],a2r)] ?_;intro hb hE;simp only[go_sem];repeat' first|apply cj'|intro hc|exact om'|fail
 ·rw[a1U,hc];rfl
 ·rw[a1U,hc];rfl
def a5H:CT:=o9 (fun(x:d7)=>b2J x)
@[go_sem] def c3v:=fun x0 x1 x2 x3 x4 x5 x6 x7 x8 x9=>nm' (fQ' a5H rfl ⟨x0,⟨x1,x2⟩,x3,⟨x4,⟨x5,x6⟩⟩,⟨x7,⟨x8,x9⟩⟩⟩)
def b0L(r:c6):spZ 73 [(true,[.i .i64 r.Kind,.s r.Head.Name,n9 r.Head.Args,a0r r.Body])] [] (.one (false,[.b (l4 r)])):=by
 refine sy' Tryz.func73 (q' 1 [aX 4 0,aU false] (.seq (q' 4 [aG 0 1,aC .lss 5 1,am 6,aH 7 false [bf 0 1,bL,bC .gtr 9 3],aQ 7 10,am 11,aH 12 false [bf 1 1,bE 2,bc 155 [14],bO 15],aQ 12 16,am 17,aH 18 false [bf 3 1,bL,bN,bC .gtr 21 8],aQ 18 22] (ci 23 (q' 2 [aU false] .ret))) (.seq (q' 24 [aG 3 1,aN,aK 0] (fO 0 28 [ar 27 26] 28 1 (q' 29 [am 27,aV 3] (q' 30 [aG 3 1,am 3,aI 10,aE 10,ac 156 [34],aO 35] (ci 36 (q' 2 [aU false] .ret)))) (g' 37 [aA 27]))) (q' 2 [aU true] .ret)))) [.t 2] [(156,[],a5H),(155,[],a2r)] ?_;intro hb hE;simp only[go_sem];repeat' first|apply cj'|intro hc|exact om'|fail
 ·rcases hc with((h|h)|h)|h
  ·rw[l4,V3 (p:=1<=r.Kind) (by omega)];simp
  ·rw[l4,V3 (p:=r.Kind<=3) (by omega)];simp
  ·rw[l4,h];simp
  ·rw[l4,V3 (p:=(r.Body.length:Int)<=8) (by omega)];simp
 have hh:=hc;refine lq' false [1,26] [2] [] (fun i:{i:Nat // i<=r.Body.length/\(r.Body.take i).all a1U=true}=>[(27,slV (.i .i64 i.1))]) nl' nl' (fun i=>r.Body.length-i.1) (⟨0,by simp⟩) ?_;intro S0 hS0 i;obtain⟨i,hi,ha⟩:=i;simp only[go_sem,hS0];repeat' first|apply cj'|intro hc|exact om'|fail
 ·rw[l4,all_false (by omega) hc,q2T]
 ·exact nx0 ⟨i+1,by omega,a2H default (by omega) ha hc⟩
 ·rw[l4,all_of_take (by omega) ha,hh.1.2,V0 (by omega),V0 (by omega),V0 (by omega)];rfl
def a1m:CT:=o9 (fun(x:c6)=>b0L x)
@[go_sem] def c2t:=fun x0 x1 x2 x3=>nm' (fQ' a1m rfl ⟨x0,⟨x1,x2⟩,x3⟩)
def b2u(t:d4):spZ 240 [(true,[.s t.Var,.i .i64 t.Val.N,.s t.Val.S])] [] (.one (false,[.b (!s6 t)])):=by
 refine sy' Tryz.func240 (q' 1 [aX 3 0,aU false] (q' 3 [ae 3 1,ac 80 [3],aO 4,aV 2] .ret)) [.t 2] [(80,[],a2B)] ?_;intro hb hE;simp only[go_sem];repeat' first|apply cj'|intro hc|exact om'|fail
 all_goals(first|rfl)
def a5A:CT:=o9 (fun(x:d4)=>b2u x)
@[go_sem] def c3g:=fun x0 x1 x2=>nm' (fQ' a5A rfl ⟨x0,⟨x1,x2⟩⟩)
def b4N(l:List d4):spZ 169 [(false,[n9 l]),(false,[.f 240 []])] [] (.one (false,[.i .i64 (a5U (fun y=>!s6 y) l)])):=by
 refine sy' Tryz.func169 b3q [.t 4] [(240,[],a5A)] ?_;intro hb hE;simp only[go_sem];repeat' first|apply cj'|intro hc|exact om'|fail
 refine lq' false [0,1,7] [] [] (fun i:{i:Nat // i<=l.length/\(l.take i).any (fun y=>!s6 y)=false}=>[(8,slV (.i .i64 i.1))]) nl' nl' (fun i=>l.length-i.1) (⟨0,by simp⟩) ?_;intro S0 hS0 i;obtain⟨i,hi,ha⟩:=i;simp only[go_sem,hS0];repeat' first|apply cj'|intro hc|exact om'|fail
 ·exact(a2w (p:=fun y=>!s6 y) (d:=default) (by omega) ha (by simpa[-List.getD_eq_getElem?_getD]using hc)).symm
 ·exact nx0 ⟨i+1,by omega,a1W (p:=fun y=>!s6 y) default (by omega) ha (by simpa[-List.getD_eq_getElem?_getD]using hc)⟩
 ·exact(a1O (by rwa [k6 (by omega)]at ha)).symm
def a6p:CT:=o9 (fun(x:(List d4))=>b4N x)
@[go_sem] def c4r:=fun l=>nm' (fQ' a6p rfl l)
def b4L(l:List d4):spZ 78 [(false,[n9 l]),(false,[.f 240 []])] [] (.one (false,[.b (l.any (fun y=>!s6 y))])):=by
 refine sy' Tryz.func78 b3p [.t 4] [(169,[],a6p)] ?_;intro hb hE;simp only[go_sem];repeat' first|apply cj'|intro hc|exact om'|fail
 ·exact a9o _ _
def a6n:CT:=o9 (fun(x:(List d4))=>b4L x)
@[go_sem] def c4p:=fun l=>nm' (fQ' a6n rfl l)
def b6Q(a:f7):spZ 145 [(true,[.s a.Name,n9 a.Args])] [] (.one (false,[.b (a2Y a)])):=by
 refine sy' Tryz.func145 (q' 1 [aX 2 0,aU false] (q' 3 [aG 0 1,ac 129 [4],am 5,aH 6 true [bf 1 1,bL,bN,bC .leq 9 6],aP 6 10,am 11,aH 12 true [bf 1 1,bL,bo (.call 78 [.t 14,.k (.v false [.c (.f 240 [])])]),bO 15],aP 12 16,aV 2] .ret)) [.t 2] [(129,[],a7J),(78,[],a6n)] ?_;intro hb hE;simp only[go_sem];repeat' first|apply cj'|intro hc|exact om'|fail
 all_goals(rw[a2Y];grind)
def a4m:CT:=o9 (fun(x:f7)=>b6Q x)
@[go_sem] def c6H:=fun x0 x1=>nm' (fQ' a4m rfl ⟨x0,x1⟩)
def b9u(l:d7):spZ 148 [(true,[.i .i64 l.Kind,.s l.Atom.Name,n9 l.Atom.Args,.i .i64 l.Op,.s l.A.Var,.i .i64 l.A.Val.N,.s l.A.Val.S,.s l.B.Var,.i .i64 l.B.Val.N,.s l.B.Val.S])] [] (.one (false,[.b (a1U l)])):=by
 refine sy' Tryz.func148 (q' 1 [aX 10 0,aU false] (.seq (q' 3 [aG 0 1] (.block 0 (.seq (q' 6 [aC .eql 4 1,aV 5] (cd 5 .skip (g' 7 [aC .eql 4 2,aV 5]))) (cd 5 (q' 8 [af 1 1,aE 2,ac 145 [9],am 10,aH 11 true [bf 3 1,bL,bC .eql 13 0],aP 11 14,am 15,aH 16 true [bf 4 1,bE 3,bo (.bld [.s,.i .i64,.s] []),bo (.eqs false [.s,.i .i64,.s] (.t 18) (.t 19))],aP 16 20,am 21,aH 22 true [bf 7 1,bE 3,bo (.bld [.s,.i .i64,.s] []),bo (.eqs false [.s,.i .i64,.s] (.t 24) (.t 25))],aP 22 26,aV 2] .ret) (q' 29 [aC .eql 4 3,aV 28] (ci 28 (q' 30 [aG 3 1,aC .geq 31 1,am 32,aH 33 true [bf 3 1,bL,bC .leq 35 4],aP 33 36,am 37,aH 38 true [bf 1 1,bF 0,bL,bY .eql 41 []],aP 38 42,am 43,aH 44 true [bf 1 1,bF 1,bL,bN,bC .eql 48 0],aP 44 49,am 50,aH 51 true [bf 4 1,bE 3,bc 80 [53]],aP 51 54,am 55,aH 56 true [bf 7 1,bE 3,bc 80 [58]],aP 56 59,aV 2] .ret))))))) (q' 2 [aU false] .ret))) [.t 2] [(80,[],a2B),(145,[],a4m)] ?_;intro hb hE;simp only[go_sem];repeat' first|apply cj'|intro hc|exact om'|fail
 all_goals(first|rfl|(clear hb;(try simp only[b3a,q5Q]);first|rfl|(simp only[a1U,b8r];done)|grind [a1U,b8r]))
def a8Y:CT:=o9 (fun(x:d7)=>b9u x)
@[go_sem] def c8p:=fun x0 x1 x2 x3 x4 x5 x6 x7 x8 x9=>nm' (fQ' a8Y rfl ⟨x0,⟨x1,x2⟩,x3,⟨x4,⟨x5,x6⟩⟩,⟨x7,⟨x8,x9⟩⟩⟩)
def b2y(l:d7):spZ 147 [(true,[.i .i64 l.Kind,.s l.Atom.Name,n9 l.Atom.Args,.i .i64 l.Op,.s l.A.Var,.i .i64 l.A.Val.N,.s l.A.Val.S,.s l.B.Var,.i .i64 l.B.Val.N,.s l.B.Val.S])] [] (.one (false,[.b (!a1U l)])):=by
 refine sy' Tryz.func147 (q' 1 [aX 10 0,aU false] (q' 3 [ae 10 1,ac 148 [3],aO 4,aV 2] .ret)) [.t 2] [(148,[],a8Y)] ?_;intro hb hE;simp only[go_sem];repeat' first|apply cj'|intro hc|exact om'|fail
 all_goals(first|rfl|(clear hb;(try simp only[b3a,q5Q]);first|rfl|(simp only[a1U];done)|grind [a1U]))
def a5D:CT:=o9 (fun(x:d7)=>b2y x)
@[go_sem] def c3k:=fun x0 x1 x2 x3 x4 x5 x6 x7 x8 x9=>nm' (fQ' a5D rfl ⟨x0,⟨x1,x2⟩,x3,⟨x4,⟨x5,x6⟩⟩,⟨x7,⟨x8,x9⟩⟩⟩)
def d0a(l:List d7):spZ 241 [(false,[a0r l]),(false,[.f 147 []])] [] (.one (false,[.i .i64 (a5U (fun y=>!a1U y) l)])):=by
 refine sy' Tryz.func241 (q' 4 [aK 0] (.seq (q' 6 [am 0,aN,aK 0] (fO 0 9 [ar 8 7] 9 1 (q' 10 [am 8,aV 5] (q' 11 [aM [1,0,5],aI 10,aE 10,ao (.callv (.t 11) [.t 15])] (ci 16 (q' 17 [am 5,aV 4] .ret)))) (g' 18 [aA 8]))) (q' 4 [ao (.mov (.k (.v false [.c (.i .i64 (-1))])))] .ret))) [.t 4] [(147,[],a5D)] ?_;intro hb hE;simp only[go_sem];repeat' first|apply cj'|intro hc|exact om'|fail
 refine lq' false [0,1,7] [] [] (fun i:{i:Nat // i<=l.length/\(l.take i).any (fun y=>!a1U y)=false}=>[(8,slV (.i .i64 i.1))]) nl' nl' (fun i=>l.length-i.1) (⟨0,by simp⟩) ?_;intro S0 hS0 i;obtain⟨i,hi,ha⟩:=i;simp only[go_sem,hS0];repeat' first|apply cj'|intro hc|exact om'|fail
 ·exact(a2w (p:=fun y=>!a1U y) (d:=default) (by omega) ha (by simpa[-List.getD_eq_getElem?_getD]using hc)).symm
 ·exact nx0 ⟨i+1,by omega,a1W (p:=fun y=>!a1U y) default (by omega) ha (by simpa[-List.getD_eq_getElem?_getD]using hc)⟩
 ·exact(a1O (by rwa [k6 (by omega)]at ha)).symm
def c0E:CT:=o9 (fun(x:(List d7))=>d0a x)
@[go_sem] def c_idxLit_eq:=fun l=>nm' (fQ' c0E rfl l)
def c9X(l:List d7):spZ 146 [(false,[a0r l]),(false,[.f 147 []])] [] (.one (false,[.b (l.any (fun y=>!a1U y))])):=by
 refine sy' Tryz.func146 (q' 4 [aU false] (q' 5 [aM [0,1],ac 241 [5,6],aC .geq 7 0,aV 4] .ret)) [.t 4] [(241,[],c0E)] ?_;intro hb hE;simp only[go_sem];repeat' first|apply cj'|intro hc|exact om'|fail
 ·exact a9o _ _
def c0B:CT:=o9 (fun(x:(List d7))=>c9X x)
@[go_sem] def c_conLit_eq:=fun l=>nm' (fQ' c0B rfl l)
def b6W(r:c6):spZ 69 [(true,[.i .i64 r.Kind,.s r.Head.Name,n9 r.Head.Args,a0r r.Body])] [] (.one (false,[.b (l4 r)])):=by
 refine sy' Tryz.func69 (q' 1 [aX 4 0,aU false] (q' 3 [aG 0 1,aC .geq 4 1,am 5,aH 6 true [bf 0 1,bL,bC .leq 8 3],aP 6 9,am 10,aH 11 true [bf 1 1,bE 2,bc 145 [13]],aP 11 14,am 15,aH 16 true [bf 3 1,bL,bN,bC .leq 19 8],aP 16 20,am 21,aH 22 true [bf 3 1,bL,bo (.call 146 [.t 24,.k (.v false [.c (.f 147 [])])]),bO 25],aP 22 26,aV 2] .ret)) [.t 2] [(145,[],a4m),(146,[],c0B)] ?_;intro hb hE;simp only[go_sem];repeat' first|apply cj'|intro hc|exact om'|fail
 all_goals(first|rfl|(clear hb;(try simp only[b3a,q5Q]);first|rfl|(simp only[l4];done)|grind [l4]))
def a2A:CT:=o9 (fun(x:c6)=>b6W x)
@[go_sem] def c6N:=fun x0 x1 x2 x3=>nm' (fQ' a2A rfl ⟨x0,⟨x1,x2⟩,x3⟩)
def c1x(n:Int)(most:Int):spZ 130 [(false,[.i .i64 n]),(false,[.i .i64 most])] [] (.one (false,[.b (decide (0<=n)&&decide (n<=most))])):=by
 refine sy' Tryz.func130 (q' 4 [aU false] (q' 5 [am 0,aC .geq 5 0,am 6,aH 7 true [bm 0,bm 1,bD .leq 8 9],aP 7 10,aV 4] .ret)) [.t 4] [] ?_;intro hb hE;simp only[go_sem];repeat' first|apply cj'|intro hc|exact om'|fail
 all_goals(first|rfl)
def b1n:CT:=o9 (fun(x:Int×Int)=>c1x x.1 x.2)
@[go_sem] def c9w:=fun n x0=>nm' (fQ' b1n rfl (n,x0))
def c9z(p:d9)(name:List UInt8):i3:=(p.Decls.find? fun d=>d.Name==name).getD default
def hasDecl(p:d9)(name:List UInt8):Bool:=p.Decls.any fun d=>d.Name==name
attribute [local irreducible] RM
def nxH(h:Int):Int:=IntKind.i64.wrap (IntKind.i64.wrap (h*6364136223846793005)+1442695040888963407)
def lo8(y:Int):Int:=IntKind.i64.wrap ((BitVec.ofInt 64 y&&& BitVec.ofInt 64 255).toNat:Nat)
def mixH(h:Int):Int:=lo8 (IntKind.i64.wrap ((BitVec.ofInt 64 (h.fdiv (2^min 33 64)) ^^^ BitVec.ofInt 64 (h.fdiv (2^min 45 64))).toNat:Nat))
def a1Y(c:c7):Int:=bif decide (c.i<c.b.length)then lo8 (IntKind.i64.wrap (mixH (nxH c.h)+IntKind.i64.wrap (c.b.getD c.i.toNat 0)))else mixH (nxH c.h)
def a0q(c:c7):c7:=⟨c.b,bif decide (c.i<c.b.length)then c.i+1 else c.i,nxH c.h⟩
def k7(c:c7):Prop:=(0<=c.i/\c.i<=c.b.length)/\c.b.length<=1048576
def lo8_bd(y:Int):0<=lo8 y/\lo8 y<=255:=by
 have h:(BitVec.ofInt 64 y&&& BitVec.ofInt 64 255).toNat<=255:=by
  rw[BitVec.toNat_and];exact q2J Nat.and_le_right (by decide)
 have e:lo8 y=((BitVec.ofInt 64 y&&& BitVec.ofInt 64 255).toNat:Nat):=by
  unfold lo8;exact IntWalk.i64_in _ ⟨by omega,by omega⟩
 rw[e];omega
def a6k(c:c7):0<=a1Y c/\a1Y c<=255:=by
 unfold a1Y mixH;cases decide (c.i<c.b.length)<;>exact lo8_bd _
def a2J{c:c7}(h:k7 c):k7 (a0q c):=by
 unfold k7 a0q at*;cases hd:decide (c.i<c.b.length)with
 | true=>simp only[W4];simp only[q0B]at hd;omega
 | false=>simp only[W6];omega
def b5f(c:c7)(hpre:k7 c):spZ 91 [(false,[.mp [.sl false [.i .u8 0] (c.b.map cU8),.i .i64 c.i,.i .i64 c.h]])] [(0,(false,[.mp [.sl false [.i .u8 0] (((a0q c).b).map cU8),.i .i64 ((a0q c).i),.i .i64 ((a0q c).h)]]))] (.one (false,[.i .i64 (a1Y c)])):=by
 refine sx' false false (some 0) Tryz.func91 (q' 2 [aK 0] (q' 4 [aM [0,0],ao (.nck (.t 5)),aG 2 6,aC .mul 8 6364136223846793005,aC .add 9 1442695040888963407,ao (.nck (.t 4)),aF 2,aS 1 12 10] (.seq (G' 13 [am 0,ao (.nck (.t 13)),aG 2 14,ao (.bin .shr (.t 16) (.k (.v false [.c (.i .u64 33)]))),am 0,ao (.nck (.t 18)),aG 2 19,ao (.bin .shr (.t 21) (.k (.v false [.c (.i .u64 45)]))),aD .xor 17 22,aC .and 23 255,aV 3]) (.seq (.seq (G' 25 [am 0,ao (.nck (.t 25)),aG 1 26,am 0,ao (.nck (.t 29)),aG 0 30,aN,ar 28 33]) (ci 34 (.seq (G' 35 [aM [3,0],ao (.nck (.t 36)),aG 0 37,am 0,ao (.nck (.t 40)),aG 1 41,ai 1 39 43,aL,ao (.cv .i64 (.t 45)),aD .add 35 46,aC .and 47 255,aV 3]) (g' 49 [aM [0,0],ao (.nck (.t 50)),aG 1 51,aC .add 53 1,ao (.nck (.t 49)),aF 1,aS 1 56 54])))) (q' 57 [am 3,aV 2] .ret))))) [.t 2] [] ?_;intro hb hE;obtain⟨⟨h0,h1⟩,h2⟩:=hpre;simp only[go_sem];repeat' first|apply cj'|intro hc|exact om'|fail
 ·have hw:IntKind.i64.wrap (c.i+1)=c.i+1:=w64 (by omega) (by omega) (by omega);rw[a1Y,a0q,V0 hc,hw];exact⟨rfl,rfl⟩
 ·rw[a1Y,a0q,V3 hc];exact⟨rfl,rfl⟩
def a6B:CT:=p6 (fun(x:c7) h=>b5f x h)
@[go_sem] def c4L:=fun x0 x1 x2=>nm' (fP' a6B rfl ⟨x0,x1,x2⟩)
def by4(c:c7):Int:=IntKind.i64.wrap (IntKind.i64.wrap (IntKind.i64.wrap (IntKind.i64.wrap (a1Y c*16777216)+IntKind.i64.wrap (a1Y (a0q c)*65536))+IntKind.i64.wrap (a1Y (a0q (a0q c))*256))+a1Y (a0q (a0q (a0q c))))
def i7(c:c7)(n:Int):Int:=bif decide (n<=0)then 0 else bif decide (n<=256)then(a1Y c).tmod n else(by4 c).tmod n
def i6(c:c7)(n:Int):c7:=bif decide (n<=0)then c else bif decide (n<=256)then a0q c else a0q (a0q (a0q (a0q c)))
def b2B(c:c7)(n:Int)(hpre:k7 c):spZ 33 [(false,[.mp [.sl false [.i .u8 0] (c.b.map cU8),.i .i64 c.i,.i .i64 c.h]]),(false,[.i .i64 n])] [(0,(false,[.mp [.sl false [.i .u8 0] (((i6 c n).b).map cU8),.i .i64 ((i6 c n).i),.i .i64 ((i6 c n).h)]]))] (.one (false,[.i .i64 (i7 c n)])):=by
 refine sx' false false (some 0) Tryz.func33 (q' 4 [aK 0] (.seq (q' 9 [am 1,aC .leq 9 0] (ci 10 (q' 4 [aK 0] .ret))) (.seq (q' 11 [am 1,aC .leq 11 256] (ci 12 (q' 13 [am 0,ac 91 [13],am 1,aD .rem 14 15,aV 4] .ret))) (q' 17 [am 0,ac 91 [17],aV 5] (q' 19 [am 0,ac 91 [19],aV 6] (q' 21 [am 0,ac 91 [21],aV 7] (q' 23 [am 0,ac 91 [23],aV 8] (q' 25 [am 5,aC .mul 25 16777216,am 6,aC .mul 27 65536,aD .add 26 28,am 7,aC .mul 30 256,aD .add 29 31,am 8,aD .add 32 33,am 1,aD .rem 34 35,aV 4] .ret)))))))) [.t 4] [(91,[0],a6B)] ?_;intro hb hE;have h1:=a2J hpre;have h2:=a2J h1;have h3:=a2J h2;simp only[go_sem];repeat' first|apply cj'|intro hc|exact om'|fail
 all_goals first
  | assumption
  | (rw[i7,i6,V0 hc];exact⟨rfl,rfl⟩)
  | (rename_i h;rw[i7,i6,V3 h,V0 hc];exact⟨rfl,rfl⟩)
  | (rename_i h;rw[i7,i6,V3 h,V3 hc];exact⟨rfl,rfl⟩)
  | trace_state
def l5:CT:=p6 (fun(x:c7×Int) h=>b2B x.1 x.2 h)
@[go_sem] def c3n:=fun x0 x1 x2 n=>nm' (fP' l5 rfl (⟨x0,x1,x2⟩,n))
def i8{c:c7}(h:k7 c)(n:Int):k7 (i6 c n):=by
 unfold i6;cases decide (n<=0)with
 | true=>exact h
 | false=>
   cases decide (n<=256)with
   | true=>exact a2J h
   | false=>exact a2J (a2J (a2J (a2J h)))
def by4_bd(c:c7):0<=by4 c:=by
 have h1:=a6k c;have h2:=a6k (a0q c);have h3:=a6k (a0q (a0q c));have h4:=a6k (a0q (a0q (a0q c)));unfold by4;rw[IntWalk.i64_in (a1Y c*16777216) ⟨by omega,by omega⟩,IntWalk.i64_in (a1Y (a0q c)*65536) ⟨by omega,by omega⟩,IntWalk.i64_in (a1Y (a0q (a0q c))*256) ⟨by omega,by omega⟩,
  IntWalk.i64_in (a1Y c*16777216+a1Y (a0q c)*65536) ⟨by omega,by omega⟩,IntWalk.i64_in (a1Y c*16777216+a1Y (a0q c)*65536+a1Y (a0q (a0q c))*256) ⟨by omega,by omega⟩,IntWalk.i64_in _ ⟨by omega,by omega⟩]
 omega
def j9(c:c7){n:Int}(h:0<n):0<=i7 c n/\i7 c n<n:=by
 unfold i7;rw[V3 (by omega),W6];have h1:=(a6k c).1;have h2:=by4_bd c;cases decide (n<=256)with
 | true=>exact⟨q4X _ h1,Int.tmod_lt_of_pos _ h⟩
 | false=>exact⟨q4X _ h2,Int.tmod_lt_of_pos _ h⟩
def b6J:List (List UInt8):=[[97],[98],[99],[104,111,115,116],[108,105,110,107],[115,101,101,110],[112,97,116,104],[100,101,110,121],[120,57],[97,98,99,100,101,102,103,104,105,106,107,108]]
def c9H(k:Nat):([[C.s [97]],[C.s [98]],[C.s [99]],[C.s [104,111,115,116]],[C.s [108,105,110,107]],[C.s [115,101,101,110]],[C.s [112,97,116,104]],[C.s [100,101,110,121]],[C.s [120,57]],[C.s [97,98,99,100,101,102,103,104,105,106,107,108]]]:List (List C)).getD k [C.s []]=[C.s (b6J.getD k [])]:=a1M b6J k
def b5i(c:c7)(hpre:k7 c):spZ 297 [(false,[.mp [.sl false [.i .u8 0] (c.b.map cU8),.i .i64 c.i,.i .i64 c.h]])] [(0,(false,[.mp [.sl false [.i .u8 0] (((i6 c 10).b).map cU8),.i .i64 ((i6 c 10).i),.i .i64 ((i6 c 10).h)]]))] (.one (false,[.s (b6J.getD (i7 c 10).toNat [])])):=by
 refine sx' false false (some 0) Tryz.func297 (q' 2 [ao (.mov (.k (.v false [.c (.s [])])))] (q' 3 [ao (.bsl 1 10 [.s] [(0,.k (.v false [.c (.s [97])])),(1,.k (.v false [.c (.s [98])])),(2,.k (.v false [.c (.s [99])])),(3,.k (.v false [.c (.s [104,111,115,116])])),(4,.k (.v false [.c (.s [108,105,110,107])])),(5,.k (.v false [.c (.s [115,101, 101,110])])),(6,.k (.v false [.c (.s [112,97,116,104])])),(7,.k (.v false [.c (.s [100,101,110,121])])),(8,.k (.v false [.c (.s [120,57])])), (9,.k (.v false [.c (.s [97,98,99,100,101,102,103,104,105,106,107,108])]))]),am 0,ao (.call 33 [.t 4,.k (.v false [.c (.i .i64 10)])]),ai 1 3 5,aL,aV 2] .ret)) [.t 2] [(33,[0],l5)] ?_;intro hb hE;have hb1:=j9 c (n:=10) (by omega);simp only[go_sem,c9H];repeat' first|apply cj'|intro hc|exact om'|fail
 all_goals first|assumption|omega|trace_state
def a3r:CT:=p6 (fun(x:c7) h=>b5i x h)
@[go_sem] def c4O:=fun x0 x1 x2=>nm' (fP' a3r rfl ⟨x0,x1,x2⟩)
def b5E(c:c7):Int:=bif decide (i7 c 8<6)then i7 (i6 c 8) 9 else bif i7 c 8==6 then 281474976710655 else IntKind.i64.wrap (i7 (i6 c 8) 1000000*1000003)
def b1w(c:c7):c7:=bif decide (i7 c 8<6)then i6 (i6 c 8) 9 else bif i7 c 8==6 then i6 c 8 else i6 (i6 c 8) 1000000
def b5g(c:c7)(hpre:k7 c):spZ 336 [(false,[.mp [.sl false [.i .u8 0] (c.b.map cU8),.i .i64 c.i,.i .i64 c.h]])] [(0,(false,[.mp [.sl false [.i .u8 0] (((b1w c).b).map cU8),.i .i64 ((b1w c).i),.i .i64 ((b1w c).h)]]))] (.one (false,[.i .i64 (b5E c)])):=by
 refine sx' false false (some 0) Tryz.func336 (q' 2 [aK 0] (q' 4 [am 0,ao (.call 33 [.t 4,.k (.v false [.c (.i .i64 8)])]),aV 3] (.seq (q' 6 [am 3,aC .lss 6 6] (ci 7 (q' 8 [am 0,ao (.call 33 [.t 8,.k (.v false [.c (.i .i64 9)])]),aV 2] .ret))) (.seq (q' 10 [am 3,aC .eql 10 6] (ci 11 (q' 2 [aK 281474976710655] .ret))) (q' 12 [am 0,ao (.call 33 [.t 12,.k (.v false [.c (.i .i64 1000000)])]),aC .mul 13 1000003,aV 2] .ret))))) [.t 2] [(33,[0],l5)] ?_;intro hb hE;have h1:=i8 hpre 8;simp only[go_sem];repeat' first|apply cj'|intro hc|exact om'|fail
 all_goals first
  | assumption
  | (rw[b5E,b1w,V0 hc];exact⟨rfl,rfl⟩)
  | (rename_i h;rw[b5E,b1w,V3 h,hc];exact⟨rfl,rfl⟩)
  | trace_state
def a6C:CT:=p6 (fun(x:c7) h=>b5g x h)
@[go_sem] def c4M:=fun x0 x1 x2=>nm' (fP' a6C rfl ⟨x0,x1,x2⟩)
def newF(code:List Int):Nat->Int
 | 0=>IntKind.i64.wrap (391785+(code.length:Int))
 | n+1=>IntKind.i64.wrap ((BitVec.ofInt 64 (IntKind.i64.wrap (IntKind.i64.wrap (IntKind.i64.wrap (newF code n*131)+IntKind.i64.wrap (code.getD n 0))+7))&&& BitVec.ofInt 64 1073741823).toNat:Nat)
def newC(code:List Int):c7:=⟨code,0,newF code (min code.length 4000)⟩
def powF:Nat->Int
 | 0=>1
 | n+1=>IntKind.i64.wrap (powF n*256)
def b7f(n:Int)(hpre:n<=1000):spZ 337 [(false,[.i .i64 n])] [] (.one (false,[.i .i64 (powF n.toNat)])):=by
 refine sy' Tryz.func337 (q' 2 [aK 0] (q' 3 [aK 1] (.seq (q' 4 [aK 0] (fo 0 5 [aM [4,0],ar 5 6] 7 1 (g' 10 [am 3,aC .mul 10 256,aV 3]) (g' 8 [aB 4]))) (q' 12 [am 3,aV 2] .ret)))) [.t 2] [] ?_;intro hb hE;simp only[go_sem];repeat' first|apply cj'|intro hc|exact om'|fail
 refine lq' false [0] [] [] (fun i:{i:Nat // (i:Int)<=max n 0}=>[(3,slV (.i .i64 (powF i.1))),(4,slV (.i .i64 i.1))]) nl' nl' (fun i=>n.toNat-i.1) (⟨0,by omega⟩) ?_;intro S0 hS0 i;obtain⟨i,hi⟩:=i;simp only[go_sem,hS0];repeat' first|apply cj'|intro hc|exact om'|fail
 ·(refine lpK_n2 (⟨i+1,by omega⟩) _ rfl ?_;simp only[go_sem,hS0]<;>repeat' first|apply V1|exact on'|fail)
  all_goals(first|rfl)
 ·rw[show n.toNat=i by omega]
def a7O:CT:=p6 (fun(x:Int) h=>b7f x h)
@[go_sem] def c6W:=fun n=>nm' (fP' a7O rfl n)
def a4y(c:c7):Int×c7:=bif decide (i7 c 12<5)then(i7 (i6 c 12) 12,i6 (i6 c 12) 12)else bif i7 c 12==5 then(i7 (i6 c 12) 256,i6 (i6 c 12) 256)else
 bif i7 c 12==6 then(IntKind.i64.wrap (IntKind.i64.wrap (281474976710655-i7 (i6 c 12) 2)+i7 (i6 (i6 c 12) 2) 3),i6 (i6 (i6 c 12) 2) 3)else bif i7 c 12==7 then(IntKind.i64.wrap (-1-i7 (i6 c 12) 3),i6 (i6 c 12) 3)else
 bif i7 c 12==8 then(IntKind.i64.wrap (9223372036854775807-i7 (i6 c 12) 2),i6 (i6 c 12) 2)else bif i7 c 12==9 then(IntKind.i64.wrap (-9223372036854775807-i7 (i6 c 12) 2),i6 (i6 c 12) 2)else
 bif i7 c 12==10 then(IntKind.i64.wrap (powF (IntKind.i64.wrap (1+i7 (i6 c 12) 6)).toNat-i7 (i6 (i6 c 12) 6) 2),i6 (i6 (i6 c 12) 6) 2)else(IntKind.i64.wrap (i7 (i6 c 12) 65536*i7 (i6 (i6 c 12) 65536) 65536),i6 (i6 (i6 c 12) 65536) 65536)
def b7g(c:c7)(hpre:k7 c):spZ 299 [(false,[.mp [.sl false [.i .u8 0] (c.b.map cU8),.i .i64 c.i,.i .i64 c.h]])] [(0,(false,[.mp [.sl false [.i .u8 0] ((((a4y c).2).b).map cU8),.i .i64 (((a4y c).2).i),.i .i64 (((a4y c).2).h)]]))] (.one (false,[.i .i64 ((a4y c).1)])):=by
 refine sx' false false (some 0) Tryz.func299 (q' 2 [aK 0] (q' 4 [am 0,ao (.call 33 [.t 4,.k (.v false [.c (.i .i64 12)])]),aV 3] (.seq (q' 6 [am 3,aC .lss 6 5] (ci 7 (q' 8 [am 0,ao (.call 33 [.t 8,.k (.v false [.c (.i .i64 12)])]),aV 2] .ret))) (.seq (q' 10 [am 3,aC .eql 10 5] (ci 11 (q' 12 [am 0,ao (.call 33 [.t 12,.k (.v false [.c (.i .i64 256)])]),aV 2] .ret))) (.seq (q' 14 [am 3,aC .eql 14 6] (ci 15 (q' 16 [am 0,ao (.call 33 [.t 16,.k (.v false [.c (.i .i64 2)])]),ao (.bin .sub (k' 281474976710655) (.t 17)),am 0,ao (.call 33 [.t 19,.k (.v false [.c (.i .i64 3)])]),aD .add 18 20,aV 2] .ret))) (.seq (q' 22 [am 3,aC .eql 22 7] (ci 23 (q' 24 [am 0,ao (.call 33 [.t 24,.k (.v false [.c (.i .i64 3)])]),ao (.bin .sub (.k (.v false [.c (.i .i64 (-1))])) (.t 25)),aV 2] .ret))) (.seq (q' 27 [am 3,aC .eql 27 8] (ci 28 (q' 29 [am 0,ao (.call 33 [.t 29,.k (.v false [.c (.i .i64 2)])]),ao (.bin .sub (k' 9223372036854775807) (.t 30)),aV 2] .ret))) (.seq (q' 32 [am 3,aC .eql 32 9] (ci 33 (q' 34 [am 0,ao (.call 33 [.t 34,.k (.v false [.c (.i .i64 2)])]),ao (.bin .sub (.k (.v false [.c (.i .i64 (-9223372036854775807))])) (.t 35)),aV 2] .ret))) (.seq (q' 37 [am 3,aC .eql 37 10] (ci 38 (q' 39 [am 0,ao (.call 33 [.t 39,.k (.v false [.c (.i .i64 6)])]),ao (.bin .add (k' 1) (.t 40)),ac 337 [41],am 0,ao (.call 33 [.t 43,.k (.v false [.c (.i .i64 2)])]),aD .sub 42 44,aV 2] .ret))) (q' 46 [am 0,ao (.call 33 [.t 46,.k (.v false [.c (.i .i64 65536)])]),am 0,ao (.call 33 [.t 48,.k (.v false [.c (.i .i64 65536)])]),aD .mul 47 49,aV 2] .ret)))))))))) [.t 2] [(33,[0],l5),(337,[],a7O)] ?_;intro hb hE;have h1:=i8 hpre 12;have h2:=i8 h1 2;have h3:=i8 h1 6;have h4:=i8 h1 65536;have hb:=j9 (i6 c 12) (n:=6) (by omega);have hw:IntKind.i64.wrap (1+i7 (i6 c 12) 6)=1+i7 (i6 c 12) 6:=w64 (by omega) (by omega) (by omega);simp only[go_sem];repeat' first|apply cj'|intro hc|exact om'|fail
 all_goals first
  | assumption
  | (rw[hw];omega)
  | omega
  | (unfold a4y;simp only[*,W4,W6,decide_true,decide_false,q0R];first|done|exact⟨rfl,rfl⟩)
  | trace_state
def a2D:CT:=p6 (fun(x:c7) h=>b7g x h)
@[go_sem] def c6X:=fun x0 x1 x2=>nm' (fP' a2D rfl ⟨x0,x1,x2⟩)
def c5J{c:c7}(h:k7 c):k7 (a4y c).2:=by
 have h1:=i8 h 12;unfold a4y;cases decide (i7 c 12<5)with
 | true=>simp only[W4];exact i8 h1 _
 | false=>
   simp only[W6];cases i7 c 12==5 with
   | true=>simp only[W4];exact i8 h1 _
   | false=>
     simp only[W6];cases i7 c 12==6 with
     | true=>simp only[W4];exact i8 (i8 h1 _) _
     | false=>
       simp only[W6];cases i7 c 12==7 with
       | true=>simp only[W4];exact i8 h1 _
       | false=>
         simp only[W6];cases i7 c 12==8 with
         | true=>simp only[W4];exact i8 h1 _
         | false=>
           simp only[W6];cases i7 c 12==9 with
           | true=>simp only[W4];exact i8 h1 _
           | false=>
             simp only[W6];cases i7 c 12==10 with
             | true=>simp only[W4];exact i8 (i8 h1 _) _
             | false=>simp only[W6];exact i8 (i8 h1 _) _
def fewT:List (List UInt8):=[[],[97],[97,98,99,100,101,102,103,104,105,106,107,108],[97,98,99,100,101,102,103,104,105,106,107,108,109],[57,97],[65],[97,95],[48],[48,48],[55],[50,56,49,52,55,52,57,55,54,55,49,48,54,53,53],[50,56,49,52,55,52,57,55,54,55,49,48,54,53,54],[45,49],[49,50,51,52,53,54,55,56,57,48,49,50,51,52,53,54],[104,111,115,116],[120,57],[32,49],[195,169]]
def a3j(c:c7):d5×c7:=bif decide (i7 c 6<4)then(⟨i7 (i6 c 6) 5,[]⟩,i6 (i6 c 6) 5)else bif i7 c 6==4 then(⟨0,b6J.getD (i7 (i6 c 6) 10).toNat []⟩,i6 (i6 c 6) 10)else(⟨b5E (i6 c 6),[]⟩,b1w (i6 c 6))
def d0m{c:c7}(h:k7 c):k7 (b1w c):=by
 have h1:=i8 h 8;unfold b1w;cases decide (i7 c 8<6)with
 | true=>simp only[W4];exact i8 h1 _
 | false=>
   simp only[W6];cases i7 c 8==6 with
   | true=>exact h1
   | false=>simp only[W6];exact i8 h1 _
def b9V{c:c7}(h:k7 c):k7 (a3j c).2:=by
 have h1:=i8 h 6;unfold a3j;cases decide (i7 c 6<4)with
 | true=>simp only[W4];exact i8 h1 _
 | false=>
   simp only[W6];cases i7 c 6==4 with
   | true=>simp only[W4];exact i8 h1 _
   | false=>simp only[W6];exact d0m h1
def b2E(c:c7)(hpre:k7 c):spZ 296 [(false,[.mp [.sl false [.i .u8 0] (c.b.map cU8),.i .i64 c.i,.i .i64 c.h]])] [(0,(false,[.mp [.sl false [.i .u8 0] ((((a3j c).2).b).map cU8),.i .i64 (((a3j c).2).i),.i .i64 (((a3j c).2).h)]]))] (.one (true,[.i .i64 (((a3j c).1).N),.s (((a3j c).1).S)])):=by
 refine sx' false false (some 0) Tryz.func296 (q' 2 [aw [.i .i64,.s]] (q' 4 [am 0,ao (.call 33 [.t 4,.k (.v false [.c (.i .i64 6)])]),aV 3] (.seq (q' 6 [am 3,aC .lss 6 4] (ci 7 (q' 8 [am 0,ao (.call 33 [.t 8,.k (.v false [.c (.i .i64 5)])]),ao (.bld [.i .i64,.s] [(0,1,.t 9)]),aS 2 2 10] .ret))) (.seq (q' 11 [am 3,aC .eql 11 4] (ci 12 (q' 13 [am 0,ac 297 [13],ao (.bld [.i .i64,.s] [(1,1,.t 14)]),aS 2 2 15] .ret))) (q' 16 [am 0,ac 336 [16],ao (.bld [.i .i64,.s] [(0,1,.t 17)]),aS 2 2 18] .ret))))) [.c 2 true 2] [(33,[0],l5),(297,[0],a3r),(336,[0],a6C)] ?_;intro hb hE;have h1:=i8 hpre 6;simp only[go_sem];repeat' first|apply cj'|intro hc|exact om'|fail
 all_goals first
  | assumption
  | (unfold a3j;simp only[*,W4,W6,decide_true,decide_false,q0R];first|done|exact⟨rfl,rfl⟩)
  | trace_state
def a2R:CT:=p6 (fun(x:c7) h=>b2E x h)
@[go_sem] def c3q:=fun x0 x1 x2=>nm' (fP' a2R rfl ⟨x0,x1,x2⟩)
def c9G(k:Nat):([[C.s []],[C.s [97]],[C.s [97,98,99,100,101,102,103,104,105,106,107,108]],[C.s [97,98,99,100,101,102,103,104,105,106,107,108,109]],[C.s [57,97]],[C.s [65]],[C.s [97,95]],[C.s [48]],[C.s [48,48]],[C.s [55]],[C.s [50,56,49,52,55,52,57,55,54,55,49,48,54,53,53]],[C.s [50,56,49,52,55,52,57,55,54,55,49,48,54,53,54]],[C.s [45,49]],[C.s [49,50,51,52,53,54,55,56,57,48,49,50,51,52,53,54]],[C.s [104,111,115,116]],[C.s [120,57]],[C.s [32,49]],[C.s [195,169]]]:List (List C)).getD k [C.s []]=[C.s (fewT.getD k [])]:=a1M fewT k
def b5h(c:c7)(hpre:k7 c):spZ 238 [(false,[.mp [.sl false [.i .u8 0] (c.b.map cU8),.i .i64 c.i,.i .i64 c.h]])] [(0,(false,[.mp [.sl false [.i .u8 0] (((i6 c 18).b).map cU8),.i .i64 ((i6 c 18).i),.i .i64 ((i6 c 18).h)]]))] (.one (false,[.s (fewT.getD (i7 c 18).toNat [])])):=by
 refine sx' false false (some 0) Tryz.func238 (q' 2 [ao (.mov (.k (.v false [.c (.s [])])))] (q' 3 [ao (.bsl 1 18 [.s] [(0,.k (.v false [.c (.s [])])),(1,.k (.v false [.c (.s [97])])),(2,.k (.v false [.c (.s [97,98,99,100,101,102,103,104,105,106,107,108])])),(3,.k (.v false [.c (.s [97,98,99,100,101,102,103,104,105,106,107,108, 109])])),(4,.k (.v false [.c (.s [57,97])])),(5,.k (.v false [.c (.s [65])])),(6,.k (.v false [.c (.s [97,95])])),(7,.k (.v false [.c (.s [48])])), (8,.k (.v false [.c (.s [48,48])])),(9,.k (.v false [.c (.s [55])])),(10,.k (.v false [.c (.s [50,56,49,52,55,52,57,55,54,55,49,48,54,53, 53])])),(11,.k (.v false [.c (.s [50,56,49,52,55,52,57,55,54,55,49,48,54,53,54])])),(12,.k (.v false [.c (.s [45,49])])),(13,.k (.v false [.c (.s [49,50,51,52,53,54,55,56,57,48,49,50,51,52,53,54])])),(14,.k (.v false [.c (.s [104,111,115,116])])),(15,.k (.v false [.c (.s [120,57])])),(16,.k (.v false [.c (.s [32,49])])),(17,.k (.v false [.c (.s [195,169])]))]),am 0,ao (.call 33 [.t 4,.k (.v false [.c (.i .i64 18)])]),ai 1 3 5,aL,aV 2] .ret)) [.t 2] [(33,[0],l5)] ?_;intro hb hE;have hb1:=j9 c (n:=18) (by omega);simp only[go_sem,c9G];repeat' first|apply cj'|intro hc|exact om'|fail
 all_goals first|assumption|omega|trace_state
def a2a:CT:=p6 (fun(x:c7) h=>b5h x h)
@[go_sem] def c4N:=fun x0 x1 x2=>nm' (fP' a2a rfl ⟨x0,x1,x2⟩)
def b6E(c:c7):d5×c7:=bif i7 (a3j c).2 10==0 then(⟨(a4y (i6 (a3j c).2 10)).1,(a3j c).1.S⟩,(a4y (i6 (a3j c).2 10)).2)else bif i7 (a3j c).2 10==1 then(⟨(a3j c).1.N,fewT.getD (i7 (i6 (a3j c).2 10) 18).toNat []⟩,i6 (i6 (a3j c).2 10) 18)else((a3j c).1,i6 (a3j c).2 10)
def anyR_ok{c:c7}(h:k7 c):k7 (b6E c).2:=by
 have h1:=i8 (b9V h) 10;unfold b6E;cases i7 (a3j c).2 10==0 with
 | true=>simp only[W4];exact c5J h1
 | false=>
   simp only[W6];cases i7 (a3j c).2 10==1 with
   | true=>simp only[W4];exact i8 h1 _
   | false=>exact h1
def b7h(c:c7)(hpre:k7 c):spZ 338 [(false,[.mp [.sl false [.i .u8 0] (c.b.map cU8),.i .i64 c.i,.i .i64 c.h]])] [(0,(false,[.mp [.sl false [.i .u8 0] ((((b6E c).2).b).map cU8),.i .i64 (((b6E c).2).i),.i .i64 (((b6E c).2).h)]]))] (.one (true,[.i .i64 (((b6E c).1).N),.s (((b6E c).1).S)])):=by
 refine sx' false false (some 0) Tryz.func338 (q' 2 [aw [.i .i64,.s]] (q' 5 [am 0,ac 296 [5],ax (w' 3 [.i .i64,.s]),aS 2 3 6] (q' 7 [am 0,ao (.call 33 [.t 7,.k (.v false [.c (.i .i64 10)])]),aV 4] (.seq (q' 9 [am 4,aC .eql 9 0] (ci 10 (g' 11 [am 0,ac 299 [11],af 0 3,aS 1 13 12]))) (.seq (q' 14 [am 4,aC .eql 14 1] (ci 15 (g' 16 [am 0,ac 238 [16],af 1 3,aS 1 18 17]))) (q' 19 [ae 2 3,aS 2 2 19] .ret)))))) [.c 2 true 2] [(33,[0],l5),(296,[0],a2R),(299,[0],a2D),(238,[0],a2a)] ?_;intro hb hE;have h1:=b9V hpre;have h2:=i8 h1 10;simp only[go_sem];repeat' first|apply cj'|intro hc|exact om'|fail
 all_goals first
  | assumption
  | (exfalso;rename_i h;rw[beq_iff_eq]at h hc;omega)
  | (unfold b6E;simp only[*,W4,W6,decide_true,decide_false,q0R];first|done|exact⟨rfl,rfl⟩)
  | trace_state
def a7P:CT:=p6 (fun(x:c7) h=>b7h x h)
@[go_sem] def c6Y:=fun x0 x1 x2=>nm' (fP' a7P rfl ⟨x0,x1,x2⟩)
def a0l(c:c7):Nat->List d5×c7
 | 0=>([],c)
 | n+1=>((a0l c n).1++[(a3j (a0l c n).2).1],(a3j (a0l c n).2).2)
def a7t{c:c7}(h:k7 c):∀n,k7 (a0l c n).2
 | 0=>h
 | n+1=>b9V (a7t h n)
def a3K(c:c7):∀n,(a0l c n).1.length=n
 | 0=>rfl
 | n+1=>by simp only[a0l,W5,a3K c n];rfl
def a3X(c:c7)(n:Int)(hpre:k7 c/\n<=1000):spZ 236 [(false,[.mp [.sl false [.i .u8 0] (c.b.map cU8),.i .i64 c.i,.i .i64 c.h]]),(false,[.i .i64 n])] [(0,(false,[.mp [.sl false [.i .u8 0] ((((a0l c n.toNat).2).b).map cU8),.i .i64 (((a0l c n.toNat).2).i),.i .i64 (((a0l c n.toNat).2).h)]]))] (.one (true,[a5s ((⟨(a0l c n.toNat).1⟩:d3).V)])):=by
 refine sx' false false (some 0) Tryz.func236 (q' 4 [aw [.sl l3]] (q' 5 [ax (o' 7 (.bld [.sl l3] [])),aw [.sl l3],aS 1 5 7] (.seq (q' 6 [aK 0] (fo 0 8 [aM [6,1],ar 8 9] 10 1 (rm' [(true,2,m' 15 0),(false,0,f' 13 0 5),(false,1,l' 14 13),(false,3,c' 16 296 [15]),(false,4,o' 17 (.bsl 2 1 [.i .i64,.s] [(0,.t 16)])),(false,5,o' 18 (.app 2 24 [.i .i64,.s] (.t 14) (.t 17))),(false,6,f' 19 0 5),(false,7,s' 1 19 18)] [[0,1,3,2,4,5,6,7],[0,1, 3,4,2,5,6,7],[0,3,1,2,4,5,6,7],[0,3,1,4,2,5,6,7],[0,3,4,1,2,5,6,7]] []) (g' 11 [aB 6]))) (q' 20 [ae 1 5,aS 1 4 20] .ret)))) [.c 4 true 1] [(296,[0],a2R)] ?_;intro hb hE;obtain⟨hp,hn⟩:=hpre;simp only[go_sem,pc_susB];(repeat' first|apply cj'|intro hc|apply z6);(all_goals(try(refine(show A3U _ _ _ _ _ _ from ?_);simp only[go_sem,pc_susB]at hc ⊢;simp only[go_sem,pc_susB,A7u,A7y,A6L,A6K,A7t,A6J,nf_put_sub,A7w,A7v,nf_put_susK,nf_put_dip,nf_put_put,A7x,A7s,A6M,j8,j6,j4,j5,j7,nf_sub_sub]at hc ⊢;simp only[hc,q0R,q0I];done)));all_goals try exact om'
 refine lk' false [(true,10,0,200020)] [0,1,4,5] [8] [] (fun i:{i:Nat // (i:Int)<=max n 0}=>[(6,slV (.i .i64 i.1))]) (fun i=>[(10,[.ow 200020]),(1,[.c (.sl false [.i .u8 0] ((a0l c i.1).2.b.map cU8)),.c (.i .i64 (a0l c i.1).2.i),.c (.i .i64 (a0l c i.1).2.h)])]) (fun i=>[(200020,l3,((a0l c i.1).1).map d5.cells)]) (fun i=>n.toNat-i.1) (⟨0,by omega⟩) ?_;intro S0 hS0 i;obtain⟨i,hi⟩:=i;have hok:=a7t hp i;have hl:=a3K c i;simp only[go_sem,pc_susB,hS0];(repeat' first|apply cj'|intro hc|apply z6);(all_goals(try((first|refine u1 1 rfl ?_);intro S hS B0 hB;simp only[go_sem,pc_susB,hS0,V7,q0O]at hS hB;(repeat(first|replace hS:=And.right hS|replace hS:=CJ.r hS));have Rr5:=congrArg (fun s:St=>s.sl 5) hS;have Rr15:=congrArg (fun s:St=>s.sl 15) hS;have Rb1:=congrArg (fun s:St=>s.bx 1) hS;have Rb10:=congrArg (fun s:St=>s.bx 10) hS;have Ro200020:=congrArg (fun s:St=>s.ow 200020) hS;clear hS;simp only[go_sem,pc_susB,hS0]at Rr5 Rr15 Rb1 Rb10 Ro200020;(try clear hc);intro K hc;simp only[go_sem,pc_susB,hS0,Rr5,Rr15,Rb1,Rb10,Ro200020,hB,V8,q0K,V6,q0G]at hc ⊢;simp only[go_sem,pc_susB,hS0,Rr5,Rr15,Rb1,Rb10,Ro200020,hB,A7u,A7y,A6L,A6K,A7t,A6J,nf_put_sub,A7w,A7v,nf_put_susK,nf_put_dip,nf_put_put,A7x,A7s,A6M,j8,j6,j4,j5,j7,nf_sub_sub]at hc ⊢;(first|(simp only[hc,q0R,q0I];done)|((repeat' first|exact hc|apply V1);done)))));all_goals try exact om'
 ·exact hok
 ·(refine lpK_n2 (⟨i+1,by omega⟩) _ (by simp only[go_sem,pc_susB];try rfl) ?_;simp only[go_sem,pc_susB,hS0]<;>repeat' first|apply V1|exact on'|fail)
 ·rw[show n.toNat=i by omega];exact⟨rfl,rfl⟩
def a3R:CT:=p6 (fun(x:c7×Int) h=>a3X x.1 x.2 h)
@[go_sem] def c0G:=fun x0 x1 x2 n=>nm' (fP' a3R rfl (⟨x0,x1,x2⟩,n))
def d0B{c:c7}(h:k7 c)(n:Int):k7 (a0l c n.toNat).2:=a7t h _
def arB(c:c7):List d5×c7:=a0l (i6 c 4) (i7 c 4).toNat
def arF(c:c7):List d5×c7:=bif i7 (arB c).2 10==0 then((arB c).1++[(b6E (i6 (arB c).2 10)).1],(b6E (i6 (arB c).2 10)).2)else bif i7 (arB c).2 10==1 then a0l (i6 (i6 (arB c).2 10) 2) (6+i7 (i6 (arB c).2 10) 2).toNat else((arB c).1,i6 (arB c).2 10)
def b0I(c:c7)(hpre:k7 c):spZ 300 [(false,[.mp [.sl false [.i .u8 0] (c.b.map cU8),.i .i64 c.i,.i .i64 c.h]])] [(0,(false,[.mp [.sl false [.i .u8 0] ((((arF c).2).b).map cU8),.i .i64 (((arF c).2).i),.i .i64 (((arF c).2).h)]]))] (.one (true,[a5s ((⟨(arF c).1⟩:d3).V)])):=by
 refine sx' false false (some 0) Tryz.func300 (q' 2 [aw [.sl l3]] (q' 5 [aM [0,0],ao (.call 33 [.t 6,.k (.v false [.c (.i .i64 4)])]),ac 236 [5,7],ax (w' 3 [.sl l3]),aS 1 3 8] (q' 9 [am 0,ao (.call 33 [.t 9,.k (.v false [.c (.i .i64 10)])]),aV 4] (.seq (q' 11 [am 4,aC .eql 11 0] (ci 12 (rm' [(true,2,m' 15 0),(false,0,f' 13 0 3),(false,1,l' 14 13),(false,3,c' 16 338 [15]),(false,4,o' 17 (.bsl 2 1 [.i .i64,.s] [(0,.t 16)])),(false,5,o' 18 (.app 2 24 [.i .i64,.s] (.t 14) (.t 17))),(false,6,f' 19 0 3),(false,7,s' 1 19 18)] [[0,1,3,2,4,5,6,7],[0,1,3,4,2,5,6,7],[0,3,1,2,4,5,6,7],[0,3,1,4,2, 5,6,7],[0,3,4,1,2,5,6,7]] []))) (.seq (q' 20 [am 4,aC .eql 20 1] (ci 21 (g' 22 [aM [0,0],ao (.call 33 [.t 23,.k (.v false [.c (.i .i64 2)])]),ao (.bin .add (k' 6) (.t 24)),ac 236 [22,25],aS 1 3 26]))) (q' 27 [ae 1 3,aS 1 2 27] .ret)))))) [.c 2 true 1] [(33,[0],l5),(236,[0],a3R),(338,[0],a7P)] ?_;intro hb hE;have hb1:=j9 c (n:=4) (by omega);have h1:=i8 hpre 4;have h2:=d0B h1 (i7 c 4);have h3:=i8 h2 10;have h4:=i8 h3 2;have hl:=a3K (i6 c 4) (i7 c 4).toNat
 have hb2:=j9 (i6 (arB c).2 10) (n:=2) (by omega);have hb3:=j9 (i6 (a0l (i6 c 4) (i7 c 4).toNat).2 10) (n:=2) (by omega);have h5:=anyR_ok h3;have hw:IntKind.i64.wrap (6+i7 (i6 (a0l (i6 c 4) (i7 c 4).toNat).2 10) 2)=6+i7 (i6 (a0l (i6 c 4) (i7 c 4).toNat).2 10) 2:=w64 (by omega) (by omega) rfl;simp only[go_sem,pc_susB,hw];(repeat' first|apply cj'|intro hc|apply z6);(all_goals(try((first|refine u1 1 rfl ?_);intro S hS B0 hB;simp only[go_sem,pc_susB,hw,V7,q0O]at hS hB;(repeat(first|replace hS:=And.right hS|replace hS:=CJ.r hS));have Rr3:=congrArg (fun s:St=>s.sl 3) hS;have Rr15:=congrArg (fun s:St=>s.sl 15) hS;have Rb1:=congrArg (fun s:St=>s.bx 1) hS;have Rb6:=congrArg (fun s:St=>s.bx 6) hS;have Ro1024:=congrArg (fun s:St=>s.ow 1024) hS;clear hS;simp only[go_sem,pc_susB,hw]at Rr3 Rr15 Rb1 Rb6 Ro1024;(try clear hc);intro K hc;simp only[go_sem,pc_susB,hw,Rr3,Rr15,Rb1,Rb6,Ro1024,hB,V8,q0K,V6,q0G]at hc ⊢;simp only[go_sem,pc_susB,hw,Rr3,Rr15,Rb1,Rb6,Ro1024,hB,A7u,A7y,A6L,A6K,A7t,A6J,nf_put_sub,A7w,A7v,nf_put_susK,nf_put_dip,nf_put_put,A7x,A7s,A6M,j8,j6,j4,j5,j7,nf_sub_sub]at hc ⊢;(first|(simp only[hc,q0R,q0I];done)|((repeat' first|exact hc|apply V1);done)))));all_goals try exact om'
 all_goals first
  | assumption
  | exact⟨h1,by omega⟩
  | exact⟨h4,by omega⟩
  | (exfalso;simp only[beq_iff_eq]at*;omega)
  | (unfold arF arB;simp only[*,W4,W6,decide_true,decide_false,q0R];first|done|exact⟨rfl,rfl⟩)
  | trace_state
def a4M:CT:=p6 (fun(x:c7) h=>b0I x h)
@[go_sem] def c2q:=fun x0 x1 x2=>nm' (fP' a4M rfl ⟨x0,x1,x2⟩)
def l8(r:c8)(i:Int):f9:=r.toks.getD i.toNat default
def p7(r:c8):Prop:=(0<=r.i/\r.i<=r.toks.length)/\r.toks.length<=6000
def l9(r:c8)(c:Int):c8:=bif r.code==0 then⟨r.toks,r.i,r.e,c,bif decide (r.i<r.toks.length)then(l8 r r.i).At else r.e⟩else r
def v5(r:c8):c8:=⟨r.toks,r.i+1,r.e,r.code,r.p⟩
def isS(r:c8)(i:Int)(s:List UInt8):Bool:=r.code==0&&decide (i<r.toks.length)&&(l8 r i).Kind==4&&(l8 r i).S==s
def t9(r:c8)(s:List UInt8):c8:=bif isS r r.i s then v5 r else l9 r 6
def b9H:List UInt8:=[115,116,97,116,101]
def b9G:List UInt8:=[101,118,101,110,116]
def c3Z:List UInt8:=[118,105,101,119]
def b7W:List UInt8:=[110,111,116]
def a0Y(r:c8):Bool:=!(r.code==0)||decide ((r.toks.length:Int)<=r.i)
def a8h(r:c8):Bool:=!(a0Y r||(!((l8 r r.i).Kind==1)||a4U (l8 r r.i).S))
def a4i(r:c8):List UInt8:=bif a8h r then(l8 r r.i).S else[]
def w6(r:c8):c8:=bif a8h r then v5 r else l9 r 6
def a0D(r:c8):Bool:=a0Y r||((l8 r r.i).Kind==4||((l8 r r.i).Kind==1&&a4U (l8 r r.i).S))
def a2k(r:c8)(full:Bool):d4:=bif a0D r||full then default else bif (l8 r r.i).Kind==2 then⟨(l8 r r.i).S,default⟩else⟨[],⟨(l8 r r.i).N,(l8 r r.i).S⟩⟩
def o0(r:c8)(full:Bool):c8:=bif a0D r then l9 r 6 else bif full then l9 r 7 else v5 r
def a0C:List UInt8:=[40]
def a8x:List UInt8:=[41]
def a0s:List UInt8:=[44]
def b5R:List UInt8:=[46]
def sgIf:List UInt8:=[58,45]
def a5u:List UInt8:=[43]
def a4c:List UInt8:=[45]
def a1p:List UInt8:=[47]
def a8p:Nat->c8->List d4->c8×List d4
 | 0,r,a=>(r,a)
 | n+1,r,a=>bif r.code==0 then
    (bif isS (o0 r ((a.length:Int)==6)) (o0 r ((a.length:Int)==6)).i a0s then a8p n (v5 (o0 r ((a.length:Int)==6))) (a++[a2k r ((a.length:Int)==6)])
     else(o0 r ((a.length:Int)==6),a++[a2k r ((a.length:Int)==6)]))
   else(r,a)
def a0R(r:c8):Nat:=r.toks.length+2-r.i.toNat
def y3(r:c8):c8×f7:=
 bif isS (t9 (w6 r) a0C) (t9 (w6 r) a0C).i a8x then(v5 (t9 (w6 r) a0C),⟨a4i r,[]⟩)
 else(t9 (a8p (a0R (t9 (w6 r) a0C)) (t9 (w6 r) a0C) []).1 a8x,⟨a4i r,(a8p (a0R (t9 (w6 r) a0C)) (t9 (w6 r) a0C) []).2⟩)
def opR(r:c8):Int:=bif isS r r.i [61]then 1 else bif isS r r.i [33,61]then 2 else bif isS r r.i [60]then 3 else bif isS r r.i [60,61]then 4 else 0
def v7(r:c8):c8×d7:=
 bif !a0Y r&&((l8 r r.i).Kind==1&&(l8 r r.i).S==b7W)then((y3 (v5 r)).1,⟨2,(y3 (v5 r)).2,0,default,default⟩)
 else bif !a0Y r&&((l8 r r.i).Kind==1&&(!a4U (l8 r r.i).S&&isS r (r.i+1) a0C))then((y3 r).1,⟨1,(y3 r).2,0,default,default⟩)
 else let r1:=o0 r false
  let r2:=bif opR r1==0 then l9 r1 6 else v5 r1
  (o0 r2 false,⟨3,default,opR r1,a2k r false,a2k r2 false⟩)
def litY(r:c8):Bool:=!a0Y r&&((l8 r r.i).Kind==2||(l8 r r.i).Kind==3||(l8 r r.i).Kind==1&&((l8 r r.i).S==b7W||!a4U (l8 r r.i).S))
def y7(r:c8)(n:Int):c8:=bif n==8&&litY r then l9 r 7 else r
def a3P:Nat->c8->List d7->c8×List d7
 | 0,r,a=>(r,a)
 | n+1,r,a=>bif r.code==0 then
    (bif isS (v7 (y7 r a.length)).1 (v7 (y7 r a.length)).1.i a0s then a3P n (v5 (v7 (y7 r a.length)).1) (a++[(v7 (y7 r a.length)).2])
     else((v7 (y7 r a.length)).1,a++[(v7 (y7 r a.length)).2]))
   else(r,a)
def a4a(r:c8):Int:=bif isS r r.i a5u then 2 else bif isS r r.i a4c then 3 else 1
def a0N(r:c8):c8:=bif isS r r.i a5u||isS r r.i a4c then v5 r else r
def a1R(r:c8):c8×c6:=
 let h:=y3 (a0N r)
 let b:=bif isS h.1 h.1.i sgIf then a3P (a0R (v5 h.1)) (v5 h.1) []else(h.1,[])
 (t9 b.1 b5R,⟨a4a r,h.2,b.2⟩)
def a9i(r:c8):Bool:=!(a0Y r||!((l8 r r.i).Kind==3))
def a0E(r:c8)(k:Int):c8×i3:=
 let r1:=t9 (w6 r) a1p
 bif a9i r1 then
  (bif decide (6<(l8 r1 r1.i).N)then(l9 r1 7,⟨k,a4i r,(l8 r1 r1.i).N⟩)else(t9 (v5 r1) b5R,⟨k,a4i r,(l8 r1 r1.i).N⟩))
 else(l9 r1 6,⟨k,a4i r,0⟩)
def a2m(t:f9):Int:=bif t.Kind==1&&t.S==b9H then 1 else bif t.Kind==1&&t.S==b9G then 2 else bif t.Kind==1&&t.S==c3Z then 3 else 0
def begY(r:c8):Bool:=((l8 r r.i).Kind==1&&!a4U (l8 r r.i).S)||(isS r r.i a5u||isS r r.i a4c)
def c7t{r:c8}{c:Int}(h:(r.code != 0)=true):l9 r c=r:=by rw[l9,show(r.code==0)=false by simpa[bne]using h];rfl
def c9F{r:c8}{c:Int}(h:(r.code != 0)=false)(h2:r.i<r.toks.length):l9 r c=⟨r.toks,r.i,r.e,c,(l8 r r.i).At⟩:=by rw[l9,show(r.code==0)=true by simpa[bne]using h,V0 h2];rfl
def c7s{r:c8}{c:Int}(h:(r.code != 0)=false)(h2:¬r.i<r.toks.length):l9 r c=⟨r.toks,r.i,r.e,c,r.e⟩:=by rw[l9,show(r.code==0)=true by simpa[bne]using h,V3 h2];rfl
def b2I(r:c8)(c:Int)(hpre:p7 r):spZ 94 [(false,[.mp [y8 r.toks,.i .i64 r.i,.i .i64 r.e,.i .i64 r.code,.i .i64 r.p]]),(false,[.i .i64 c])] [(0,(false,[.mp [y8 ((l9 r c).toks),.i .i64 ((l9 r c).i),.i .i64 ((l9 r c).e),.i .i64 ((l9 r c).code),.i .i64 ((l9 r c).p)]]))] (.tup []):=by
 refine sx' false false (some 0) Tryz.func94 (.seq (q' 4 [am 0,ao (.nck (.t 4)),aG 3 5,aC .neq 7 0] (ci 8 .ret)) (q' 9 [aM [0,1],ao (.nck (.t 9)),aF 3,aS 1 12 10] (q' 13 [aM [0,0],ao (.nck (.t 14)),aG 2 15,ao (.nck (.t 13)),aF 4,aS 1 19 17] (.seq (G' 20 [am 0,ao (.nck (.t 20)),aG 1 21,am 0,ao (.nck (.t 24)),aG 0 25,aN,ar 23 28]) (ci 29 (.rego [(true,0,m' 30 0),(true,1,m' 31 0),(true,2,o' 32 (.nck (.t 31))),(true,5,m' 35 0),(true,6,o' 36 (.nck (.t 35))),(false,3,f' 33 0 32),(false,4,l' 34 33), (false,7,f' 37 1 36),(false,8,l' 38 37),(false,9,i' 39 4 34 38),(false,10,f' 40 3 39),(false,11,l' 41 40),(false,12,o' 42 (.nck (.t 30))), (false,13,f' 43 4 42),(false,14,s' 1 43 41)] [])))))) [] [] ?_;intro hb hE;obtain⟨⟨h0,h1⟩,h2⟩:=hpre;simp only[go_sem];repeat' first|apply cj'|intro hc|exact om'|fail
 ·rw[c7t hc]
 ·rename_i h;rw[c9F h hc];rfl
 ·rename_i h;rw[c7s h hc]
def z7:CT:=p6 (fun(x:c8×Int) h=>b2I x.1 x.2 h)
@[go_sem] def c3u:=fun x0 x1 x2 x3 x4 c=>nm' (fP' z7 rfl (⟨x0,x1,x2,x3,x4⟩,c))
def b9C(r:c8)(i:Int)(s:List UInt8)(hpre:p7 r/\0<=i):spZ 97 [(false,[.p [y8 r.toks,.i .i64 r.i,.i .i64 r.e,.i .i64 r.code,.i .i64 r.p]]),(false,[.i .i64 i]),(false,[.s s])] [] (.one (false,[.b (isS r i s)])):=by
 refine sy' Tryz.func97 (q' 6 [aU false] (q' 7 [am 0,ao (.nck (.t 7)),aG 3 8,aC .eql 10 0,am 11,aH 12 true [bm 1,bm 0,bo (.nck (.t 14)),bF 0,bL,bN,bD .lss 13 18],aP 12 19,am 20,aH 21 true [bm 0,bo (.nck (.t 22)),bF 0,bL,bm 1,bI 4,bF 0,bL,bC .eql 29 4],aP 21 30,am 31,aH 32 true [bm 0,bo (.nck (.t 33)),bF 0,bL,bm 1,bI 4,bF 2,bL,bm 2,bD .eql 40 41],aP 32 42,aV 6] .ret)) [.t 6] [] ?_;intro hb hE;obtain⟨⟨⟨h0,h1⟩,h2⟩,h3⟩:=hpre;simp only[go_sem];repeat' first|apply cj'|intro hc|exact om'|fail
 all_goals first|rfl|trace_state
def a0O:CT:=p6 (fun(x:c8×Int×(List UInt8)) h=>b9C x.1 x.2.1 x.2.2 h)
@[go_sem] def c8y:=fun x0 x1 x2 x3 x4 i s=>nm' (fP' a0O rfl (⟨x0,x1,x2,x3,x4⟩,i,s))
def b3g{r:c8}{s:List UInt8}(h:isS r r.i s=false):t9 r s=l9 r 6:=by rw[t9,h];rfl
def a9M{r:c8}{s:List UInt8}(h:isS r r.i s=true):t9 r s=v5 r:=by rw[t9,h];rfl
def a9Q{r:c8}(h:p7 r):IntKind.i64.wrap (r.i+1)=r.i+1:=by
 obtain⟨⟨h0,h1⟩,h2⟩:=h;exact w64 (by omega) (by omega) (by omega)
def w_i0{r:c8}(h:p7 r):IntKind.i64.wrap (r.i+1-1)=r.i:=by
 obtain⟨⟨h0,h1⟩,h2⟩:=h;exact w64 (by omega) (by omega) (by omega)
def b5t(r:c8)(s:List UInt8)(hpre:p7 r):spZ 185 [(false,[.mp [y8 r.toks,.i .i64 r.i,.i .i64 r.e,.i .i64 r.code,.i .i64 r.p]]),(false,[.s s])] [(0,(false,[.mp [y8 ((t9 r s).toks),.i .i64 ((t9 r s).i),.i .i64 ((t9 r s).e),.i .i64 ((t9 r s).code),.i .i64 ((t9 r s).p)]]))] (.tup []):=by
 refine sx' false false (some 0) Tryz.func185 (.seq (q' 4 [aM [0,0],ao (.nck (.t 5)),aG 1 6,am 1,ac 97 [4,8,9],aO 10] (ci 11 (q' 12 [am 0,ao (.call 94 [.t 12,.k (.v false [.c (.i .i64 6)])])] .ret))) (g' 14 [am 0,ao (.nck (.t 14)),aG 1 15,aC .add 17 1,ao (.nck (.t 14)),aF 1,aS 1 20 18])) [] [(97,[],a0O),(94,[0],z7)] ?_;intro hb hE;obtain⟨⟨h0,h1⟩,h2⟩:=id hpre;simp only[go_sem];repeat' first|apply cj'|intro hc|exact om'|fail
 ·rw[b3g hc]
 ·rw[a9M hc,a9Q hpre];rfl
def a2d:CT:=p6 (fun(x:c8×(List UInt8)) h=>b5t x.1 x.2 h)
@[go_sem] def c4Z:=fun x0 x1 x2 x3 x4 s=>nm' (fP' a2d rfl (⟨x0,x1,x2,x3,x4⟩,s))
def word_no{r:c8}(h:(((r.code != 0)=true\/(r.toks.length:Int)<=r.i)\/((r.toks.getD r.i.toNat default).Kind != 1)=true)\/a4U (r.toks.getD r.i.toNat default).S=true):a8h r=false:=by
 rw[a8h,a0Y,l8];rcases h with((h|h)|h)|h
 ·rw[show(r.code==0)=false by simpa[bne]using h];rfl
 ·rw[V0 h];simp
 ·rw[show((r.toks.getD r.i.toNat default).Kind==1)=false by simpa[bne]using h];simp
 ·rw[h];simp
def d0T{r:c8}(h:(((r.code != 0)=false/\¬(r.toks.length:Int)<=r.i)/\((r.toks.getD r.i.toNat default).Kind != 1)=false)/\a4U (r.toks.getD r.i.toNat default).S=false):a8h r=true:=by
 rw[a8h,a0Y,l8,h.2,show(r.code==0)=true by simpa[bne]using h.1.1.1,V3 h.1.1.2,show((r.toks.getD r.i.toNat default).Kind==1)=true by simpa[bne]using h.1.2];rfl
def b5v(r:c8)(hpre:p7 r):spZ 184 [(false,[.mp [y8 r.toks,.i .i64 r.i,.i .i64 r.e,.i .i64 r.code,.i .i64 r.p]])] [(0,(false,[.mp [y8 ((w6 r).toks),.i .i64 ((w6 r).i),.i .i64 ((w6 r).e),.i .i64 ((w6 r).code),.i .i64 ((w6 r).p)]]))] (.one (false,[.s (a4i r)])):=by
 refine sx' false false (some 0) Tryz.func184 (q' 2 [ao (.mov (.k (.v false [.c (.s [])])))] (.seq (.seq (G' 3 [am 0,ao (.nck (.t 3)),aG 3 4,aC .neq 6 0,am 7,aH 8 false [bm 0,bo (.nck (.t 9)),bF 1,bL,bm 0,bo (.nck (.t 13)),bF 0,bL,bN,bD .geq 12 17],aQ 8 18,am 19,aH 20 false [bm 0,bo (.nck (.t 21)),bF 0,bL,bm 0,bo (.nck (.t 25)),bF 1,bL,bi 4 24 28,bF 0,bL,bC .neq 31 1],aQ 20 32,am 33,aH 34 false [bm 0,bo (.nck (.t 35)),bF 0,bL,bm 0,bo (.nck (.t 39)),bF 1,bL,bi 4 38 42,bF 2,bL,bc 96 [45]],aQ 34 46]) (ci 47 (q' 48 [am 0,ao (.call 94 [.t 48,.k (.v false [.c (.i .i64 6)])])] (q' 2 [ao (.mov (.k (.v false [.c (.s [])])))] .ret)))) (q' 50 [am 0,ao (.nck (.t 50)),aG 1 51,aC .add 53 1,ao (.nck (.t 50)),aF 1,aS 1 56 54] (.seq (G' 57 [am 0,ao (.nck (.t 57)),aG 0 58,am 0,ao (.nck (.t 61)),aG 1 62,aC .sub 64 1,ai 4 60 65,aG 2 66,aV 2]) .ret)))) [.t 2] [(96,[],a0K),(94,[0],z7)] ?_;intro hb hE;obtain⟨⟨h0,h1⟩,h2⟩:=id hpre;have hw1:=a9Q hpre;have hw0:=w_i0 hpre;simp only[go_sem,hw1,hw0];repeat' first|apply cj'|intro hc|exact om'|fail
 ·rw[a4i,w6,word_no hc];exact⟨rfl,rfl⟩
 ·rw[a4i,w6,d0T hc];exact⟨rfl,rfl⟩
def a3x:CT:=p6 (fun(x:c8) h=>b5v x h)
@[go_sem] def c5b:=fun x0 x1 x2 x3 x4=>nm' (fP' a3x rfl ⟨x0,x1,x2,x3,x4⟩)
def b0X{r:c8}(h:(r.code != 0)=true\/(r.toks.length:Int)<=r.i):a0Y r=true:=by
 rw[a0Y];rcases h with h|h
 ·rw[show(r.code==0)=false by simpa[bne]using h];rfl
 ·rw[V0 h];simp
def a7c{r:c8}(h:(r.code != 0)=false/\¬(r.toks.length:Int)<=r.i):a0Y r=false:=by
 rw[a0Y,show(r.code==0)=true by simpa[bne]using h.1,V3 h.2];rfl
def c2c{r:c8}{full:Bool}(h:a0D r=true):a2k r full=default/\o0 r full=l9 r 6:=by
 rw[a2k,o0,h];exact⟨rfl,rfl⟩
def c7Z{r:c8}(h:a0D r=false):a2k r true=default/\o0 r true=l9 r 7:=by
 rw[a2k,o0,h];exact⟨rfl,rfl⟩
def c5M{r:c8}(h:a0D r=false):a2k r false=(bif (l8 r r.i).Kind==2 then⟨(l8 r r.i).S,default⟩else⟨[],⟨(l8 r r.i).N,(l8 r r.i).S⟩⟩)/\o0 r false=v5 r:=by
 rw[a2k,o0,h];exact⟨rfl,rfl⟩
def tb_yes{r:c8}(h:((r.toks.getD r.i.toNat default).Kind==4)=true\/((r.toks.getD r.i.toNat default).Kind==1)=true/\a4U (r.toks.getD r.i.toNat default).S=true):a0D r=true:=by
 rw[a0D,l8];rcases h with h|h
 ·rw[h];simp
 ·rw[h.1,h.2];simp
def tb_no{r:c8}(h0:a0Y r=false)(h:((r.toks.getD r.i.toNat default).Kind==4)=false/\((r.toks.getD r.i.toNat default).Kind==1&&a4U (r.toks.getD r.i.toNat default).S)=false):a0D r=false:=by
 rw[a0D,l8,h0,h.1,h.2];rfl
def b5u(r:c8)(full:Bool)(hpre:p7 r):spZ 271 [(false,[.mp [y8 r.toks,.i .i64 r.i,.i .i64 r.e,.i .i64 r.code,.i .i64 r.p]]),(false,[.b full])] [(0,(false,[.mp [y8 ((o0 r full).toks),.i .i64 ((o0 r full).i),.i .i64 ((o0 r full).e),.i .i64 ((o0 r full).code),.i .i64 ((o0 r full).p)]]))] (.one (true,[.s ((a2k r full).Var),.i .i64 (((a2k r full).Val).N),.s (((a2k r full).Val).S)])):=by
 refine sx' false true (some 0) Tryz.func271 (q' 4 [aw [.s,.i .i64,.s]] (.seq (.seq (G' 6 [am 0,ao (.nck (.t 6)),aG 3 7,aC .neq 9 0,am 10,aH 11 false [bm 0,bo (.nck (.t 12)),bF 1,bL,bm 0,bo (.nck (.t 16)),bF 0,bL,bN,bD .geq 15 20],aQ 11 21]) (ci 22 (q' 23 [am 0,ao (.call 94 [.t 23,.k (.v false [.c (.i .i64 6)])])] (q' 25 [ao (.bld [.s,.i .i64,.s] []),aS 3 4 25] .ret)))) (.seq (.rego [(true,0,m' 26 0),(true,1,o' 27 (.nck (.t 26))),(true,2,f' 28 0 27),(true,3,l' 29 28),(true,4,m' 30 0),(true,5, o' 31 (.nck (.t 30))),(true,6,f' 32 1 31),(true,7,l' 33 32),(true,8,i' 34 4 29 33),(true,9,e' 35 4 34),(false,10,w' 5 [.i .i64,.i .i64,.s,.i .i64]),(false,11,s' 4 5 35)] [0,1,1000000]) (.seq (q' 36 [aG 0 5,aC .eql 37 4,am 38,aH 39 false [bf 0 5,bL,bC .eql 41 1,bm 42],aH 43 true [bf 2 5,bL,bc 96 [45]],aH 39 false [bP 43 46],aQ 39 47] (ci 48 (q' 49 [am 0,ao (.call 94 [.t 49,.k (.v false [.c (.i .i64 6)])])] (q' 51 [ao (.bld [.s,.i .i64,.s] []),aS 3 4 51] .ret)))) (.seq (q' 52 [am 1] (ci 52 (q' 53 [am 0,ao (.call 94 [.t 53,.k (.v false [.c (.i .i64 7)])])] (q' 55 [ao (.bld [.s,.i .i64,.s] []),aS 3 4 55] .ret)))) (q' 56 [am 0,ao (.nck (.t 56)),aG 1 57,aC .add 59 1,ao (.nck (.t 56)),aF 1,aS 1 62 60] (.seq (q' 63 [aG 0 5,aC .eql 64 2] (ci 65 (q' 66 [aG 2 5,ao (.bld [.s,.i .i64,.s] [(0,1,.t 67)]),aS 3 4 68] .ret))) (q' 69 [aG 1 5,aG 2 5,ao (.bld [.i .i64,.s] [(0,1,.t 70),(1,1,.t 72)]),ao (.bld [.s,.i .i64,.s] [(1,2,.t 73)]),aS 3 4 74] .ret)))))))) [.c 4 true 3] [(96,[],a0K),(94,[0],z7)] ?_;intro hb hE;obtain⟨⟨h0,h1⟩,h2⟩:=id hpre;have hw1:=a9Q hpre;simp only[go_sem,hw1];repeat' first|apply cj'|intro hc|exact om'|fail
 ·have h:=c2c (full:=full) (show a0D r=true by rw[a0D,b0X hc];rfl);rw[h.1,h.2];exact⟨⟨⟨rfl,rfl⟩,rfl⟩,rfl⟩
 ·have h:=c2c (full:=full) (tb_yes hc);rw[h.1,h.2];exact⟨⟨⟨rfl,rfl⟩,rfl⟩,rfl⟩
 ·rename_i ha hb;subst hc;have h:=c7Z (tb_no (a7c ha) hb);rw[h.1,h.2];exact⟨⟨⟨rfl,rfl⟩,rfl⟩,rfl⟩
 ·rename_i ha hb hf;subst hf;have h:=c5M (tb_no (a7c ha) hb);rw[h.1,h.2,l8,hc];exact⟨⟨⟨rfl,rfl⟩,rfl⟩,rfl⟩
 ·rename_i ha hb hf;subst hf;have h:=c5M (tb_no (a7c ha) hb);rw[h.1,h.2,l8,hc];exact⟨⟨⟨rfl,rfl⟩,rfl⟩,rfl⟩
def a3w:CT:=p6 (fun(x:c8×Bool) h=>b5u x.1 x.2 h)
@[go_sem] def c5a:=fun x0 x1 x2 x3 x4 x5=>nm' (fP' a3w rfl (⟨x0,x1,x2,x3,x4⟩,x5))
def a7x(r:c8)(hpre:p7 r):spZ 187 [(false,[.p [y8 r.toks,.i .i64 r.i,.i .i64 r.e,.i .i64 r.code,.i .i64 r.p]])] [] (.one (false,[.b (litY r)])):=by
 refine sy' Tryz.func187 (q' 2 [aU false] (.seq (.seq (G' 4 [am 0,ao (.nck (.t 4)),aG 3 5,aC .neq 7 0,am 8,aH 9 false [bm 0,bo (.nck (.t 10)),bF 1,bL,bm 0,bo (.nck (.t 14)),bF 0,bL,bN,bD .geq 13 18],aQ 9 19]) (ci 20 (q' 2 [aU false] .ret))) (.seq (.rego [(true,0,m' 21 0),(true,1,o' 22 (.nck (.t 21))),(true,2,f' 23 0 22),(true,3,l' 24 23),(true,4,m' 25 0),(true,5,o' 26 (.nck (.t 25))),(true,6,f' 27 1 26),(true,7,l' 28 27),(true,8,i' 29 4 24 28),(true,9,e' 30 4 29), (false,10,w' 3 [.i .i64,.i .i64,.s,.i .i64]),(false,11,s' 4 3 30)] [0,1,1000000]) (q' 31 [aG 0 3,aC .eql 32 2,am 33,aH 34 false [bf 0 3,bL,bC .eql 36 3],aQ 34 37,am 38,aH 39 false [bf 0 3,bL,bC .eql 41 1,bm 42],aH 43 true [bf 2 3,bL,bY .eql 45 [110,111,116],bm 46],aH 47 false [bf 2 3,bL,bc 96 [49],bO 50],aH 43 true [bQ 47 51],aH 39 false [bP 43 52],aQ 39 53,aV 2] .ret)))) [.t 2] [(96,[],a0K)] ?_;intro hb hE;obtain⟨⟨h0,h1⟩,h2⟩:=hpre;simp only[go_sem];repeat' first|apply cj'|intro hc|exact om'|fail
 ·rw[litY,b0X hc];rfl
 ·rw[litY,a7c hc];rfl
def a2Z:CT:=p6 (fun(x:c8) h=>a7x x h)
@[go_sem] def b8V:=fun x0 x1 x2 x3 x4=>nm' (fP' a2Z rfl ⟨x0,x1,x2,x3,x4⟩)
def b9D(r:c8)(hpre:p7 r):spZ 272 [(false,[.p [y8 r.toks,.i .i64 r.i,.i .i64 r.e,.i .i64 r.code,.i .i64 r.p]])] [] (.one (false,[.i .i64 (opR r)])):=by
 refine sy' Tryz.func272 (q' 2 [aK 0] (.seq (q' 5 [ao (.bsl 1 4 [.s] [(0,.k (.v false [.c (.s [61])])),(1,.k (.v false [.c (.s [33,61])])),(2,.k (.v false [.c (.s [60])])),(3,.k (.v false [.c (.s [60,61])]))]),aN,aK 0] (fO 0 8 [ar 7 6] 8 1 (q' 9 [am 7,ai 1 5 7,aL,av 3 9,aV 4] (q' 12 [aM [0,0],ao (.nck (.t 13)),aG 1 14,am 4,ac 97 [12,16,17]] (ci 18 (q' 19 [am 3,aC .add 19 1,aV 2] .ret)))) (g' 21 [aA 7]))) (q' 2 [aK 0] .ret))) [.t 2] [(97,[],a0O)] ?_;intro hb hE;obtain⟨⟨h0,h1⟩,h2⟩:=id hpre;simp only[go_sem];repeat' first|apply cj'|intro hc|exact om'|fail
 refine a1v 640 ?_;refine lq' false [0,5,6] [] [] (fun i:{i:Nat // i<=4/\(1<=i->isS r r.i [61]=false)/\(2<=i->isS r r.i [33,61]=false)/\(3<=i->isS r r.i [60]=false)/\(4<=i->isS r r.i [60,61]=false)}=>[(7,slV (.i .i64 i.1))]) nl' nl' (fun i=>4-i.1) (⟨0,by omega,by omega,by omega,by omega,by omega⟩) ?_;intro S0 hS0 i;obtain⟨i,hi,g1,g2,g3,g4⟩:=i;rcases(by omega:i=0\/i=1\/i=2\/i=3\/i=4)with rfl|rfl|rfl|rfl|rfl
 all_goals(
  simp only[go_sem,hS0];repeat' first|apply cj'|intro hc|exact om'|fail)
 ·rw[opR,hc];rfl
 ·exact nx0 ⟨1,by omega,fun _=>hc,by omega,by omega,by omega⟩
 ·rw[opR,g1 (by omega),hc];rfl
 ·exact nx0 ⟨2,by omega,fun _=>g1 (by omega),fun _=>hc,by omega,by omega⟩
 ·rw[opR,g1 (by omega),g2 (by omega),hc];rfl
 ·exact nx0 ⟨3,by omega,fun _=>g1 (by omega),fun _=>g2 (by omega),fun _=>hc,by omega⟩
 ·rw[opR,g1 (by omega),g2 (by omega),g3 (by omega),hc];rfl
 ·exact nx0 ⟨4,by omega,fun _=>g1 (by omega),fun _=>g2 (by omega),fun _=>g3 (by omega),fun _=>hc⟩
 ·rw[opR,g1 (by omega),g2 (by omega),g3 (by omega),g4 (by omega)];rfl
def a9e:CT:=p6 (fun(x:c8) h=>b9D x h)
@[go_sem] def c8z:=fun x0 x1 x2 x3 x4=>nm' (fP' a9e rfl ⟨x0,x1,x2,x3,x4⟩)
def a1e{r:c8}(h:p7 r)(c:Int):p7 (l9 r c):=by
 rw[l9];cases r.code==0<;>exact h
def a0m{r:c8}(h:p7 r)(h2:r.i<r.toks.length):p7 (v5 r):=by
 obtain⟨⟨h0,h1⟩,h3⟩:=h;exact⟨⟨by show 0<=r.i+1;omega,by show r.i+1<=(r.toks.length:Int);omega⟩,h3⟩
def a0G{r:c8}{i:Int}{s:List UInt8}(h:isS r i s=true):r.code=0/\i<r.toks.length:=by
 simp only[isS,W7,beq_iff_eq,q0B]at h;exact⟨h.1.1.1,h.1.1.2⟩
def b9P{r:c8}(h:p7 r)(s:List UInt8):p7 (t9 r s):=by
 cases hs:isS r r.i s with
 | true=>rw[a9M hs];exact a0m h (a0G hs).2
 | false=>rw[b3g hs];exact a1e h 6
def a4V{r:c8}(h:a0Y r=false):r.i<r.toks.length:=by
 simp only[a0Y,q1A,q2K]at h;omega
def b9W{r:c8}(h:p7 r):p7 (w6 r):=by
 rw[w6];cases hw:a8h r with
 | true=>
   refine a0m h (a4V ?_);simp only[a8h,q0U,q1A]at hw;exact hw.1
 | false=>exact a1e h 6
def a9N{r:c8}(h:p7 r)(full:Bool):p7 (o0 r full):=by
 rw[o0];cases hb:a0D r with
 | true=>exact a1e h 6
 | false=>
   cases full with
   | true=>exact a1e h 7
   | false=>
     refine a0m h (a4V ?_);simp only[a0D,q1A]at hb;exact hb.1
def b5q(t:f9):spZ 93 [(true,[.i .i64 t.Kind,.i .i64 t.N,.s t.S,.i .i64 t.At])] [] (.one (false,[.i .i64 (a2m t)])):=by
 refine sy' Tryz.func93 (q' 1 [aX 4 0,aK 0] (.seq (q' 5 [ao (.bsl 1 3 [.s] [(0,.k (.v false [.c (.s [115,116,97,116,101])])),(1,.k (.v false [.c (.s [101,118,101,110, 116])])),(2,.k (.v false [.c (.s [118,105,101,119])]))]),aN,aK 0] (fO 0 8 [ar 7 6] 8 1 (q' 9 [am 7,ai 1 5 7,aL,av 3 9,aV 4] (q' 12 [aG 0 1,aC .eql 13 1,am 14,aH 15 true [bf 2 1,bL,bm 4,bD .eql 17 18],aP 15 19] (ci 20 (q' 21 [am 3,aC .add 21 1,aV 2] .ret)))) (g' 23 [aA 7]))) (q' 2 [aK 0] .ret))) [.t 2] [] ?_;intro hb hE;simp only[go_sem];repeat' first|apply cj'|intro hc|exact om'|fail
 refine a1v 640 ?_;refine lq' false [1,5,6] [2] [] (fun i:{i:Nat // i<=3/\(1<=i->(t.Kind==1&&t.S==b9H)=false)/\(2<=i->(t.Kind==1&&t.S==b9G)=false)/\(3<=i->(t.Kind==1&&t.S==c3Z)=false)}=>[(7,slV (.i .i64 i.1))]) nl' nl' (fun i=>3-i.1) (⟨0,by omega,by omega,by omega,by omega⟩) ?_;intro S0 hS0 i;obtain⟨i,hi,g1,g2,g3⟩:=i;rcases(by omega:i=0\/i=1\/i=2\/i=3)with rfl|rfl|rfl|rfl
 all_goals(
  simp only[go_sem,hS0];repeat' first|apply cj'|intro hc|exact om'|fail)
 ·rw[a2m,show(t.Kind==1&&t.S==b9H)=true by rw[hc.1];exact hc.2];rfl
 ·exact nx0 ⟨1,by omega,fun _=>hc,by omega,by omega⟩
 ·rw[a2m,g1 (by omega),show(t.Kind==1&&t.S==b9G)=true by rw[hc.1];exact hc.2];rfl
 ·exact nx0 ⟨2,by omega,fun _=>g1 (by omega),fun _=>hc,by omega⟩
 ·rw[a2m,g1 (by omega),g2 (by omega),show(t.Kind==1&&t.S==c3Z)=true by rw[hc.1];exact hc.2];rfl
 ·exact nx0 ⟨3,by omega,fun _=>g1 (by omega),fun _=>g2 (by omega),fun _=>hc⟩
 ·rw[a2m,g1 (by omega),g2 (by omega),g3 (by omega)];rfl
def a6G:CT:=o9 (fun(x:f9)=>b5q x)
@[go_sem] def c4W:=fun x0 x1 x2 x3=>nm' (fQ' a6G rfl ⟨x0,x1,x2,x3⟩)
def decl_no{r r1:c8}{k:Int}(e:t9 (w6 r) [47]=r1)(h:((r1.code != 0)=true\/(r1.toks.length:Int)<=r1.i)\/((r1.toks.getD r1.i.toNat default).Kind != 3)=true):a0E r k=(l9 r1 6,⟨k,a4i r,0⟩):=by
 have e':t9 (w6 r) a1p=r1:=e;have hy:a9i r1=false:=by
  rw[a9i,l8];rcases h with h|h
  ·rw[b0X h];rfl
  ·rw[show((r1.toks.getD r1.i.toNat default).Kind==3)=false by simpa[bne]using h];simp
 simp only[a0E,e',hy,W6]
def c0V{r r1:c8}{k:Int}(e:t9 (w6 r) [47]=r1)(h:((r1.code != 0)=false/\¬(r1.toks.length:Int)<=r1.i)/\((r1.toks.getD r1.i.toNat default).Kind != 3)=false):a0E r k=bif decide (6<(l8 r1 r1.i).N)then(l9 r1 7,⟨k,a4i r,(l8 r1 r1.i).N⟩)else(t9 (v5 r1) b5R,⟨k,a4i r,(l8 r1 r1.i).N⟩):=by
 have e':t9 (w6 r) a1p=r1:=e;have hy:a9i r1=true:=by
  rw[a9i,a7c h.1,l8,show((r1.toks.getD r1.i.toNat default).Kind==3)=true by simpa[bne]using h.2];rfl
 simp only[a0E,e',hy,W4]
def at_ok{r:c8}(h:p7 r)(h2:(r.code != 0)=false/\¬(r.toks.length:Int)<=r.i):0<=r.i/\r.i<r.toks.length:=⟨h.1.1,by omega⟩
def b5p(r:c8)(k:Int)(hpre:p7 r):spZ 95 [(false,[.mp [y8 r.toks,.i .i64 r.i,.i .i64 r.e,.i .i64 r.code,.i .i64 r.p]]),(false,[.i .i64 k])] [(0,(false,[.mp [y8 (((a0E r k).1).toks),.i .i64 (((a0E r k).1).i),.i .i64 (((a0E r k).1).e),.i .i64 (((a0E r k).1).code),.i .i64 (((a0E r k).1).p)]]))] (.one (true,[.i .i64 (((a0E r k).2).Kind),.s (((a0E r k).2).Name),.i .i64 (((a0E r k).2).Arity)])):=by
 refine sx' false true (some 0) Tryz.func95 (q' 4 [aw [.i .i64,.s,.i .i64]] (q' 6 [aM [1,0],ac 184 [7],ao (.bld [.i .i64,.s,.i .i64] [(0,1,.t 6),(1,1,.t 8)]),ax (w' 5 [.i .i64,.s,.i .i64]),aS 3 5 9] (q' 10 [am 0,ao (.call 185 [.t 10,.k (.v false [.c (.s [47])])])] (.seq (.seq (G' 12 [am 0,ao (.nck (.t 12)),aG 3 13,aC .neq 15 0,am 16,aH 17 false [bm 0,bo (.nck (.t 18)),bF 1,bL,bm 0,bo (.nck (.t 22)),bF 0,bL,bN,bD .geq 21 26],aQ 17 27,am 28,aH 29 false [bm 0,bo (.nck (.t 30)),bF 0,bL,bm 0,bo (.nck (.t 34)),bF 1,bL,bi 4 33 37,bF 0,bL,bC .neq 40 3],aQ 29 41]) (ci 42 (q' 43 [am 0,ao (.call 94 [.t 43,.k (.v false [.c (.i .i64 6)])])] (q' 45 [ae 3 5,aS 3 4 45] .ret)))) (.seq (.rego [(true,0,m' 46 0),(true,1,o' 47 (.nck (.t 46))),(true,2,f' 48 0 47),(true,3,l' 49 48),(false,4,m' 50 0),(false,5,o' 51 (.nck (.t 50))),(false,6,f' 52 1 51),(false,7,l' 53 52),(false,8,i' 54 4 49 53),(false,9,f' 55 1 54),(false,10,l' 56 55),(false,11,f' 57 2 5),(false,12,s' 1 57 56)] [0,1,1000000]) (.seq (q' 58 [aG 2 5,aC .gtr 59 6] (ci 60 (q' 61 [am 0,ao (.call 94 [.t 61,.k (.v false [.c (.i .i64 7)])])] (q' 63 [ae 3 5,aS 3 4 63] .ret)))) (q' 64 [am 0,ao (.nck (.t 64)),aG 1 65,aC .add 67 1,ao (.nck (.t 64)),aF 1,aS 1 70 68] (q' 71 [am 0,ao (.call 185 [.t 71, .k (.v false [.c (.s [46])])])] (q' 73 [ae 3 5,aS 3 4 73] .ret))))))))) [.c 4 true 3] [(184,[0],a3x),(185,[0],a2d),(94,[0],z7)] ?_;intro hb hE;have hwo:=b9W hpre;have hto:=b9P hwo [47];have hw1:=a9Q hto;simp only[go_sem,hw1];repeat' first|apply cj'|intro hc|exact om'|fail
 all_goals(try generalize hr1:t9 (w6 r) [47]=r1 at*)
 all_goals first
  | exact hpre
  | exact hwo
  | exact hto
  | exact at_ok hto hc
  | exact at_ok hto hc.1
  | (rw[decl_no hr1 hc];exact⟨⟨⟨rfl,rfl⟩,rfl⟩,rfl⟩)
  | (rename_i h;rw[c0V hr1 h,l8,V0 hc];exact⟨⟨⟨rfl,rfl⟩,rfl⟩,rfl⟩)
  | (rename_i h;exact a0m hto (at_ok hto h.1).2)
  | (rename_i h;rw[c0V hr1 h,l8,V3 hc];exact⟨⟨⟨rfl,rfl⟩,rfl⟩,rfl⟩)
  | trace_state
def a6F:CT:=p6 (fun(x:c8×Int) h=>b5p x.1 x.2 h)
@[go_sem] def c4V:=fun x0 x1 x2 x3 x4 k=>nm' (fP' a6F rfl (⟨x0,x1,x2,x3,x4⟩,k))
def a2f(r:c8)(c:Int):(l9 r c).toks=r.toks/\(l9 r c).i=r.i:=by
 rw[l9];cases r.code==0<;>exact⟨rfl,rfl⟩
def c4e(r:c8)(full:Bool):(o0 r full).toks=r.toks/\r.i<=(o0 r full).i:=by
 rw[o0];cases a0D r with
 | true=>exact⟨(a2f r 6).1,by show r.i<=(l9 r 6).i;rw[(a2f r 6).2];omega⟩
 | false=>
   cases full with
   | true=>exact⟨(a2f r 7).1,by show r.i<=(l9 r 7).i;rw[(a2f r 7).2];omega⟩
   | false=>exact⟨rfl,by show r.i<=r.i+1;omega⟩
def b3X:∀(n m:Nat) {r:c8} {a:List d4},p7 r->r.toks.length<n+r.i.toNat->r.toks.length<m+r.i.toNat->a8p n r a=a8p m r a
 | 0,_,r,a,h,h1,_=>by obtain⟨⟨h0,h2⟩,_⟩:=h;omega
 | _,0,r,a,h,_,h1=>by obtain⟨⟨h0,h2⟩,_⟩:=h;omega
 | n+1,m+1,r,a,h,h1,h2=>by
   rw[a8p,a8p];cases r.code==0 with
   | false=>rfl
   | true=>
     rw[W4,W4];cases hs:isS (o0 r ((a.length:Int)==6)) (o0 r ((a.length:Int)==6)).i a0s with
     | false=>rfl
     | true=>
       have ht:=c4e r ((a.length:Int)==6);have hk:=a9N h ((a.length:Int)==6);have hlt:=(a0G hs).2;rw[W4,W4];have h0:=h.1.1;have h3:=hk.1.1;refine b3X n m (a0m hk hlt) ?_ ?_
       ·show(o0 r ((a.length:Int)==6)).toks.length<n+((o0 r ((a.length:Int)==6)).i+1).toNat
        rw[ht.1];omega
       ·show(o0 r ((a.length:Int)==6)).toks.length<m+((o0 r ((a.length:Int)==6)).i+1).toNat
        rw[ht.1];omega
def a7D(r:c8)(a:List d4):c8×List d4:=a8p (a0R r) r a
def c6x{r:c8}{a:List d4}(h:¬r.code=0):a7D r a=(r,a):=by
 rw[a7D];cases a0R r with
 | zero=>rfl
 | succ n=>rw[a8p,show(r.code==0)=false by simpa using h];rfl
def c0y{r:c8}{a:List d4}(h:p7 r)(hc:r.code=0):a7D r a=bif isS (o0 r ((a.length:Int)==6)) (o0 r ((a.length:Int)==6)).i a0s then a7D (v5 (o0 r ((a.length:Int)==6))) (a++[a2k r ((a.length:Int)==6)])else(o0 r ((a.length:Int)==6),a++[a2k r ((a.length:Int)==6)]):=by
 have h0:=h.1;have hf:a0R r=(a0R r-1)+1:=by rw[a0R];omega
 rw[a7D,hf,a8p,show(r.code==0)=true by simpa using hc,W4];cases hs:isS (o0 r ((a.length:Int)==6)) (o0 r ((a.length:Int)==6)).i a0s with
 | false=>rfl
 | true=>
   have ht:=c4e r ((a.length:Int)==6);have hk:=a9N h ((a.length:Int)==6);have hlt:=(a0G hs).2;have h3:=hk.1.1;rw[W4,W4,a7D];refine b3X _ _ (a0m hk hlt) ?_ ?_
   ·show(o0 r ((a.length:Int)==6)).toks.length<a0R r-1+((o0 r ((a.length:Int)==6)).i+1).toNat
    rw[ht.1,a0R];omega
   ·show(o0 r ((a.length:Int)==6)).toks.length<a0R (v5 (o0 r ((a.length:Int)==6)))+((o0 r ((a.length:Int)==6)).i+1).toNat
    rw[a0R];show _<(o0 r ((a.length:Int)==6)).toks.length+2-((o0 r ((a.length:Int)==6)).i+1).toNat+_;omega
def c3a{r r1:c8}(e:t9 (w6 r) [40]=r1)(h:isS r1 r1.i [41]=true):y3 r=(v5 r1,⟨a4i r,[]⟩):=by
 have e':t9 (w6 r) a0C=r1:=e;rw[y3,e',show isS r1 r1.i a8x=true from h];rfl
def b7F{r r1:c8}(e:t9 (w6 r) [40]=r1)(h:isS r1 r1.i [41]=false):y3 r=(t9 (a7D r1 []).1 a8x,⟨a4i r,(a7D r1 []).2⟩):=by
 have e':t9 (w6 r) a0C=r1:=e;rw[y3,e',show isS r1 r1.i a8x=false from h];rfl
def b5o(r:c8)(hpre:p7 r):spZ 186 [(false,[.mp [y8 r.toks,.i .i64 r.i,.i .i64 r.e,.i .i64 r.code,.i .i64 r.p]])] [(0,(false,[.mp [y8 (((y3 r).1).toks),.i .i64 (((y3 r).1).i),.i .i64 (((y3 r).1).e),.i .i64 (((y3 r).1).code),.i .i64 (((y3 r).1).p)]]))] (.one (true,[.s (((y3 r).2).Name),c3S (((y3 r).2).Args)])):=by
 refine sx' false false (some 0) Tryz.func186 (q' 2 [aw [.s,.sl j3]] (q' 4 [am 0,ac 184 [4],ao (.bld [.s,.sl j3] [(0,1,.t 5)]),ax (w' 3 [.s,.sl j3]),aS 2 3 6] (q' 7 [am 0,ao (.call 185 [.t 7,.k (.v false [.c (.s [40])])])] (.seq (q' 9 [aM [0,0],ao (.nck (.t 10)),aG 1 11,ao (.call 97 [.t 9,.t 13,.k (.v false [.c (.s [41])])])] (ci 14 (q' 15 [am 0,ao (.nck (.t 15)),aG 1 16,aC .add 18 1,ao (.nck (.t 15)),aF 1,aS 1 21 19] (q' 22 [ae 2 3,aS 2 2 22] .ret)))) (.seq (lO 0 (.seq (q' 23 [am 0,ao (.nck (.t 23)),aG 3 24,aC .eql 26 0] (cd 27 .skip (.exit 0))) (.block 1 (.seq (.regm [(true,2,m' 30 0), (false,0,f' 28 1 3),(false,1,l' 29 28),(false,3,f' 31 1 3),(false,4,l' 32 31),(false,5,n' 33 32),(false,6,o' 34 (.bin .eql (.t 33) (k' 6))), (false,7,c' 35 271 [30,34]),(false,8,o' 36 (.bsl 3 1 [.s,.i .i64,.s] [(0,.t 35)])),(false,9,o' 37 (.app 3 40 [.s,.i .i64,.s] (.t 29) (.t 36))), (false,10,f' 38 1 3),(false,11,s' 1 38 37)] [[(true,2,m' 30 0),(false,0,f' 28 1 3),(false,3,f' 31 1 3),(false,4,l' 32 31),(false,5,n' 33 32),(true,6,o' 34 (.bin .eql (.t 33) (k' 6))),(false,7,c' 35 271 [30,34]),(false,1,l' 29 28),(false,8,o' 36 (.bsl 3 1 [.s,.i .i64,.s] [(0,.t 35)])),(false,9,o' 37 (.app 3 40 [.s,.i .i64,.s] (.t 29) (.t 36))),(false,10,f' 38 1 3),(false,11,s' 1 38 37)],[(true,2,m' 30 0),(false,0,f' 28 1 3),(false,3,f' 31 1 3),(false,4,l' 32 31),(false,5,n' 33 32),(true,6,o' 34 (.bin .eql (.t 33) (k' 6))),(false,7,c' 35 271 [30,34]), (false,8,o' 36 (.bsl 3 1 [.s,.i .i64,.s] [(0,.t 35)])),(false,1,l' 29 28),(false,9,o' 37 (.app 3 40 [.s,.i .i64,.s] (.t 29) (.t 36))),(false, 10,f' 38 1 3),(false,11,s' 1 38 37)],[(true,2,m' 30 0),(false,3,f' 31 1 3),(false,4,l' 32 31),(false,5,n' 33 32),(true,6,o' 34 (.bin .eql (.t 33) (k' 6))),(false,7,c' 35 271 [30,34]),(false,0,f' 28 1 3),(false,1,l' 29 28),(false,8,o' 36 (.bsl 3 1 [.s,.i .i64,.s] [(0,.t 35)])), (false,9,o' 37 (.app 3 40 [.s,.i .i64,.s] (.t 29) (.t 36))),(false,10,f' 38 1 3),(false,11,s' 1 38 37)],[(true,2,m' 30 0),(false,3,f' 31 1 3), (false,4,l' 32 31),(false,5,n' 33 32),(true,6,o' 34 (.bin .eql (.t 33) (k' 6))),(false,7,c' 35 271 [30,34]),(false,0,f' 28 1 3),(false,8,o' 36 (.bsl 3 1 [.s,.i .i64,.s] [(0,.t 35)])),(false,1,l' 29 28),(false,9,o' 37 (.app 3 40 [.s,.i .i64,.s] (.t 29) (.t 36))),(false,10,f' 38 1 3), (false,11,s' 1 38 37)],[(true,2,m' 30 0),(false,3,f' 31 1 3),(false,4,l' 32 31),(false,5,n' 33 32),(true,6,o' 34 (.bin .eql (.t 33) (k' 6))), (false,7,c' 35 271 [30,34]),(false,8,o' 36 (.bsl 3 1 [.s,.i .i64,.s] [(0,.t 35)])),(false,0,f' 28 1 3),(false,1,l' 29 28),(false,9,o' 37 (.app 3 40 [.s,.i .i64,.s] (.t 29) (.t 36))),(false,10,f' 38 1 3),(false,11,s' 1 38 37)]] []) (.seq (q' 39 [aM [0,0],ao (.nck (.t 40)),aG 1 41,ao (.call 97 [.t 39,.t 43,.k (.v false [.c (.s [44])])]),aO 44] (ci 45 (.exit 0))) (g' 46 [am 0,ao (.nck (.t 46)),aG 1 47,aC .add 49 1,ao (.nck (.t 46)),aF 1,aS 1 52 50])))))) (q' 53 [am 0,ao (.call 185 [.t 53,.k (.v false [.c (.s [41])])])] (q' 55 [ae 2 3,aS 2 2 55] .ret))))))) [.c 2 true 2] [(184,[0],a3x),(185,[0],a2d),(97,[],a0O),(271,[0],a3w)] ?_;intro hb hE;have hwo:=b9W hpre;have hto:=b9P hwo [40];have hw1:=a9Q hto;simp only[go_sem,hw1,pc_susB];(repeat' first|apply cj'|intro hc|apply z6);(all_goals(try(refine(show A3U _ _ _ _ _ _ from ?_);simp only[go_sem,hw1,pc_susB]at hc ⊢;simp only[go_sem,hw1,pc_susB,A7u,A7y,A6L,A6K,A7t,A6J,nf_put_sub,A7w,A7v,nf_put_susK,nf_put_dip,nf_put_put,A7x,A7s,A6M,j8,j6,j4,j5,j7,nf_sub_sub]at hc ⊢;simp only[hc,q0R,q0I];done)));all_goals try exact om'
 ·exact hpre
 ·exact hwo
 all_goals(try generalize hr1:t9 (w6 r) [40]=r1 at*)
 ·exact⟨hto,hto.1.1⟩
 ·rw[c3a hr1 hc];exact⟨⟨rfl,rfl⟩,rfl⟩
 refine lk' false [(true,6,1,200012)] [0,2,3] [4] [] (fun i:{q:c8×List d4 // p7 q.1/\q.1.toks=r1.toks/\(q.2.length:Int)<=q.1.i/\a7D q.1 q.2=a7D r1 []}=>[]) (fun i=>[(6,[.c (.s (a4i r)),.ow 200012]),(1,[.c (y8 i.1.1.toks),.c (.i .i64 i.1.1.i),.c (.i .i64 i.1.1.e),.c (.i .i64 i.1.1.code),.c (.i .i64 i.1.1.p)])]) (fun i=>[(200012,j3,i.1.2.map d4.cells)]) (fun i=>r1.toks.length-i.1.1.i.toNat) (⟨(r1,[]),hto,rfl,hto.1.1,rfl⟩) ?_;intro S0 hS0 i;have hsh:=hc;obtain⟨⟨q,a⟩,hq,hqt,hal,hqe⟩:=i;simp only at hq hqt hal hqe;have hln:a.length<=6000:=by have:=hq.1.2;have:=hq.2;omega
 have htk:=fun f=>a9N hq f
 simp only[go_sem,hw1,pc_susB,hS0];(repeat' first|apply cj'|intro hc|apply z6);(all_goals(try((first|refine u1 1 rfl ?_);intro S hS B0 hB;simp only[go_sem,hw1,pc_susB,hS0,V7,q0O]at hS hB;(repeat(first|replace hS:=And.right hS|replace hS:=CJ.r hS));have Rr0:=congrArg (fun s:St=>s.sl 0) hS;have Rr3:=congrArg (fun s:St=>s.sl 3) hS;have Rr30:=congrArg (fun s:St=>s.sl 30) hS;have Rb1:=congrArg (fun s:St=>s.bx 1) hS;have Rb6:=congrArg (fun s:St=>s.bx 6) hS;have Ro200012:=congrArg (fun s:St=>s.ow 200012) hS;clear hS;simp only[go_sem,hw1,pc_susB,hS0]at Rr0 Rr3 Rr30 Rb1 Rb6 Ro200012;(try clear hc);intro K hc;simp only[go_sem,hw1,pc_susB,hS0,Rr0,Rr3,Rr30,Rb1,Rb6,Ro200012,hB,V8,q0K,V6,q0G]at hc ⊢;simp only[go_sem,hw1,pc_susB,hS0,Rr0,Rr3,Rr30,Rb1,Rb6,Ro200012,hB,A7u,A7y,A6L,A6K,A7t,A6J,nf_put_sub,A7w,A7v,nf_put_susK,nf_put_dip,nf_put_put,A7x,A7s,A6M,j8,j6,j4,j5,j7,nf_sub_sub]at hc ⊢;(first|(simp only[hc,q0R,q0I];done)|((repeat' first|exact hc|apply V1);done)))));all_goals try exact om'
 ·exact hq
 ·exact⟨htk _,(htk _).1.1⟩
 ·exact htk _
 ·rename_i hcd;rw[b7F hr1 hsh,<-hqe,c0y hq (by simpa using hcd),show isS (o0 q ((a.length:Int)==6)) (o0 q ((a.length:Int)==6)).i a0s=false from hc,W6];exact⟨⟨rfl,rfl⟩,rfl⟩
 ·rename_i hcd;have hlt:=(a0G hc).2;have hon:=c0y hq (a:=a) (by simpa using hcd);rw[show isS (o0 q ((a.length:Int)==6)) (o0 q ((a.length:Int)==6)).i a0s=true from hc,W4]at hon;have hst:=a0m (htk ((a.length:Int)==6)) hlt;have h00:=hq.1.1;have ht:=c4e q ((a.length:Int)==6);have hw3:=a9Q (htk ((a.length:Int)==6))
  (refine lpK_n2 (⟨(v5 (o0 q ((a.length:Int)==6)),a++[a2k q ((a.length:Int)==6)]),hst,ht.1.trans hqt,by show((a++[_]).length:Int)<=(o0 q ((a.length:Int)==6)).i+1;rw[W5];have:=ht.2;simp only[V5,q0X];omega,hon.symm.trans hqe⟩) _ (by simp only[go_sem,hw1,pc_susB];try rfl) ?_;simp only[go_sem,hw1,pc_susB,hS0]<;>repeat' first|apply V1|exact on'|fail)
  ·show r1.toks.length-((o0 q ((a.length:Int)==6)).i+1).toNat<r1.toks.length-q.i.toNat
   have h1:=ht.2;rw[ht.1,hqt]at hlt;omega
  ·exact hw3
 ·exact hq
 ·rw[b7F hr1 hsh,<-hqe,c6x (by simpa using hc)];exact⟨⟨rfl,rfl⟩,rfl⟩
def a3v:CT:=p6 (fun(x:c8) h=>b5o x h)
@[go_sem] def c4U:=fun x0 x1 x2 x3 x4=>nm' (fP' a3v rfl ⟨x0,x1,x2,x3,x4⟩)
end
end Go.Aw
