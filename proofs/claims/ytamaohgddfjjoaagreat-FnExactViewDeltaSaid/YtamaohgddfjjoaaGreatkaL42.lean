/- Marked programs, states. No condition. -/
import Derived.Test.YtamaohgddfjjoaaGreatkaM4
namespace Go.Aw
noncomputable section
open Go.Proofs
attribute [local irreducible] aft blk lpK retK AW A0d
set_option linter.all false
set_option maxRecDepth 100000
set_option maxHeartbeats 4000000
def b6x(k:Int):e7:=(e7.mk k (a3V (k+1)) (k+2))
def a2u(n:Nat)(k:Int):List e7:=(List.range n).map fun i:Nat=>b6x (k+3*(i:Int))
def a3u(n:Nat)(k:Int):(a2u n k).length=n:=by simp[a2u]
def c2S(n:Nat)(k:Int){i:Nat}(h:i<n):(a2u n k).getD i default=b6x (k+3*(i:Int)):=by
 rw[W5,a2u,q3K,List.getElem?_range h];rfl
def a0e(x:c8):Nat:=2+3*x.Head.Args.length+j4 v7 x.Body
def a2t(x:c8)(k:Int):c8:=c8.mk k (f7.mk (a3V (k+1)) (a2v x.Head.Args.length (k+2))) (mkL a4S v7 x.Body ((k+2)+3*(x.Head.Args.length:Nat)))
def o6(x:d3):Nat:=2*x.V.length
def z6(x:d3)(k:Int):d3:=d3.mk (a1C x.V.length k)
def v9(x:c9):Nat:=2+j4 o6 x.Rel.Rows
def a2l(x:c9)(k:Int):c9:=c9.mk (a3V k) (d8.mk (k+1) (mkL z6 o6 x.Rel.Rows (k+2)))
def b5W(a:List e7)(k:Int)(hpre:0<=k/\k+3*(a.length:Nat)<=4611686018427387904):spZ 65 [(false,[b5K a]),(false,[.i .i64 k])] [(0,(false,[b5K (a2u a.length k)]))] (.one (false,[.i .i64 (k+3*(a.length:Nat))])):=by
 refine sx' true false (some 0) Tryz.func65 (q' 4 [aK 0] (.seq (q' 5 [aK 0] (fo 0 6 [aM [5,0],aN,ar 6 8] 9 1 (q' 12 [aM [0,5,1],ai 3 12 13,aF 0,aS 1 16 14] (q' 17 [aB 1] (q' 19 [aM [0,5,1],ac 96 [21],ai 3 19 20,aF 1,aS 1 24 22] (q' 25 [aB 1] (q' 27 [aM [0,5,1],ai 3 27 28,aF 2,aS 1 31 29] (g' 32 [aB 1])))))) (g' 10 [aB 5]))) (q' 34 [am 1,aV 4] .ret))) [.t 4] [(96,[],w5)] ?_;intro hb hE;simp only[go_sem];repeat' first|apply cj'|intro hc|exact om'|fail
 refine lq' true [0] [] [] (fun i:{p:Nat×(List e7) // p.1<=a.length/\p.2.length=a.length/\p.2.take p.1=(a2u a.length k).take p.1}=>[(5,slV (.i .i64 i.1.1)),(1,slV (.i .i64 (k+3*(i.1.1:Int))))]) nl' (fun i=>[(1,a9Y,i.1.2.map e7.cells)]) (fun i=>a.length-i.1.1) (⟨(0,a),z0D⟩) ?_;intro S0 hS0 i;obtain⟨⟨i,L⟩,hi,hl,ht⟩:=i;simp only at hi hl ht;by_cases hil:(i:Int)<L.length
 ·have hgs:∀x,(L.set i x).getD i default=x:=fun x=>by rw[W5,q0W z0C];rfl
  have hss:∀x y,(L.set i x).set i y=L.set i y:=fun x y=>q3B ..
  have hw0:IntKind.i64.wrap (k+3*(i:Int)+1)=k+3*(i:Int)+1:=w64 z0C z0C z0C;have hw1:IntKind.i64.wrap (k+3*(i:Int)+1+1)=k+3*(i:Int)+2:=w64 z0C z0C z0C;have hw2:IntKind.i64.wrap (k+3*(i:Int)+2+1)=k+3*(i:Int)+3:=w64 z0C z0C z0C;simp only[go_sem,hS0,hgs,hss,hil,hw0,hw1,hw2];repeat' first|apply cj'|intro hc|exact om'|fail
  (refine lpK_n2 (⟨(i+1,L.set i (b6x (k+3*(i:Int)))),z0F,z1H,by rw[<-c2S a.length k (show i<a.length by omega)];exact z8 (by rw[hl,a3u]) ht (by rw[a3u];omega)⟩) _ rfl ?_;simp only[go_sem,hS0,hgs,hss,hil,hw0,hw1,hw2]<;>repeat' first|apply W6|exact on'|fail)
  ·exact(hc trivial).elim
 ·simp only[go_sem,hS0,hil];repeat' first|apply cj'|intro hc|exact om'|fail
  obtain rfl:i=a.length:=by omega
  obtain rfl:=u6 (by rw[hl,a3u]) ht (by rw[a3u];omega);exact⟨rfl,rfl⟩
def a6u:CT:=k8 (fun(x:(List e7)×Int) h=>b5W x.1 x.2 h)
@[go_sem] def d1C:=fun a k=>nm' (fP' a6u rfl (a,k))
def b5Y(a:List c8)(k:Int)(hpre:0<=k/\k+(j4 a0e a:Nat)<=4611686018427387904):spZ 66 [(false,[b5J a]),(false,[.i .i64 k])] [(0,(false,[b5J (mkL a2t a0e a k)]))] (.one (false,[.i .i64 (k+(j4 a0e a:Nat))])):=by
 refine sx' true false (some 0) Tryz.func66 (q' 4 [aK 0] (.seq (q' 5 [aK 0] (fo 0 6 [aM [5,0],aN,ar 6 8] 9 1 (q' 12 [aM [0,5,1],ai 4 12 13,aF 0,aS 1 16 14] (q' 17 [aB 1] (q' 19 [aM [0,5,1],ac 96 [21],ai 4 19 20,aF 1,aF 0,aS 1 25 22] (q' 26 [aB 1] (q' 28 [aM [0,5],aI 4,aF 1,aG 1 31,am 1,ac 121 [33,34],aV 1] (g' 36 [aM [0,5],aI 4,aG 3 38,am 1,ac 122 [40,41],aV 1])))))) (g' 10 [aB 5]))) (q' 43 [am 1,aV 4] .ret))) [.t 4] [(96,[],w5),(121,[0],a2Z),(122,[0],a7T)] ?_;intro hb hE;simp only[go_sem];repeat' first|apply cj'|intro hc|exact om'|fail
 refine lq' true [0] [] [] (fun i:{p:Nat×List c8 // p.1<=a.length/\p.2=mkL a2t a0e (a.take p.1) k++a.drop p.1}=>[(5,slV (.i .i64 i.1.1)),(1,slV (.i .i64 (k+(j4 a0e (a.take i.1.1):Nat))))]) nl' (fun i=>[(1,c3z,i.1.2.map (c8.cells true true))]) (fun i=>a.length-i.1.1) (⟨(0,a),by simp[mkL]⟩) ?_;intro S0 hS0 i;obtain⟨⟨i,L⟩,hi,hL⟩:=i;simp only at hi hL;have hl:L.length=a.length:=by rw[hL];exact b4l a2t a0e a k i
 by_cases hil:(i:Int)<L.length
 ·have hgs:∀x,(L.set i x).getD i default=x:=fun x=>by rw[W5,q0W z0C];rfl
  have hss:∀x y,(L.set i x).set i y=L.set i y:=fun x y=>q3B ..
  have hg2:∀x,((L.map (c8.cells true true)).set i x).getD i c3z=x:=fun x=>by rw[W5,q0W z0X];rfl
  have hs2:∀x z,((L.map (c8.cells true true)).set i x).set i z=(L.map (c8.cells true true)).set i z:=fun x z=>q3B ..
  have hg3:∀y x,(((L.set i y).map (c8.cells true true)).set i x).getD i c3z=x:=fun y x=>by rw[W5,q0W z1U];rfl
  have hs3:∀y x z,(((L.set i y).map (c8.cells true true)).set i x).set i z=((L.set i y).map (c8.cells true true)).set i z:=fun y x z=>q3B ..
  have hx:L.getD i default=a.getD i default:=by rw[hL];exact b4k a2t a0e default k (by omega)
  have ht:=j9 a0e default (show i<a.length by omega);have ht2:=t9 a0e a (i+1);simp only[a0e]at ht;have hw0:IntKind.i64.wrap ((k+(j4 a0e (a.take i):Nat))+1)=((k+(j4 a0e (a.take i):Nat))+1):=w64 z0C z0C z0C;have hw1:IntKind.i64.wrap (((k+(j4 a0e (a.take i):Nat))+1)+1)=((k+(j4 a0e (a.take i):Nat))+2):=w64 z0C z0C z0C;simp only[go_sem,hS0,hgs,hss,hx,hil,hg2,hs2,hg3,hs3,hw0,hw1];repeat' first|apply cj'|intro hc|exact om'|fail
  all_goals first
   | omega
   | (exact(hc trivial).elim)
   | ((refine lpK_n2 (⟨(i+1,L.set i (a2t (a.getD i default) (k+(j4 a0e (a.take i):Nat)))),z0F,by rw[hL];exact b4m a2t a0e default k z0C⟩) _ rfl ?_;simp only[go_sem,hS0,hgs,hss,hx,hil,hg2,hs2,hg3,hs3,hw0,hw1]<;>repeat' first|apply W6|exact on'|fail);first|done|(simp only[ht];omega))
   | trace_state
 ·simp only[go_sem,hS0,hil];repeat' first|apply cj'|intro hc|exact om'|fail
  have h1:=a0N a0e (show¬i<a.length by omega);rw[q0Y z0C,q3O z0C,q0D]at hL;all_goals first|exact⟨by rw[h1],by rw[hL]⟩|trace_state
def a6w:CT:=k8 (fun(x:(List c8)×Int) h=>b5Y x.1 x.2 h)
@[go_sem] def d1E:=fun a k=>nm' (fP' a6w rfl (a,k))
def b2c(a:c6)(k:Int)(hpre:0<=k/\((k+3*(a.Decls.length:Nat))+(j4 a0e a.Rules:Nat))<=4611686018427387904):spZ 19 [(true,[b5K a.Decls,b5J a.Rules]),(false,[.i .i64 k])] [(0,(true,[b5K ((c6.mk (a2u a.Decls.length k) (mkL a2t a0e a.Rules (k+3*(a.Decls.length:Nat)))).Decls),b5J ((c6.mk (a2u a.Decls.length k) (mkL a2t a0e a.Rules (k+3*(a.Decls.length:Nat)))).Rules)]))] (.one (false,[.i .i64 ((k+3*(a.Decls.length:Nat))+(j4 a0e a.Rules:Nat))])):=by
 refine sx' true false (some 0) Tryz.func19 (q' 2 [aX 2 0,az 4 0] (q' 5 [aG 0 2,am 1,ac 65 [6,7],aV 1] (q' 9 [aG 1 2,am 1,ac 66 [10,11],aV 1] (q' 13 [am 1,aV 4] .ret)))) [.t 4] [(65,[0],a6u),(66,[0],a6w)] ?_;intro hb hE;simp only[go_sem];repeat' first|apply cj'|intro hc|exact om'|fail
 all_goals first|omega|trace_state
def a4C:CT:=k8 (fun(x:c6×Int) h=>b2c x.1 x.2 h)
@[go_sem] def c8L:=fun x0 x1 k=>nm' (fP' a4C rfl (⟨x0,x1⟩,k))
def b8L(a:List d3)(k:Int)(hpre:0<=k/\k+(j4 o6 a:Nat)<=4611686018427387904):spZ 123 [(false,[a4Q a]),(false,[.i .i64 k])] [(0,(false,[a4Q (mkL z6 o6 a k)]))] (.one (false,[.i .i64 (k+(j4 o6 a:Nat))])):=by
 refine sx' true false (some 0) Tryz.func123 (q' 4 [aK 0] (.seq (q' 5 [aK 0] (fo 0 6 [aM [5,0],aN,ar 6 8] 9 1 (g' 12 [aM [0,5],aI 1,aG 0 14,am 1,ac 97 [16,17],aV 1]) (g' 10 [aB 5]))) (q' 19 [am 1,aV 4] .ret))) [.t 4] [(97,[0],a5p)] ?_;intro hb hE;simp only[go_sem];repeat' first|apply cj'|intro hc|exact om'|fail
 refine lq' true [0] [] [] (fun i:{p:Nat×List d3 // p.1<=a.length/\p.2=mkL z6 o6 (a.take p.1) k++a.drop p.1}=>[(5,slV (.i .i64 i.1.1)),(1,slV (.i .i64 (k+(j4 o6 (a.take i.1.1):Nat))))]) nl' (fun i=>[(1,b1r,i.1.2.map (d3.cells true true))]) (fun i=>a.length-i.1.1) (⟨(0,a),by simp[mkL]⟩) ?_;intro S0 hS0 i;obtain⟨⟨i,L⟩,hi,hL⟩:=i;simp only at hi hL;have hl:L.length=a.length:=by rw[hL];exact b4l z6 o6 a k i
 by_cases hil:(i:Int)<L.length
 ·have hgs:∀x,(L.set i x).getD i default=x:=fun x=>by rw[W5,q0W z0C];rfl
  have hss:∀x y,(L.set i x).set i y=L.set i y:=fun x y=>q3B ..
  have hg2:∀x,((L.map (d3.cells true true)).set i x).getD i b1r=x:=fun x=>by rw[W5,q0W z0X];rfl
  have hs2:∀x z,((L.map (d3.cells true true)).set i x).set i z=(L.map (d3.cells true true)).set i z:=fun x z=>q3B ..
  have hg3:∀y x,(((L.set i y).map (d3.cells true true)).set i x).getD i b1r=x:=fun y x=>by rw[W5,q0W z1U];rfl
  have hs3:∀y x z,(((L.set i y).map (d3.cells true true)).set i x).set i z=((L.set i y).map (d3.cells true true)).set i z:=fun y x z=>q3B ..
  have hx:L.getD i default=a.getD i default:=by rw[hL];exact b4k z6 o6 default k (by omega)
  have ht:=j9 o6 default (show i<a.length by omega);have ht2:=t9 o6 a (i+1);simp only[o6]at ht;simp only[go_sem,hS0,hgs,hss,hx,hil,hg2,hs2,hg3,hs3];repeat' first|apply cj'|intro hc|exact om'|fail
  all_goals first
   | omega
   | (exact(hc trivial).elim)
   | ((refine lpK_n2 (⟨(i+1,L.set i (z6 (a.getD i default) (k+(j4 o6 (a.take i):Nat)))),z0F,by rw[hL];exact b4m z6 o6 default k z0C⟩) _ rfl ?_;simp only[go_sem,hS0,hgs,hss,hx,hil,hg2,hs2,hg3,hs3]<;>repeat' first|apply W6|exact on'|fail);first|done|(simp only[ht];omega))
   | trace_state
 ·simp only[go_sem,hS0,hil];repeat' first|apply cj'|intro hc|exact om'|fail
  have h1:=a0N o6 (show¬i<a.length by omega);rw[q0Y z0C,q3O z0C,q0D]at hL;all_goals first|exact⟨by rw[h1],by rw[hL]⟩|trace_state
def a3L:CT:=k8 (fun(x:(List d3)×Int) h=>b8L x.1 x.2 h)
@[go_sem] def d3e:=fun a k=>nm' (fP' a3L rfl (a,k))
def b3Z(a:List c9)(k:Int)(hpre:0<=k/\k+(j4 v9 a:Nat)<=4611686018427387904):spZ 67 [(false,[a4f a]),(false,[.i .i64 k])] [(0,(false,[a4f (mkL a2l v9 a k)]))] (.one (false,[.i .i64 (k+(j4 v9 a:Nat))])):=by
 refine sx' true false (some 0) Tryz.func67 (q' 4 [aK 0] (.seq (q' 5 [aK 0] (fo 0 6 [aM [5,0],aN,ar 6 8] 9 1 (q' 12 [aM [0,5,1],ac 96 [14],ai 3 12 13,aF 0,aS 1 17 15] (q' 18 [aB 1] (q' 20 [aM [0,5,1],ai 3 20 21,aF 1,aF 0,aS 1 25 22] (q' 26 [aB 1] (g' 28 [aM [0,5],aI 3,aF 1,aG 1 31,am 1,ac 123 [33,34],aV 1]))))) (g' 10 [aB 5]))) (q' 36 [am 1,aV 4] .ret))) [.t 4] [(96,[],w5),(123,[0],a3L)] ?_;intro hb hE;simp only[go_sem];repeat' first|apply cj'|intro hc|exact om'|fail
 refine lq' true [0] [] [] (fun i:{p:Nat×List c9 // p.1<=a.length/\p.2=mkL a2l v9 (a.take p.1) k++a.drop p.1}=>[(5,slV (.i .i64 i.1.1)),(1,slV (.i .i64 (k+(j4 v9 (a.take i.1.1):Nat))))]) nl' (fun i=>[(1,b0v,i.1.2.map (c9.cells true true))]) (fun i=>a.length-i.1.1) (⟨(0,a),by simp[mkL]⟩) ?_;intro S0 hS0 i;obtain⟨⟨i,L⟩,hi,hL⟩:=i;simp only at hi hL;have hl:L.length=a.length:=by rw[hL];exact b4l a2l v9 a k i
 by_cases hil:(i:Int)<L.length
 ·have hgs:∀x,(L.set i x).getD i default=x:=fun x=>by rw[W5,q0W z0C];rfl
  have hss:∀x y,(L.set i x).set i y=L.set i y:=fun x y=>q3B ..
  have hg2:∀x,((L.map (c9.cells true true)).set i x).getD i b0v=x:=fun x=>by rw[W5,q0W z0X];rfl
  have hs2:∀x z,((L.map (c9.cells true true)).set i x).set i z=(L.map (c9.cells true true)).set i z:=fun x z=>q3B ..
  have hg3:∀y x,(((L.set i y).map (c9.cells true true)).set i x).getD i b0v=x:=fun y x=>by rw[W5,q0W z1U];rfl
  have hs3:∀y x z,(((L.set i y).map (c9.cells true true)).set i x).set i z=((L.set i y).map (c9.cells true true)).set i z:=fun y x z=>q3B ..
  have hx:L.getD i default=a.getD i default:=by rw[hL];exact b4k a2l v9 default k (by omega)
  have ht:=j9 v9 default (show i<a.length by omega);have ht2:=t9 v9 a (i+1);simp only[v9]at ht;have hw0:IntKind.i64.wrap ((k+(j4 v9 (a.take i):Nat))+1)=((k+(j4 v9 (a.take i):Nat))+1):=w64 z0C z0C z0C;have hw1:IntKind.i64.wrap (((k+(j4 v9 (a.take i):Nat))+1)+1)=((k+(j4 v9 (a.take i):Nat))+2):=w64 z0C z0C z0C;simp only[go_sem,hS0,hgs,hss,hx,hil,hg2,hs2,hg3,hs3,hw0,hw1];repeat' first|apply cj'|intro hc|exact om'|fail
  all_goals first
   | omega
   | (exact(hc trivial).elim)
   | ((refine lpK_n2 (⟨(i+1,L.set i (a2l (a.getD i default) (k+(j4 v9 (a.take i):Nat)))),z0F,by rw[hL];exact b4m a2l v9 default k z0C⟩) _ rfl ?_;simp only[go_sem,hS0,hgs,hss,hx,hil,hg2,hs2,hg3,hs3,hw0,hw1]<;>repeat' first|apply W6|exact on'|fail);first|done|(simp only[ht];omega))
   | trace_state
 ·simp only[go_sem,hS0,hil];repeat' first|apply cj'|intro hc|exact om'|fail
  have h1:=a0N v9 (show¬i<a.length by omega);rw[q0Y z0C,q3O z0C,q0D]at hL;all_goals first|exact⟨by rw[h1],by rw[hL]⟩|trace_state
def a5o:CT:=k8 (fun(x:(List c9)×Int) h=>b3Z x.1 x.2 h)
@[go_sem] def c9G:=fun a k=>nm' (fP' a5o rfl (a,k))
def b5Z(a:c4)(k:Int)(hpre:0<=k/\(k+(j4 v9 a.Rels:Nat))<=4611686018427387904):spZ 20 [(true,[a4f a.Rels]),(false,[.i .i64 k])] [(0,(true,[a4f ((c4.mk (mkL a2l v9 a.Rels k)).Rels)]))] (.one (false,[.i .i64 (k+(j4 v9 a.Rels:Nat))])):=by
 refine sx' true false (some 0) Tryz.func20 (q' 2 [aX 1 0,az 4 0] (q' 5 [aG 0 2,am 1,ac 67 [6,7],aV 1] (q' 9 [am 1,aV 4] .ret))) [.t 4] [(67,[0],a5o)] ?_;intro hb hE;simp only[go_sem];repeat' first|apply cj'|intro hc|exact om'|fail
 all_goals first|omega|trace_state
def a6x:CT:=k8 (fun(x:c4×Int) h=>b5Z x.1 x.2 h)
@[go_sem] def d1F:=fun x0 k=>nm' (fP' a6x rfl (⟨x0⟩,k))
def a0d(x:e8):Nat:=x.Name.length+a7F x.Plus+a7F x.Minus
def a7b(x:f5):Nat:=(x.Changes.length+j4 a0d x.Changes)
def b8N(a:e8)(left:Int)(hpre:0<=left/\left<=1048576):spZ 101 [(true,[.s a.Name,.i .i64 a.Plus.Arity,n9 a.Plus.Rows,.i .i64 a.Minus.Arity,n9 a.Minus.Rows]),(false,[.i .i64 left])] [] (.one (false,[.i .i64 (szR left (a0d a:Nat))])):=by
 refine sy' Tryz.func101 (q' 2 [aX 5 0,az 4 0] (q' 5 [am 1,aG 0 2,ao (.lens (.t 7)),aD .sub 5 8,aV 1] (.seq (q' 10 [am 1,aC .lss 10 0] (ci 11 (q' 4 [ao (.mov (.k (.v false [.c (.i .i64 (-1))])))] .ret))) (q' 12 [af 1 2,aE 2,am 1,ac 173 [13,14],aV 1] (.seq (q' 16 [am 1,aC .lss 16 0] (ci 17 (q' 4 [ao (.mov (.k (.v false [.c (.i .i64 (-1))])))] .ret))) (q' 18 [af 3 2,aE 2,am 1,ac 173 [19,20],aV 1] (.seq (q' 22 [am 1,aC .lss 22 0] (ci 23 (q' 4 [ao (.mov (.k (.v false [.c (.i .i64 (-1))])))] .ret))) (q' 24 [am 1,aV 4] .ret)))))))) [.t 4] [(173,[],a7p)] ?_;intro hb hE;simp only[go_sem];repeat' first|apply cj'|intro hc|exact om'|fail
 all_goals((repeat(simp(disch:=omega) only[a0w]at*))<;>(try simp only[szR,a0d]at*)<;>(first|omega|(split<;>omega)))
def a7U:CT:=k8 (fun(x:e8×Int) h=>b8N x.1 x.2 h)
@[go_sem] def d3g:=fun x0 x1 x2 x3 x4 x5=>nm' (fP' a7U rfl (⟨x0,⟨x1,x2⟩,⟨x3,x4⟩⟩,x5))
def b6b(a:List e8)(left:Int)(hpre:0<=left/\left<=1048576):spZ 50 [(false,[y5 a]),(false,[.i .i64 left])] [] (.one (false,[.i .i64 (szR left ((a.length+j4 a0d a):Nat))])):=by
 refine sy' Tryz.func50 (q' 4 [aK 0] (q' 6 [aM [1,0],aN,aD .sub 6 8,aV 1] (.seq (q' 10 [am 1,aC .lss 10 0] (ci 11 (q' 4 [ao (.mov (.k (.v false [.c (.i .i64 (-1))])))] .ret))) (.seq (q' 5 [aK 0] (fo 0 12 [aM [5,0],aN,ar 12 14] 15 1 (q' 18 [aM [0,5],aI 5,aE 5,am 1,ac 101 [21,22],aV 1] (q' 24 [am 1,aC .lss 24 0] (ci 25 (q' 4 [ao (.mov (.k (.v false [.c (.i .i64 (-1))])))] .ret)))) (g' 16 [aB 5]))) (q' 26 [am 1,aV 4] .ret))))) [.t 4] [(101,[],a7U)] ?_;intro hb hE;simp only[go_sem];repeat' first|apply cj'|intro hc|exact om'|fail
 ·all_goals((repeat(simp(disch:=omega) only[a0w]at*))<;>(try simp only[szR,szR]at*)<;>(first|omega|(split<;>omega)))
 have hw:=a0w (l:=left) (n:=a.length) z0C z0C z0C z0C;rw[hw]at hc;refine lq' false [0] [] [] (fun i:{i:Nat // i<=a.length/\(a.length:Int)+(j4 a0d (a.take i):Nat)<=left}=>[(5,slV (.i .i64 i.1)),(1,slV (.i .i64 (left-a.length-(j4 a0d (a.take i.1):Nat))))]) nl' nl' (fun i=>a.length-i.1) (⟨0,z0W⟩) ?_;intro S0 hS0 i;obtain⟨i,hi,ht⟩:=i;simp only[go_sem,hw,hS0];repeat' first|apply cj'|intro hc|exact om'|fail
 ·have h1:=j9 a0d (default:e8) (show i<a.length by omega);have h2:=t9 a0d a (i+1);all_goals((repeat(simp(disch:=omega) only[a0w]at*))<;>(try simp only[szR,szR]at*)<;>(first|omega|(split<;>omega)))
 ·have h1:=j9 a0d (default:e8) (show i<a.length by omega)
  (refine lpK_n2 (⟨i+1,z0C,z0P⟩) _ rfl ?_;simp only[go_sem,hw,hS0]<;>repeat' first|apply W6|exact on'|fail)
  rw[h1];unfold szR at hc ⊢;split at hc<;>omega
 ·have h1:=a0N a0d (show¬i<a.length by omega);all_goals((repeat(simp(disch:=omega) only[a0w]at*))<;>(try simp only[szR,szR]at*)<;>(first|omega|(split<;>omega)))
 all_goals all_goals((repeat(simp(disch:=omega) only[a0w]at*))<;>(try simp only[szR,szR]at*)<;>(first|omega|(split<;>omega)))
def a6y:CT:=k8 (fun(x:(List e8)×Int) h=>b6b x.1 x.2 h)
@[go_sem] def d1H:=fun a x0=>nm' (fP' a6y rfl (a,x0))
def c2n(a:f5)(left:Int)(hpre:0<=left/\left<=1048576):spZ 10 [(true,[y5 a.Changes]),(false,[.i .i64 left])] [] (.one (false,[.i .i64 (szR left (a7b a:Nat))])):=by
 refine sy' Tryz.func10 (q' 2 [aX 1 0,az 4 0] (q' 5 [aG 0 2,am 1,ac 50 [6,7],aV 1] (.seq (q' 9 [am 1,aC .lss 9 0] (ci 10 (q' 4 [ao (.mov (.k (.v false [.c (.i .i64 (-1))])))] .ret))) (q' 11 [am 1,aV 4] .ret)))) [.t 4] [(50,[],a6y)] ?_;intro hb hE;simp only[go_sem];repeat' first|apply cj'|intro hc|exact om'|fail
 all_goals((repeat(simp(disch:=omega) only[a0w]at*))<;>(try simp only[szR,a7b]at*)<;>(first|omega|(split<;>omega)))
def a9n:CT:=k8 (fun(x:f5×Int) h=>c2n x.1 x.2 h)
@[go_sem] def d5j:=fun x0 x1=>nm' (fP' a9n rfl (⟨x0⟩,x1))
def b8Q(a:e8)(hpre:(a0d a:Int)<=1048576):spZ 113 [(true,[.s a.Name,.i .i64 a.Plus.Arity,n9 a.Plus.Rows,.i .i64 a.Minus.Arity,n9 a.Minus.Rows])] [] (.one (true,[.s a.Name,.i .i64 a.Plus.Arity,a4Q a.Plus.Rows,.i .i64 a.Minus.Arity,a4Q a.Minus.Rows])):=by
 refine sx' true false none Tryz.func113 (q' 1 [aX 5 0,aw [.s,.i .i64,.sl i5,.i .i64,.sl i5]] (q' 3 [aw [.s,.i .i64,.sl i5,.i .i64,.sl i5]] (q' 4 [aG 0 1,af 0 3,aS 1 6 5] (q' 7 [af 1 1,aE 2,ac 183 [8],af 1 3,aS 2 10 9] (q' 11 [af 3 1,aE 2,ac 183 [12],af 3 3,aS 2 14 13] (q' 15 [ae 5 3,aS 5 2 15] .ret)))))) [.c 2 true 5] [(183,[],a7q)] ?_;intro hb hE;simp only[go_sem];repeat' first|apply cj'|intro hc|exact om'|fail
 all_goals(simp only[a0d]at*;omega)
def a7X:CT:=k8 (fun(x:e8) h=>b8Q x h)
@[go_sem] def d3j:=fun x0 x1 x2 x3 x4=>nm' (fP' a7X rfl ⟨x0,⟨x1,x2⟩,⟨x3,x4⟩⟩)
def b6d(a:List e8)(hpre:(((a.length+j4 a0d a):Nat):Int)<=1048576):spZ 57 [(false,[y5 a])] [] (.one (false,[a1Y a])):=by
 refine sx' true false none Tryz.func57 (q' 2 [ao (.mov (.k (.v false [.nl t6])))] (q' 5 [am 0,aN,ao (.mks 5 80 [.s,.i .i64,.sl i5,.i .i64,.sl i5] (.t 6) (.t 6)),aV 3] (.seq (q' 4 [aK 0] (fo 0 8 [aM [4,0],aN,ar 8 10] 11 1 (g' 14 [aM [3,4,0,4],aI 5,aE 5,ac 113 [19],ai 5 14 15,aS 5 21 20]) (g' 12 [aB 4]))) (q' 22 [am 3,aV 2] .ret)))) [.t 2] [(113,[],a7X)] ?_;intro hb hE;simp only[go_sem,a8B];repeat' first|apply cj'|intro hc|exact om'|fail
 refine lq' true [0,3] [] [] (fun i:{p:Nat×(List e8) // p.1<=a.length/\p.2.length=a.length/\p.2.take p.1=a.take p.1}=>[(4,slV (.i .i64 i.1.1))]) nl' (fun i=>[(896,a4Y,i.1.2.map (e8.cells true true))]) (fun i=>a.length-i.1.1) (⟨(0,List.replicate a.length default),z0D⟩) ?_;intro S0 hS0 i;obtain⟨⟨i,L⟩,hi,hl,ht⟩:=i;simp only at hi hl ht;have hg:=a7d a0d a i default rfl;simp only[go_sem,a8B,hS0];repeat' first|apply cj'|intro hc|exact om'|fail
 ·(refine lpK_n2 (⟨(i+1,L.set i (a.getD i default)),z0F,z1H,z8 hl ht z0C⟩) _ rfl ?_;simp only[go_sem,a8B,hS0]<;>repeat' first|apply W6|exact on'|fail)
 ·obtain rfl:=u6 hl ht z0C;rfl
def a6A:CT:=k8 (fun(x:(List e8)) h=>b6d x h)
@[go_sem] def d1J:=fun a=>nm' (fP' a6A rfl a)
def c2u(a:f5)(hpre:(a7b a:Int)<=1048576):spZ 14 [(true,[y5 a.Changes])] [] (.one (true,[a1Y a.Changes])):=by
 refine sx' true false none Tryz.func14 (q' 1 [aX 1 0,aw [.sl t6]] (q' 3 [aw [.sl t6]] (q' 4 [aG 0 1,ac 57 [5],af 0 3,aS 1 7 6] (q' 8 [ae 1 3,aS 1 2 8] .ret)))) [.c 2 true 1] [(57,[],a6A)] ?_;intro hb hE;simp only[go_sem];repeat' first|apply cj'|intro hc|exact om'|fail
 all_goals(simp only[a7b]at*;omega)
def a9t:CT:=k8 (fun(x:f5) h=>c2u x h)
@[go_sem] def d5q:=fun x0=>nm' (fP' a9t rfl ⟨x0⟩)
def b8G(a:e8)(b:e8):spZ 117 [(true,[.s a.Name,.i .i64 a.Plus.Arity,n9 a.Plus.Rows,.i .i64 a.Minus.Arity,n9 a.Minus.Rows]),(true,[.s b.Name,.i .i64 b.Plus.Arity,n9 b.Plus.Rows,.i .i64 b.Minus.Arity,n9 b.Minus.Rows])] [] (.one (false,[.b (decide (a=b))])):=by
 refine sy' Tryz.func117 (q' 2 [aX 5 0,aX 5 1,aU false] (.seq (q' 5 [aG 0 2,aG 0 3,aD .neq 6 8] (ci 9 (q' 4 [aU false] .ret))) (.seq (q' 10 [af 1 2,aE 2,af 1 3,aE 2,ac 188 [11,13],aO 14] (ci 15 (q' 4 [aU false] .ret))) (.seq (q' 16 [af 3 2,aE 2,af 3 3,aE 2,ac 188 [17,19],aO 20] (ci 21 (q' 4 [aU false] .ret))) (q' 4 [aU true] .ret))))) [.t 4] [(188,[],a7o)] ?_;intro hb hE;simp only[go_sem];repeat' first|apply cj'|intro hc|exact om'|fail
 all_goals(cases a;cases b;simp_all)
def a7P:CT:=j8 (fun(x:e8×e8)=>b8G x.1 x.2)
@[go_sem] def d2Z:=fun x0 x1 x2 x3 x4 x5 x6 x7 x8 x9=>nm' (fQ' a7P rfl (⟨x0,⟨x1,x2⟩,⟨x3,x4⟩⟩,⟨x5,⟨x6,x7⟩,⟨x8,x9⟩⟩))
def b5T(a:List e8)(b:List e8):spZ 61 [(false,[y5 a]),(false,[y5 b])] [] (.one (false,[.b (decide (a=b))])):=by
 refine sy' Tryz.func61 (q' 4 [aU false] (.seq (q' 6 [am 0,aN,am 1,aN,aD .neq 7 9] (ci 10 (q' 4 [aU false] .ret))) (.seq (q' 5 [aK 0] (fo 0 11 [aM [5,0],aN,ar 11 13] 14 1 (.seq (G' 17 [aM [0,5],aI 5,aE 5,aM [1,5],aI 5,aE 5,ac 117 [20,24],aO 25]) (ci 26 (q' 4 [aU false] .ret))) (g' 15 [aB 5]))) (q' 4 [aU true] .ret)))) [.t 4] [(117,[],a7P)] ?_;intro hb hE;simp only[go_sem];repeat' first|apply cj'|intro hc|exact om'|fail
 ·symm;rw[q1J];rintro rfl;simp at hc
 have hl:a.length=b.length:=by simpa[q3G]using hc
 refine lq' false [0,1] [] [] (fun i:{i:Nat // i<=a.length/\a.take i=b.take i}=>[(5,slV (.i .i64 i.1))]) nl' nl' (fun i=>a.length-i.1) (⟨0,z0D⟩) ?_;intro S0 hS0 i;obtain⟨i,hi,ht⟩:=i;simp only[go_sem,hS0];repeat' first|apply cj'|intro hc|exact om'|fail
 ·exact(V3 (a1D default (i:=i) z0O)).symm
 ·exact nx0 ⟨i+1,z0C,a0S ht z0C z0C (d:=default) z0O⟩
 ·exact(V0 (u6 hl ht z0C)).symm
def a6r:CT:=j8 (fun(x:(List e8)×(List e8))=>b5T x.1 x.2)
@[go_sem] def d1z:=fun a b=>nm' (fQ' a6r rfl (a,b))
def c2g(a:f5)(b:f5):spZ 16 [(true,[y5 a.Changes]),(true,[y5 b.Changes])] [] (.one (false,[.b (decide (a=b))])):=by
 refine sy' Tryz.func16 (q' 2 [aX 1 0,aX 1 1,aU false] (.seq (q' 5 [aG 0 2,aG 0 3,ac 61 [6,8],aO 9] (ci 10 (q' 4 [aU false] .ret))) (q' 4 [aU true] .ret))) [.t 4] [(61,[],a6r)] ?_;intro hb hE;simp only[go_sem];repeat' first|apply cj'|intro hc|exact om'|fail
 all_goals(cases a;cases b;simp_all)
def a9h:CT:=j8 (fun(x:f5×f5)=>c2g x.1 x.2)
@[go_sem] def d5c:=fun x0 x1=>nm' (fQ' a9h rfl (⟨x0⟩,⟨x1⟩))
def i8(x:e8):Nat:=3+j4 o6 x.Plus.Rows+j4 o6 x.Minus.Rows
def q0(x:e8)(k:Int):e8:=e8.mk (a3V k) (d8.mk (k+1) (mkL z6 o6 x.Plus.Rows (k+2))) (d8.mk ((k+2)+(j4 o6 x.Plus.Rows:Nat)) (mkL z6 o6 x.Minus.Rows (((k+2)+(j4 o6 x.Plus.Rows:Nat))+1)))
def b2b(a:List e8)(k:Int)(hpre:0<=k/\k+(j4 i8 a:Nat)<=4611686018427387904):spZ 68 [(false,[a1Y a]),(false,[.i .i64 k])] [(0,(false,[a1Y (mkL q0 i8 a k)]))] (.one (false,[.i .i64 (k+(j4 i8 a:Nat))])):=by
 refine sx' true false (some 0) Tryz.func68 (q' 4 [aK 0] (.seq (q' 5 [aK 0] (fo 0 6 [aM [5,0],aN,ar 6 8] 9 1 (q' 12 [aM [0,5,1],ac 96 [14],ai 5 12 13,aF 0,aS 1 17 15] (q' 18 [aB 1] (q' 20 [aM [0,5,1],ai 5 20 21,aF 1,aF 0,aS 1 25 22] (q' 26 [aB 1] (q' 28 [aM [0,5],aI 5,aF 1,aG 1 31,am 1,ac 123 [33,34],aV 1] (q' 36 [aM [0,5,1],ai 5 36 37,aF 3,aF 0,aS 1 41 38] (q' 42 [aB 1] (g' 44 [aM [0,5],aI 5,aF 3,aG 1 47,am 1,ac 123 [49,50],aV 1])))))))) (g' 10 [aB 5]))) (q' 52 [am 1,aV 4] .ret))) [.t 4] [(96,[],w5),(123,[0],a3L)] ?_;intro hb hE;simp only[go_sem];repeat' first|apply cj'|intro hc|exact om'|fail
 refine lq' true [0] [] [] (fun i:{p:Nat×List e8 // p.1<=a.length/\p.2=mkL q0 i8 (a.take p.1) k++a.drop p.1}=>[(5,slV (.i .i64 i.1.1)),(1,slV (.i .i64 (k+(j4 i8 (a.take i.1.1):Nat))))]) nl' (fun i=>[(1,a4Y,i.1.2.map (e8.cells true true))]) (fun i=>a.length-i.1.1) (⟨(0,a),by simp[mkL]⟩) ?_;intro S0 hS0 i;obtain⟨⟨i,L⟩,hi,hL⟩:=i;simp only at hi hL;have hl:L.length=a.length:=by rw[hL];exact b4l q0 i8 a k i
 by_cases hil:(i:Int)<L.length
 ·have hgs:∀x,(L.set i x).getD i default=x:=fun x=>by rw[W5,q0W z0C];rfl
  have hss:∀x y,(L.set i x).set i y=L.set i y:=fun x y=>q3B ..
  have hg2:∀x,((L.map (e8.cells true true)).set i x).getD i a4Y=x:=fun x=>by rw[W5,q0W z0X];rfl
  have hs2:∀x z,((L.map (e8.cells true true)).set i x).set i z=(L.map (e8.cells true true)).set i z:=fun x z=>q3B ..
  have hg3:∀y x,(((L.set i y).map (e8.cells true true)).set i x).getD i a4Y=x:=fun y x=>by rw[W5,q0W z1U];rfl
  have hs3:∀y x z,(((L.set i y).map (e8.cells true true)).set i x).set i z=((L.set i y).map (e8.cells true true)).set i z:=fun y x z=>q3B ..
  have hx:L.getD i default=a.getD i default:=by rw[hL];exact b4k q0 i8 default k (by omega)
  have ht:=j9 i8 default (show i<a.length by omega);have ht2:=t9 i8 a (i+1);simp only[i8]at ht;have hw0:IntKind.i64.wrap ((k+(j4 i8 (a.take i):Nat))+1)=((k+(j4 i8 (a.take i):Nat))+1):=w64 z0C z0C z0C;have hw1:IntKind.i64.wrap (((k+(j4 i8 (a.take i):Nat))+1)+1)=((k+(j4 i8 (a.take i):Nat))+2):=w64 z0C z0C z0C;have hw2:IntKind.i64.wrap ((((k+(j4 i8 (a.take i):Nat))+2)+(j4 o6 (a.getD i default).Plus.Rows:Nat))+1)=((((k+(j4 i8 (a.take i):Nat))+2)+(j4 o6 (a.getD i default).Plus.Rows:Nat))+1):=w64 z0C z0C z0C;simp only[go_sem,hS0,hgs,hss,hx,hil,hg2,hs2,hg3,hs3,hw0,hw1,hw2];repeat' first|apply cj'|intro hc|exact om'|fail
  all_goals first
   | omega
   | (exact(hc trivial).elim)
   | ((refine lpK_n2 (⟨(i+1,L.set i (q0 (a.getD i default) (k+(j4 i8 (a.take i):Nat)))),z0F,by rw[hL];exact b4m q0 i8 default k z0C⟩) _ rfl ?_;simp only[go_sem,hS0,hgs,hss,hx,hil,hg2,hs2,hg3,hs3,hw0,hw1,hw2]<;>repeat' first|apply W6|exact on'|fail);first|done|(simp only[ht];omega))
   | trace_state
 ·simp only[go_sem,hS0,hil];repeat' first|apply cj'|intro hc|exact om'|fail
  have h1:=a0N i8 (show¬i<a.length by omega);rw[q0Y z0C,q3O z0C,q0D]at hL;all_goals first|exact⟨by rw[h1],by rw[hL]⟩|trace_state
def a4B:CT:=k8 (fun(x:(List e8)×Int) h=>b2b x.1 x.2 h)
@[go_sem] def c8K:=fun a k=>nm' (fP' a4B rfl (a,k))
def b5X(a:f5)(k:Int)(hpre:0<=k/\(k+(j4 i8 a.Changes:Nat))<=4611686018427387904):spZ 21 [(true,[a1Y a.Changes]),(false,[.i .i64 k])] [(0,(true,[a1Y ((f5.mk (mkL q0 i8 a.Changes k)).Changes)]))] (.one (false,[.i .i64 (k+(j4 i8 a.Changes:Nat))])):=by
 refine sx' true false (some 0) Tryz.func21 (q' 2 [aX 1 0,az 4 0] (q' 5 [aG 0 2,am 1,ac 68 [6,7],aV 1] (q' 9 [am 1,aV 4] .ret))) [.t 4] [(68,[0],a4B)] ?_;intro hb hE;simp only[go_sem];repeat' first|apply cj'|intro hc|exact om'|fail
 all_goals first|omega|trace_state
def a6v:CT:=k8 (fun(x:f5×Int) h=>b5X x.1 x.2 h)
@[go_sem] def d1D:=fun x0 k=>nm' (fP' a6v rfl (⟨x0⟩,k))
def b8J(a:List d3)(k:Int)(hpre:(0<=k/\k+(j4 o6 a:Nat)<=4611686018427387904)/\a=mkL z6 o6 a k):spZ 124 [(false,[n9 a]),(false,[.i .i64 k])] [] (.one (false,[.i .i64 (k+(j4 o6 a:Nat))])):=by
 refine sy' Tryz.func124 (q' 4 [aK 0] (.seq (q' 5 [aK 0] (fo 0 6 [aM [5,0],aN,ar 6 8] 9 1 (q' 12 [aM [0,5],aI 1,aG 0 14,am 1,ac 191 [16,17],aV 1] (q' 19 [am 1,aC .lss 19 0] (ci 20 (q' 4 [ao (.mov (.k (.v false [.c (.i .i64 (-1))])))] .ret)))) (g' 10 [aB 5]))) (q' 21 [am 1,aV 4] .ret))) [.t 4] [(191,[],a5n)] ?_;intro hb hE;simp only[go_sem];repeat' first|apply cj'|intro hc|exact om'|fail
 refine aw_loop2 false [] [0] [] [] (fun i:{i:Nat // i<=a.length}=>[(5,slV (.i .i64 i.1)),(1,slV (.i .i64 (k+(j4 o6 (a.take i.1):Nat))))]) (fun i=>[]) (fun i=>[]) (fun i=>a.length-i.1) (⟨0,z0C⟩) _ rfl ?_ ?_
 ·simp only[go_sem];all_goals((repeat' apply W6)<;>try exact on')
 intro S0 hS0 i;simp only[go_sem]at hS0;obtain⟨i,hi⟩:=i;by_cases hil:(i:Int)<a.length
 ·have hx:a.getD i default=z6 (a.getD i default) (k+(j4 o6 (a.take i):Nat)):=by
   have h1:=d0P z6 o6 default a k (show i<a.length by omega);rw[<-hpre.2]at h1;exact h1
  have ht:=j9 o6 default (show i<a.length by omega);have ht2:=t9 o6 a (i+1);simp only[o6]at ht;have hz0:¬(((k+(j4 o6 (a.take i):Nat))+2*((a.getD i default).V.length:Nat))<0):=by clear hb hx;omega
  have hq0:=congrArg (fun z:d3=>z.V) hx;refine A2g ?_;simp only[go_sem,hS0,hil,hz0,bne_self_eq_false]
  skip
  repeat' first|apply cj'|intro hc|exact om'|fail
  all_goals first
   | omega
   | (exfalso;simp at hc;done)
   | (exfalso;omega)
   | exact⟨z0C,hq0⟩
   | ((refine lpK_n2 (⟨i+1,z0C⟩) _ rfl ?_;simp only[go_sem,hS0,hil,hz0,bne_self_eq_false]<;>repeat' first|apply W6|exact on'|fail);first|done|(simp only[ht];omega))
   | trace_state
 ·(try refine A2g ?_);simp only[go_sem,hS0,hil];repeat' first|apply cj'|intro hc|exact om'|fail
  have h1:=a0N o6 (show¬i<a.length by omega);all_goals first|rw[h1]|trace_state
def a7S:CT:=k8 (fun(x:(List d3)×Int) h=>b8J x.1 x.2 h)
@[go_sem] def d3c:=fun a k=>nm' (fP' a7S rfl (a,k))
def b2a(a:List e8)(k:Int)(hpre:(0<=k/\k+(j4 i8 a:Nat)<=4611686018427387904)/\a=mkL q0 i8 a k):spZ 69 [(false,[y5 a]),(false,[.i .i64 k])] [] (.one (false,[.i .i64 (k+(j4 i8 a:Nat))])):=by
 refine sy' Tryz.func69 (q' 4 [aK 0] (.seq (q' 5 [aK 0] (fo 0 6 [aM [5,0],aN,ar 6 8] 9 1 (.seq (.seq (G' 12 [aM [0,5],aI 5,aG 0 14,am 1,ac 96 [17],aD .neq 16 18]) (ci 19 (q' 4 [ao (.mov (.k (.v false [.c (.i .i64 (-1))])))] .ret))) (q' 20 [aB 1] (.seq (q' 22 [aM [0,5],aI 5,aF 1,aG 0 25,am 1,aD .neq 27 28] (ci 29 (q' 4 [ao (.mov (.k (.v false [.c (.i .i64 (-1))])))] .ret))) (q' 30 [aB 1] (q' 32 [aM [0,5],aI 5,aF 1,aG 1 35,am 1,ac 124 [37,38],aV 1] (.seq (q' 40 [am 1,aC .lss 40 0] (ci 41 (q' 4 [ao (.mov (.k (.v false [.c (.i .i64 (-1))])))] .ret))) (.seq (q' 42 [aM [0,5],aI 5,aF 3,aG 0 45,am 1,aD .neq 47 48] (ci 49 (q' 4 [ao (.mov (.k (.v false [.c (.i .i64 (-1))])))] .ret))) (q' 50 [aB 1] (q' 52 [aM [0,5],aI 5,aF 3,aG 1 55,am 1,ac 124 [57,58],aV 1] (q' 60 [am 1,aC .lss 60 0] (ci 61 (q' 4 [ao (.mov (.k (.v false [.c (.i .i64 (-1))])))] .ret)))))))))))) (g' 10 [aB 5]))) (q' 62 [am 1,aV 4] .ret))) [.t 4] [(96,[],w5),(124,[],a7S)] ?_;intro hb hE;simp only[go_sem];repeat' first|apply cj'|intro hc|exact om'|fail
 refine aw_loop2 false [] [0] [] [] (fun i:{i:Nat // i<=a.length}=>[(5,slV (.i .i64 i.1)),(1,slV (.i .i64 (k+(j4 i8 (a.take i.1):Nat))))]) (fun i=>[]) (fun i=>[]) (fun i=>a.length-i.1) (⟨0,z0C⟩) _ rfl ?_ ?_
 ·simp only[go_sem];all_goals((repeat' apply W6)<;>try exact on')
 intro S0 hS0 i;simp only[go_sem]at hS0;obtain⟨i,hi⟩:=i;by_cases hil:(i:Int)<a.length
 ·have hx:a.getD i default=q0 (a.getD i default) (k+(j4 i8 (a.take i):Nat)):=by
   have h1:=d0P q0 i8 default a k (show i<a.length by omega);rw[<-hpre.2]at h1;exact h1
  have ht:=j9 i8 default (show i<a.length by omega);have ht2:=t9 i8 a (i+1);simp only[i8]at ht;have hz0:¬((((k+(j4 i8 (a.take i):Nat))+2)+(j4 o6 (a.getD i default).Plus.Rows:Nat))<0):=by clear hb hx;omega
  have hz1:¬((((((k+(j4 i8 (a.take i):Nat))+2)+(j4 o6 (a.getD i default).Plus.Rows:Nat))+1)+(j4 o6 (a.getD i default).Minus.Rows:Nat))<0):=by clear hb hx;omega
  have hw0:IntKind.i64.wrap ((k+(j4 i8 (a.take i):Nat))+1)=((k+(j4 i8 (a.take i):Nat))+1):=w64 z0C z0C z0C;have hw1:IntKind.i64.wrap (((k+(j4 i8 (a.take i):Nat))+1)+1)=((k+(j4 i8 (a.take i):Nat))+2):=w64 z0C z0C z0C;have hw2:IntKind.i64.wrap ((((k+(j4 i8 (a.take i):Nat))+2)+(j4 o6 (a.getD i default).Plus.Rows:Nat))+1)=((((k+(j4 i8 (a.take i):Nat))+2)+(j4 o6 (a.getD i default).Plus.Rows:Nat))+1):=w64 z0C z0C z0C;have hp0:(a.getD i default).Name=(a3V (k+(j4 i8 (a.take i):Nat))):=congrArg (fun z:e8=>z.Name) hx;have hp1:(a.getD i default).Plus.Arity=((k+(j4 i8 (a.take i):Nat))+1):=congrArg (fun z:e8=>z.Plus.Arity) hx;have hp3:(a.getD i default).Minus.Arity=(((k+(j4 i8 (a.take i):Nat))+2)+(j4 o6 (a.getD i default).Plus.Rows:Nat)):=congrArg (fun z:e8=>z.Minus.Arity) hx;have hq2:=congrArg (fun z:e8=>z.Plus.Rows) hx;have hq4:=congrArg (fun z:e8=>z.Minus.Rows) hx;refine A2g ?_;simp only[go_sem,hS0,hil,hw0,hw1,hw2,hp0,hp1,hp3,hz0,hz1,bne_self_eq_false];clear hw0 hw1 hw2 hp0 hp1 hp3;repeat' first|apply cj'|intro hc|exact om'|fail
  all_goals first
   | omega
   | (exfalso;simp at hc;done)
   | (exfalso;omega)
   | exact⟨z0C,hq2⟩|exact⟨z0C,hq4⟩
   | ((refine lpK_n2 (⟨i+1,z0C⟩) _ rfl ?_;simp only[go_sem,hS0,hil,hz0,hz1,bne_self_eq_false]<;>repeat' first|apply W6|exact on'|fail);first|done|(simp only[ht];omega))
   | trace_state
 ·(try refine A2g ?_);simp only[go_sem,hS0,hil];repeat' first|apply cj'|intro hc|exact om'|fail
  have h1:=a0N i8 (show¬i<a.length by omega);all_goals first|rw[h1]|trace_state
def a4A:CT:=k8 (fun(x:(List e8)×Int) h=>b2a x.1 x.2 h)
@[go_sem] def c8J:=fun a k=>nm' (fP' a4A rfl (a,k))
def b5V(a:f5)(k:Int)(hpre:(0<=k/\(k+(j4 i8 a.Changes:Nat))<=4611686018427387904)/\a=(f5.mk (mkL q0 i8 a.Changes k))):spZ 22 [(true,[y5 a.Changes]),(false,[.i .i64 k])] [] (.one (false,[.i .i64 (k+(j4 i8 a.Changes:Nat))])):=by
 refine sy' Tryz.func22 (q' 2 [aX 1 0,az 4 0] (q' 5 [aG 0 2,am 1,ac 69 [6,7],aV 1] (.seq (q' 9 [am 1,aC .lss 9 0] (ci 10 (q' 4 [ao (.mov (.k (.v false [.c (.i .i64 (-1))])))] .ret))) (q' 11 [am 1,aV 4] .ret)))) [.t 4] [(69,[],a4A)] ?_;intro hb hE;simp only[go_sem];repeat' first|apply cj'|intro hc|exact om'|fail
 all_goals first|exact hpre|(simp only at*;omega)|(exfalso;omega)|(refine⟨z0C, ?_⟩;have h1:=hpre.2;first|exact congrArg f5.Changes h1|(cases a;simp_all))|trace_state
def a6t:CT:=k8 (fun(x:f5×Int) h=>b5V x.1 x.2 h)
@[go_sem] def d1B:=fun x0 k=>nm' (fP' a6t rfl (⟨x0⟩,k))
def d8b(x:d7):v7 x<=12+12*a1K x:=by simp only[v7,a1K,a5z];omega
def d3L(l:List c8):j4 a0e l<=12*(l.length+j4 a0T l):=b0r a0e a0T 12 (fun x=>by
 have:=b0r v7 a1K 12 d8b x.Body;simp only[a0e,a0T,a5z];omega) l
def b5y(l:List d3):j4 o6 l<=2*(l.length+j4 a1L l):=b0r o6 a1L 2 (fun x=>by simp only[o6,a1L];omega) l
def c9Q(l:List c9):j4 v9 l<=2*(l.length+j4 a0v l):=b0r v9 a0v 2 (fun x=>by
 have:=b5y x.Rel.Rows;simp only[v9,a0v,a7F];omega) l
def a9G(x:d3)(k:Int):o6 (z6 x k)=o6 x:=by simp only[o6,z6,a1e]
def c8l(x:d3)(k j:Int):z6 (z6 x k) j=z6 x j:=by simp only[z6,a1e]
def c1d:∀{l:List d3},(∀x∈l,x.V.length<1000)->j4 o6 l<=2000*l.length
 | [],_=>q0C _
 | x::l,h=>by
   have h1:=h x q2M;have h2:=c1d fun e he=>h e (q1W _ he)
   simp only[j4,o6,V7]at*;omega
def c7a(l:List e8):j4 i8 l<=3*(l.length+j4 a0d l):=b0r i8 a0d 3 (fun x=>by
 have h1:=b5y x.Plus.Rows;have h2:=b5y x.Minus.Rows;simp only[i8,a0d,a7F];omega) l
def a4K(x:e8)(k:Int):i8 (q0 x k)=i8 x:=by simp only[i8,q0,a9R z6 o6 a9G]
def b9q(x:e8)(k j:Int):q0 (q0 x k) j=q0 x j:=by simp only[q0,a9R z6 o6 a9G,c2U z6 o6 a9G c8l]
def c9R{r b:List d3}(h1:r.length<=300)(h2:∀x∈r,x.V.length<1000):j4 o6 (v8 r b false)<=600000:=by
 have h3:=c1d (l:=v8 r b false) (fun x hx=>h2 x (q1A.1 hx).1);have h4:=a5x r b false;omega
def e0F{a b:c4}(ha:j6 a=true)(hb:j6 b=true)(hl:a.Rels.length=b.Rels.length):∀n,n<=a.Rels.length->j4 i8 (a2o a.Rels b.Rels n)<=1200003*n
 | 0,_=>q0C _
 | n+1,h=>by
   have ih:=e0F ha hb hl n z0C;have r1:=a0r (a3n ha (i:=n) z0C);have r2:=a0r (a3n hb (i:=n) z0C);have c1:=c9R (b:=(b.Rels.getD n default).Rel.Rows) r1.1 (fun x hx=>(r1.2 x hx).2);have c2:=c9R (b:=(a.Rels.getD n default).Rel.Rows) r2.1 (fun x hx=>(r2.2 x hx).2);rw[a2o];cases a9T (b8r (a.Rels.getD n default) (b.Rels.getD n default))with
   | true=>rw[W8,q0D];omega
   | false=>
     rw[V2,a9X];have h3:j4 i8 [b8r (a.Rels.getD n default) (b.Rels.getD n default)]<=1200003:=by
      simp only[j4,i8,b8r];omega
     omega
def d3Q(a b:c4):j4 i8 (a1k a b).1.Changes<=30000000:=by
 rw[a1k];cases h:(j6 a&&j6 b&&decide (a.Rels.length=b.Rels.length)&&!a1t a.Rels.length (fun i=>c1a (a.Rels.getD i default) (b.Rels.getD i default)))with
 | false=>exact q2H _
 | true=>
   simp only[K7]at h;have h1:=e0F h.1.1.1 h.1.1.2 h.1.2 _ (q0C _);have h2:=a0I h.1.1.1;rw[W8];show j4 i8 (a2o a.Rels b.Rels a.Rels.length)<=30000000;omega
def d8e(p:c6)(s:c4)(d:f5):j4 i8 (a1x p s d).1.Changes<=30000000:=by
 rw[a1x];cases(a0b p s).2 != 0 with
 | true=>exact q2H _
 | false=>
   rw[V2];cases(a0L p s d).2.2 != 0 with
   | true=>exact q2H _
   | false=>exact d3Q _ _
set_option maxHeartbeats 40000000
attribute [local irreducible] RM
def b2d(p:c6)(s:c4)(d:f5):spZ 11 [(true,[m9 p.Decls,m7 p.Rules]),(true,[i6 s.Rels]),(true,[y5 d.Changes])] [] (.tup [(true,[y5 (((a1x p s d).1).Changes)]),(false,[.i .i64 ((a1x p s d).2)])]):=by
 exact a1h (a6V p s d) z0M
def a4F:CT:=j8 (fun(x:c6×c4×f5)=>b2d x.1 x.2.1 x.2.2)
@[go_sem] def c8M:=fun x0 x1 x2 x3=>nm' (fQ' a4F rfl (⟨x0,x1⟩,⟨x2⟩,⟨x3⟩))
def a2r(p:c6)(s:c4)(d:f5):spZ 3 [(true,[m9 p.Decls,m7 p.Rules]),(true,[i6 s.Rels]),(true,[y5 d.Changes])] [] (.one (false,[.b true])):=by
 refine sx' true false none Tryz.func3 (q' 3 [aX 2 0,aX 1 1,aX 1 2,aU false] (q' 7 [aK 1048576] (q' 20 [ae 2 3,am 7,ac 8 [20,21],aV 7] (.seq (q' 23 [am 7,aC .lss 23 0] (ci 24 (q' 6 [aU true] .ret))) (q' 25 [ae 1 4,am 7,ac 9 [25,26],aV 7] (.seq (q' 28 [am 7,aC .lss 28 0] (ci 29 (q' 6 [aU true] .ret))) (q' 30 [ae 1 5,am 7,ac 10 [30,31],aV 7] (.seq (q' 33 [am 7,aC .lss 33 0] (ci 34 (q' 6 [aU true] .ret))) (.seq (rm' [(true,0,e' 36 2 3),(true,2,e' 38 1 4),(true,4,e' 40 1 5),(false,1,c' 37 12 [36]), (false,3,c' 39 13 [38]),(false,5,c' 41 14 [40]),(false,6,c' 42 11 [37,39,41]),(false,7,m' 35 42),(false,8,o' 43 (.ext (.t 35) 0)),(false,9, o' 44 (.ext (.t 35) 1)),(false,10,w' 8 [.sl t6]),(false,11,s' 1 8 43),(false,12,m' 9 44)] [[0,1,2,3,4,5,6,7,8,10,9,11,12],[0,1,2,3,4,5,6,7,8,10,11,9,12],[0, 1,2,3,4,5,6,7,9,8,10,11,12],[0,1,2,3,4,5,6,7,9,10,8,11,12],[0,1,2,3,4,5,6,7,10,8,9,11,12],[0,1,2,3,4,5,6,7,10, 8,11,9,12],[0,1,2,3,4,5,6,7,10,9,8,11,12],[0,1,2,3,4,5,6,10,7,8,9,11,12],[0,1,2,3,4,5,6,10,7,8,11,9,12],[0,1,2, 3,4,5,6,10,7,9,8,11,12],[0,1,2,3,4,5,10,6,7,8,9,11,12],[0,1,2,3,4,5,10,6,7,8,11,9,12],[0,1,2,3,4,5,10,6,7,9,8, 11,12],[0,1,2,3,4,10,5,6,7,8,9,11,12],[0,1,2,3,4,10,5,6,7,8,11,9,12],[0,1,2,3,4,10,5,6,7,9,8,11,12],[0,1,2,3,10, 4,5,6,7,8,9,11,12],[0,1,2,3,10,4,5,6,7,8,11,9,12],[0,1,2,3,10,4,5,6,7,9,8,11,12],[0,1,2,10,3,4,5,6,7,8,9,11,12], [0,1,2,10,3,4,5,6,7,8,11,9,12],[0,1,2,10,3,4,5,6,7,9,8,11,12]] [6,7,8,9,10,11]) (q' 45 [ae 2 3,ac 12 [45],ax (w' 10 [.sl a9Y,.sl c3y]),aS 2 10 46] (q' 47 [ae 1 4,ac 13 [47],ax (w' 11 [.sl i7]),aS 1 11 48] (q' 49 [ae 1 5,ac 14 [49],ax (w' 12 [.sl t6]),aS 1 12 50] (q' 52 [ae 2 10,ae 1 11,ae 1 12,ac 15 [52,53,54],aV 51,aZ 51 0,aZ 51 1,ax (w' 13 [.sl t6]),aS 1 13 56,aV 14] (.seq (q' 58 [ae 1 13,ae 1 8,ac 16 [58,59],aO 60,am 61,aH 62 false [bm 14,bm 9,bD .neq 63 64],aQ 62 65] (ci 66 (q' 6 [aU false] .ret))) (.seq (.seq (G' 67 [ae 2 10,ae 2 3,ac 12 [68],ac 17 [67,69],aO 70]) (ci 71 (q' 6 [aU false] .ret))) (.seq (.seq (G' 72 [ae 1 11,ae 1 4,ac 13 [73],ac 18 [72,74],aO 75]) (ci 76 (q' 6 [aU false] .ret))) (.seq (.seq (G' 77 [ae 1 12,ae 1 5,ac 14 [78],ac 16 [77,79],aO 80]) (ci 81 (q' 6 [aU false] .ret))) (q' 15 [aK 1] (q' 82 [ae 2 10,am 15,ac 19 [82,83],aV 15] (q' 85 [ae 1 11,am 15,ac 20 [85,86],aV 15] (q' 88 [ae 1 12,am 15,ac 21 [88,89],aV 15] (.seq (q' 91 [am 15,aC .lss 91 0,am 92,aH 93 false [be 1 13,be 1 8,bc 16 [94,95],bO 96],aQ 93 97,am 98,aH 99 false [bm 14,bm 9,bD .neq 100 101],aQ 99 102] (ci 103 (q' 6 [aU false] .ret))) (q' 16 [aK 1] (q' 104 [ae 1 13,am 16,ac 21 [104,105],aV 16] (q' 17 [aK 1] (q' 107 [ae 1 13,am 17,ac 22 [107,108],aV 17] (.seq (q' 110 [am 17,aC .lss 110 0] (ci 111 (q' 6 [aU false] .ret))) (.seq (q' 112 [aM [17,16],aD .neq 112 113] (ci 114 (q' 6 [aU false] .ret))) (.seq (rm' [(true,0,e' 116 2 3),(true,2,e' 118 1 4),(true,4,e' 120 1 5),(false,1,c' 117 12 [116]),(false,3,c' 119 13 [118]),(false,5,c' 121 14 [120]),(false,6,c' 122 15 [117,119,121]),(false,7,m' 115 122), (false,8,o' 123 (.ext (.t 115) 0)),(false,9,o' 124 (.ext (.t 115) 1)),(false,10,w' 18 [.sl t6]),(false,11,s' 1 18 123),(false,12,m' 19 124)] [[0,1,2,3,4,5,6,7,8,10,9, 11,12],[0,1,2,3,4,5,6,7,8,10,11,9,12],[0,1,2,3,4,5,6,7,9,8,10,11,12],[0,1,2,3,4,5,6,7,9,10,8,11,12],[0,1,2,3,4, 5,6,7,10,8,9,11,12],[0,1,2,3,4,5,6,7,10,8,11,9,12],[0,1,2,3,4,5,6,7,10,9,8,11,12],[0,1,2,3,4,5,6,10,7,8,9,11, 12],[0,1,2,3,4,5,6,10,7,8,11,9,12],[0,1,2,3,4,5,6,10,7,9,8,11,12],[0,1,2,3,4,5,10,6,7,8,9,11,12],[0,1,2,3,4,5, 10,6,7,8,11,9,12],[0,1,2,3,4,5,10,6,7,9,8,11,12],[0,1,2,3,4,10,5,6,7,8,9,11,12],[0,1,2,3,4,10,5,6,7,8,11,9,12], [0,1,2,3,4,10,5,6,7,9,8,11,12],[0,1,2,3,10,4,5,6,7,8,9,11,12],[0,1,2,3,10,4,5,6,7,8,11,9,12],[0,1,2,3,10,4,5,6, 7,9,8,11,12],[0,1,2,10,3,4,5,6,7,8,9,11,12],[0,1,2,10,3,4,5,6,7,8,11,9,12],[0,1,2,10,3,4,5,6,7,9,8,11,12]] [6,7, 8,9,10,11]) (.seq (q' 125 [ae 1 18,ae 1 8,ac 16 [125,126],aO 127,am 128,aH 129 false [bm 19,bm 9,bD .neq 130 131],aQ 129 132] (ci 133 (q' 6 [aU false] .ret))) (q' 17 [aK 1] (q' 134 [ae 1 13,am 17,ac 22 [134,135],aV 17] (.seq (q' 137 [am 17,aC .lss 137 0] (ci 138 (q' 6 [aU false] .ret))) (.seq (q' 139 [aM [17,16],aD .neq 139 140] (ci 141 (q' 6 [aU false] .ret))) (q' 6 [aU true] .ret))))))))))))))))))))))))))))))))))) [.t 6] [(8,[],a6z),(9,[],a9q),(10,[],a9n),(12,[],a6B),(13,[],a9w),(14,[],a9t),(11,[],a4F),(15,[],a6l),(16,[],a9h),(17,[],a6s),(18,[],a9k),(19,[0],a4C),(20,[0],a6x),(21,[0],a6v),(22,[],a6t)] ?_;intro hb hE;simp only[go_sem];(repeat' first|apply cj'|intro hc|apply a0f);(all_goals(try((first|refine a0B 3 rfl ?_);intro S hS B0 hB;simp only[go_sem,K6]at hS hB;(repeat(first|replace hS:=And.right hS|replace hS:=CJ.r hS));have Rr36:=congrArg (fun s:St=>s.sl 36) hS;have Rr38:=congrArg (fun s:St=>s.sl 38) hS;have Rr40:=congrArg (fun s:St=>s.sl 40) hS;have Rr116:=congrArg (fun s:St=>s.sl 116) hS;have Rr118:=congrArg (fun s:St=>s.sl 118) hS;have Rr120:=congrArg (fun s:St=>s.sl 120) hS;have Rb6:=congrArg (fun s:St=>s.bx 6) hS;have Rb7:=congrArg (fun s:St=>s.bx 7) hS;have Rb8:=congrArg (fun s:St=>s.bx 8) hS;have Rb9:=congrArg (fun s:St=>s.bx 9) hS;have Rb10:=congrArg (fun s:St=>s.bx 10) hS;have Rb11:=congrArg (fun s:St=>s.bx 11) hS;have Rb16:=congrArg (fun s:St=>s.bx 16) hS;clear hS;simp only[go_sem]at Rr36 Rr38 Rr40 Rr116 Rr118 Rr120 Rb6 Rb7 Rb8 Rb9 Rb10 Rb11 Rb16;(try clear hc);intro K hc;simp only[go_sem,Rr36,Rr38,Rr40,Rr116,Rr118,Rr120,Rb6,Rb7,Rb8,Rb9,Rb10,Rb11,Rb16,hB,K3]at hc ⊢;simp only[go_sem,Rr36,Rr38,Rr40,Rr116,Rr118,Rr120,Rb6,Rb7,Rb8,Rb9,Rb10,Rb11,Rb16,hB,K0,a2P,a1E,a2O,a3E,a2b,a3D,a2a]at hc ⊢;simp only[b9B]at hc ⊢;(first|(simp only[hc,K5];done)|((repeat' first|exact hc|apply W6);done)))));all_goals try exact om'
 all_goals have h6:=d8e p s d
 all_goals have h7:=d3L p.Rules
 all_goals have h8:=c9Q s.Rels
 all_goals have h9:=c7a d.Changes
 all_goals(try rw[a9R q0 i8 a4K]at hc)
 all_goals(try rw[a9R q0 i8 a4K])
 all_goals(try rw[c2U q0 i8 a4K b9q])
 all_goals first
  | exact(hc trivial).elim
  | exact⟨z0C,rfl⟩
  | (exfalso;simp at hc;done)
  | (exfalso;rcases hc with h|h;· omega
     exact h trivial)
  | (exfalso;rcases hc with(h|h)|h;· omega
     ·exact h trivial
     ·simp at h)
  | (exfalso;simp at hc;omega)
  | (simp only[szR,a3o,a7c,a7b]at*;omega)
  | (simp only[szR,a3o,a7c,a7b]at*;refine⟨z0C,rfl⟩)
  | trace_state
def a6q:CT:=j8 (fun(x:c6×c4×f5)=>a2r x.1 x.2.1 x.2.2)
@[go_sem] def c0Z:=fun x0 x1 x2 x3=>nm' (fQ' a6q rfl (⟨x0,x1⟩,⟨x2⟩,⟨x3⟩))
end
end Go.Aw
