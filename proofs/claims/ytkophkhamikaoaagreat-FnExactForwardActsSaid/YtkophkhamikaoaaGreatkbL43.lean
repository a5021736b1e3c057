/- Stores and steps: sizes, copies, equalities. No condition. -/
import Derived.Test.YtkophkhamikaoaaGreatkbB3
import Derived.Test.YtkophkhamikaoaaGreatlMx2kb
namespace Go.Aw
noncomputable section
set_option maxHeartbeats 4000000
open Go.Proofs
attribute [local irreducible] aft blk lpK retK AW A0e
set_option linter.all false
set_option maxRecDepth 100000
def a1V(x:c7):Nat:=(x.V.length+p8 a1v x.V)
def b6l(x:f8):Nat:=(x.Rows.length+p8 a1V x.Rows)
def a0D(x:c9):Nat:=x.Name.length+b6l x.Rel
def a7a(x:c6):Nat:=(x.Rels.length+p8 a0D x.Rels)
def b8B(a:List d8)(left:Int)(hpre:0<=left/\left<=1048576):spZ 241 [(false,[l9 a]),(false,[.i .i64 left])] [] (.one (false,[.i .i64 (szR left ((a.length+p8 a1v a):Nat))])):=by
 refine sy' Tryz.func241 (q' 4 [aK 0] (q' 6 [aM [1,0],aN,aD .sub 6 8,aV 1] (.seq (q' 10 [am 1,aC .lss 10 0] (ci 11 (q' 4 [ao (.mov (.k (.v false [.c (.i .i64 (-1))])))] .ret))) (.seq (q' 5 [aK 0] (fo 0 12 [aM [5,0],aN,ar 12 14] 15 1 (q' 18 [aM [0,5],aI 2,aE 2,am 1,ac 240 [21,22],aV 1] (q' 24 [am 1,aC .lss 24 0] (ci 25 (q' 4 [ao (.mov (.k (.v false [.c (.i .i64 (-1))])))] .ret)))) (g' 16 [aB 5]))) (q' 26 [am 1,aV 4] .ret))))) [.t 4] [(240,[],a4O)] ?_;intro hb hE;simp only[go_sem];repeat' first|apply cj'|intro hc|exact om'|fail
 ·all_goals((repeat(simp(disch:=omega) only[a0U]at*))<;>(try simp only[szR,szR]at*)<;>(first|omega|(split<;>omega)))
 have hw:=a0U (l:=left) (n:=a.length) z0D z0D z0D z0D;rw[hw]at hc;refine lq' false [0] [] [] (fun i:{i:Nat // i<=a.length/\(a.length:Int)+(p8 a1v (a.take i):Nat)<=left}=>[(5,slV (.i .i64 i.1)),(1,slV (.i .i64 (left-a.length-(p8 a1v (a.take i.1):Nat))))]) nl' nl' (fun i=>a.length-i.1) (⟨0,z06⟩) ?_;intro S0 hS0 i;obtain⟨i,hi,ht⟩:=i;simp only[go_sem,hw,hS0];repeat' first|apply cj'|intro hc|exact om'|fail
 ·have h1:=s9 a1v (default:d8) (show i<a.length by omega);have h2:=a0m a1v a (i+1);all_goals((repeat(simp(disch:=omega) only[a0U]at*))<;>(try simp only[szR,szR]at*)<;>(first|omega|(split<;>omega)))
 ·have h1:=s9 a1v (default:d8) (show i<a.length by omega)
  (refine lpK_n2 (⟨i+1,z0D,z0R⟩) _ rfl ?_;simp only[go_sem,hw,hS0]<;>repeat' first|apply W6|exact on'|fail)
  rw[h1];unfold szR at hc ⊢;split at hc<;>omega
 ·have h1:=a1W a1v (show¬i<a.length by omega);all_goals((repeat(simp(disch:=omega) only[a0U]at*))<;>(try simp only[szR,szR]at*)<;>(first|omega|(split<;>omega)))
 all_goals all_goals((repeat(simp(disch:=omega) only[a0U]at*))<;>(try simp only[szR,szR]at*)<;>(first|omega|(split<;>omega)))
def a7R:CT:=n9 (fun(x:(List d8)×Int) h=>b8B x.1 x.2 h)
@[go_sem] def d3q:=fun a x0=>nm' (fP' a7R rfl (a,x0))
def c8d(a:c7)(left:Int)(hpre:0<=left/\left<=1048576):spZ 178 [(true,[l9 a.V]),(false,[.i .i64 left])] [] (.one (false,[.i .i64 (szR left (a1V a:Nat))])):=by
 refine sy' Tryz.func178 (q' 2 [aX 1 0,az 4 0] (q' 5 [aG 0 2,am 1,ac 241 [6,7],aV 1] (.seq (q' 9 [am 1,aC .lss 9 0] (ci 10 (q' 4 [ao (.mov (.k (.v false [.c (.i .i64 (-1))])))] .ret))) (q' 11 [am 1,aV 4] .ret)))) [.t 4] [(241,[],a7R)] ?_;intro hb hE;simp only[go_sem];repeat' first|apply cj'|intro hc|exact om'|fail
 all_goals((repeat(simp(disch:=omega) only[a0U]at*))<;>(try simp only[szR,a1V]at*)<;>(first|omega|(split<;>omega)))
def b3c:CT:=n9 (fun(x:c7×Int) h=>c8d x.1 x.2 h)
@[go_sem] def d9Y:=fun x0 x1=>nm' (fP' b3c rfl (⟨x0⟩,x1))
def c4P(a:List c7)(left:Int)(hpre:0<=left/\left<=1048576):spZ 126 [(false,[u7 a]),(false,[.i .i64 left])] [] (.one (false,[.i .i64 (szR left ((a.length+p8 a1V a):Nat))])):=by
 refine sy' Tryz.func126 (q' 4 [aK 0] (q' 6 [aM [1,0],aN,aD .sub 6 8,aV 1] (.seq (q' 10 [am 1,aC .lss 10 0] (ci 11 (q' 4 [ao (.mov (.k (.v false [.c (.i .i64 (-1))])))] .ret))) (.seq (q' 5 [aK 0] (fo 0 12 [aM [5,0],aN,ar 12 14] 15 1 (q' 18 [aM [0,5],aI 1,aE 1,am 1,ac 178 [21,22],aV 1] (q' 24 [am 1,aC .lss 24 0] (ci 25 (q' 4 [ao (.mov (.k (.v false [.c (.i .i64 (-1))])))] .ret)))) (g' 16 [aB 5]))) (q' 26 [am 1,aV 4] .ret))))) [.t 4] [(178,[],b3c)] ?_;intro hb hE;simp only[go_sem];repeat' first|apply cj'|intro hc|exact om'|fail
 ·all_goals((repeat(simp(disch:=omega) only[a0U]at*))<;>(try simp only[szR,szR]at*)<;>(first|omega|(split<;>omega)))
 have hw:=a0U (l:=left) (n:=a.length) z0D z0D z0D z0D;rw[hw]at hc;refine lq' false [0] [] [] (fun i:{i:Nat // i<=a.length/\(a.length:Int)+(p8 a1V (a.take i):Nat)<=left}=>[(5,slV (.i .i64 i.1)),(1,slV (.i .i64 (left-a.length-(p8 a1V (a.take i.1):Nat))))]) nl' nl' (fun i=>a.length-i.1) (⟨0,z06⟩) ?_;intro S0 hS0 i;obtain⟨i,hi,ht⟩:=i;simp only[go_sem,hw,hS0];repeat' first|apply cj'|intro hc|exact om'|fail
 ·have h1:=s9 a1V (default:c7) (show i<a.length by omega);have h2:=a0m a1V a (i+1);all_goals((repeat(simp(disch:=omega) only[a0U]at*))<;>(try simp only[szR,szR]at*)<;>(first|omega|(split<;>omega)))
 ·have h1:=s9 a1V (default:c7) (show i<a.length by omega)
  (refine lpK_n2 (⟨i+1,z0D,z0R⟩) _ rfl ?_;simp only[go_sem,hw,hS0]<;>repeat' first|apply W6|exact on'|fail)
  rw[h1];unfold szR at hc ⊢;split at hc<;>omega
 ·have h1:=a1W a1V (show¬i<a.length by omega);all_goals((repeat(simp(disch:=omega) only[a0U]at*))<;>(try simp only[szR,szR]at*)<;>(first|omega|(split<;>omega)))
 all_goals all_goals((repeat(simp(disch:=omega) only[a0U]at*))<;>(try simp only[szR,szR]at*)<;>(first|omega|(split<;>omega)))
def b0K:CT:=n9 (fun(x:(List c7)×Int) h=>c4P x.1 x.2 h)
@[go_sem] def d8a:=fun a x0=>nm' (fP' b0K rfl (a,x0))
def c8c(a:f8)(left:Int)(hpre:0<=left/\left<=1048576):spZ 79 [(true,[.i .i64 a.Arity,u7 a.Rows]),(false,[.i .i64 left])] [] (.one (false,[.i .i64 (szR left (b6l a:Nat))])):=by
 refine sy' Tryz.func79 (q' 2 [aX 2 0,az 4 0] (q' 5 [aG 1 2,am 1,ac 126 [6,7],aV 1] (.seq (q' 9 [am 1,aC .lss 9 0] (ci 10 (q' 4 [ao (.mov (.k (.v false [.c (.i .i64 (-1))])))] .ret))) (q' 11 [am 1,aV 4] .ret)))) [.t 4] [(126,[],b0K)] ?_;intro hb hE;simp only[go_sem];repeat' first|apply cj'|intro hc|exact om'|fail
 all_goals((repeat(simp(disch:=omega) only[a0U]at*))<;>(try simp only[szR,b6l]at*)<;>(first|omega|(split<;>omega)))
def b3b:CT:=n9 (fun(x:f8×Int) h=>c8c x.1 x.2 h)
@[go_sem] def d9X:=fun x0 x1 x2=>nm' (fP' b3b rfl (⟨x0,x1⟩,x2))
def c2c(a:c9)(left:Int)(hpre:0<=left/\left<=1048576):spZ 47 [(true,[.s a.Name,.i .i64 a.Rel.Arity,u7 a.Rel.Rows]),(false,[.i .i64 left])] [] (.one (false,[.i .i64 (szR left (a0D a:Nat))])):=by
 refine sy' Tryz.func47 (q' 2 [aX 3 0,az 4 0] (q' 5 [am 1,aG 0 2,ao (.lens (.t 7)),aD .sub 5 8,aV 1] (.seq (q' 10 [am 1,aC .lss 10 0] (ci 11 (q' 4 [ao (.mov (.k (.v false [.c (.i .i64 (-1))])))] .ret))) (q' 12 [af 1 2,aE 2,am 1,ac 79 [13,14],aV 1] (.seq (q' 16 [am 1,aC .lss 16 0] (ci 17 (q' 4 [ao (.mov (.k (.v false [.c (.i .i64 (-1))])))] .ret))) (q' 18 [am 1,aV 4] .ret)))))) [.t 4] [(79,[],b3b)] ?_;intro hb hE;simp only[go_sem];repeat' first|apply cj'|intro hc|exact om'|fail
 all_goals((repeat(simp(disch:=omega) only[a0U]at*))<;>(try simp only[szR,a0D]at*)<;>(first|omega|(split<;>omega)))
def a9c:CT:=n9 (fun(x:c9×Int) h=>c2c x.1 x.2 h)
@[go_sem] def d5o:=fun x0 x1 x2 x3=>nm' (fP' a9c rfl (⟨x0,⟨x1,x2⟩⟩,x3))
def b8A(a:List c9)(left:Int)(hpre:0<=left/\left<=1048576):spZ 22 [(false,[j7 a]),(false,[.i .i64 left])] [] (.one (false,[.i .i64 (szR left ((a.length+p8 a0D a):Nat))])):=by
 refine sy' Tryz.func22 (q' 4 [aK 0] (q' 6 [aM [1,0],aN,aD .sub 6 8,aV 1] (.seq (q' 10 [am 1,aC .lss 10 0] (ci 11 (q' 4 [ao (.mov (.k (.v false [.c (.i .i64 (-1))])))] .ret))) (.seq (q' 5 [aK 0] (fo 0 12 [aM [5,0],aN,ar 12 14] 15 1 (q' 18 [aM [0,5],aI 3,aE 3,am 1,ac 47 [21,22],aV 1] (q' 24 [am 1,aC .lss 24 0] (ci 25 (q' 4 [ao (.mov (.k (.v false [.c (.i .i64 (-1))])))] .ret)))) (g' 16 [aB 5]))) (q' 26 [am 1,aV 4] .ret))))) [.t 4] [(47,[],a9c)] ?_;intro hb hE;simp only[go_sem];repeat' first|apply cj'|intro hc|exact om'|fail
 ·all_goals((repeat(simp(disch:=omega) only[a0U]at*))<;>(try simp only[szR,szR]at*)<;>(first|omega|(split<;>omega)))
 have hw:=a0U (l:=left) (n:=a.length) z0D z0D z0D z0D;rw[hw]at hc;refine lq' false [0] [] [] (fun i:{i:Nat // i<=a.length/\(a.length:Int)+(p8 a0D (a.take i):Nat)<=left}=>[(5,slV (.i .i64 i.1)),(1,slV (.i .i64 (left-a.length-(p8 a0D (a.take i.1):Nat))))]) nl' nl' (fun i=>a.length-i.1) (⟨0,z06⟩) ?_;intro S0 hS0 i;obtain⟨i,hi,ht⟩:=i;simp only[go_sem,hw,hS0];repeat' first|apply cj'|intro hc|exact om'|fail
 ·have h1:=s9 a0D (default:c9) (show i<a.length by omega);have h2:=a0m a0D a (i+1);all_goals((repeat(simp(disch:=omega) only[a0U]at*))<;>(try simp only[szR,szR]at*)<;>(first|omega|(split<;>omega)))
 ·have h1:=s9 a0D (default:c9) (show i<a.length by omega)
  (refine lpK_n2 (⟨i+1,z0D,z0R⟩) _ rfl ?_;simp only[go_sem,hw,hS0]<;>repeat' first|apply W6|exact on'|fail)
  rw[h1];unfold szR at hc ⊢;split at hc<;>omega
 ·have h1:=a1W a0D (show¬i<a.length by omega);all_goals((repeat(simp(disch:=omega) only[a0U]at*))<;>(try simp only[szR,szR]at*)<;>(first|omega|(split<;>omega)))
 all_goals all_goals((repeat(simp(disch:=omega) only[a0U]at*))<;>(try simp only[szR,szR]at*)<;>(first|omega|(split<;>omega)))
def a7Q:CT:=n9 (fun(x:(List c9)×Int) h=>b8A x.1 x.2 h)
@[go_sem] def d3p:=fun a x0=>nm' (fP' a7Q rfl (a,x0))
def c2e(a:c6)(left:Int)(hpre:0<=left/\left<=1048576):spZ 5 [(true,[j7 a.Rels]),(false,[.i .i64 left])] [] (.one (false,[.i .i64 (szR left (a7a a:Nat))])):=by
 refine sy' Tryz.func5 (q' 2 [aX 1 0,az 4 0] (q' 5 [aG 0 2,am 1,ac 22 [6,7],aV 1] (.seq (q' 9 [am 1,aC .lss 9 0] (ci 10 (q' 4 [ao (.mov (.k (.v false [.c (.i .i64 (-1))])))] .ret))) (q' 11 [am 1,aV 4] .ret)))) [.t 4] [(22,[],a7Q)] ?_;intro hb hE;simp only[go_sem];repeat' first|apply cj'|intro hc|exact om'|fail
 all_goals((repeat(simp(disch:=omega) only[a0U]at*))<;>(try simp only[szR,a7a]at*)<;>(first|omega|(split<;>omega)))
def a9e:CT:=n9 (fun(x:c6×Int) h=>c2e x.1 x.2 h)
@[go_sem] def d5q:=fun x0 x1=>nm' (fP' a9e rfl (⟨x0⟩,x1))
def b8D(a:List d8)(hpre:(((a.length+p8 a1v a):Nat):Int)<=1048576):spZ 255 [(false,[l9 a])] [] (.one (false,[a5D a])):=by
 refine sx' true false none Tryz.func255 (q' 2 [ao (.mov (.k (.v false [.nl l7])))] (q' 5 [am 0,aN,ao (.mks 2 24 [.i .i64,.s] (.t 6) (.t 6)),aV 3] (.seq (q' 4 [aK 0] (fo 0 8 [aM [4,0],aN,ar 8 10] 11 1 (g' 14 [aM [3,4,0,4],aI 2,aE 2,ac 254 [19],ai 2 14 15,aS 2 21 20]) (g' 12 [aB 4]))) (q' 22 [am 3,aV 2] .ret)))) [.t 2] [(254,[],a4P)] ?_;intro hb hE;simp only[go_sem,b1j];repeat' first|apply cj'|intro hc|exact om'|fail
 refine lq' true [0,3] [] [] (fun i:{p:Nat×(List d8) // p.1<=a.length/\p.2.length=a.length/\p.2.take p.1=a.take p.1}=>[(4,slV (.i .i64 i.1.1))]) nl' (fun i=>[(896,l7,i.1.2.map d8.cells)]) (fun i=>a.length-i.1.1) (⟨(0,List.replicate a.length default),z0E⟩) ?_;intro S0 hS0 i;obtain⟨⟨i,L⟩,hi,hl,ht⟩:=i;simp only at hi hl ht;simp only[go_sem,b1j,hS0];repeat' first|apply cj'|intro hc|exact om'|fail
 ·(refine lpK_n2 (⟨(i+1,L.set i (a.getD i default)),z0G,z1F,z6 hl ht z0D⟩) _ rfl ?_;simp only[go_sem,b1j,hS0]<;>repeat' first|apply W6|exact on'|fail)
 ·obtain rfl:=w7 hl ht z0D;rfl
def a7T:CT:=n9 (fun(x:(List d8)) h=>b8D x h)
@[go_sem] def d3s:=fun a=>nm' (fP' a7T rfl a)
def c8g(a:c7)(hpre:(a1V a:Int)<=1048576):spZ 195 [(true,[l9 a.V])] [] (.one (true,[a5D a.V])):=by
 refine sx' true false none Tryz.func195 (q' 1 [aX 1 0,aw [.sl l7]] (q' 3 [aw [.sl l7]] (q' 4 [aG 0 1,ac 255 [5],af 0 3,aS 1 7 6] (q' 8 [ae 1 3,aS 1 2 8] .ret)))) [.c 2 true 1] [(255,[],a7T)] ?_;intro hb hE;simp only[go_sem];repeat' first|apply cj'|intro hc|exact om'|fail
 all_goals(simp only[a1V]at*;omega)
def b3f:CT:=n9 (fun(x:c7) h=>c8g x h)
@[go_sem] def e0b:=fun x0=>nm' (fP' b3f rfl ⟨x0⟩)
def c4W(a:List c7)(hpre:(((a.length+p8 a1V a):Nat):Int)<=1048576):spZ 139 [(false,[u7 a])] [] (.one (false,[b3x a])):=by
 refine sx' true false none Tryz.func139 (q' 2 [ao (.mov (.k (.v false [.nl k7])))] (q' 5 [am 0,aN,ao (.mks 1 24 [.sl l7] (.t 6) (.t 6)),aV 3] (.seq (q' 4 [aK 0] (fo 0 8 [aM [4,0],aN,ar 8 10] 11 1 (g' 14 [aM [3,4,0,4],aI 1,aE 1,ac 195 [19],ai 1 14 15,aS 1 21 20]) (g' 12 [aB 4]))) (q' 22 [am 3,aV 2] .ret)))) [.t 2] [(195,[],b3f)] ?_;intro hb hE;simp only[go_sem,b9u];repeat' first|apply cj'|intro hc|exact om'|fail
 refine lq' true [0,3] [] [] (fun i:{p:Nat×(List c7) // p.1<=a.length/\p.2.length=a.length/\p.2.take p.1=a.take p.1}=>[(4,slV (.i .i64 i.1.1))]) nl' (fun i=>[(896,b6T,i.1.2.map (c7.cells true true))]) (fun i=>a.length-i.1.1) (⟨(0,List.replicate a.length default),z0E⟩) ?_;intro S0 hS0 i;obtain⟨⟨i,L⟩,hi,hl,ht⟩:=i;simp only at hi hl ht;have hg:=b0e a1V a i default rfl;simp only[go_sem,b9u,hS0];repeat' first|apply cj'|intro hc|exact om'|fail
 ·(refine lpK_n2 (⟨(i+1,L.set i (a.getD i default)),z0G,z1F,z6 hl ht z0D⟩) _ rfl ?_;simp only[go_sem,b9u,hS0]<;>repeat' first|apply W6|exact on'|fail)
 ·obtain rfl:=w7 hl ht z0D;rfl
def b0P:CT:=n9 (fun(x:(List c7)) h=>c4W x h)
@[go_sem] def d8h:=fun a=>nm' (fP' b0P rfl a)
def c8f(a:f8)(hpre:(b6l a:Int)<=1048576):spZ 96 [(true,[.i .i64 a.Arity,u7 a.Rows])] [] (.one (true,[.i .i64 a.Arity,b3x a.Rows])):=by
 refine sx' true false none Tryz.func96 (q' 1 [aX 2 0,aw [.i .i64,.sl k7]] (q' 3 [aw [.i .i64,.sl k7]] (q' 4 [aG 0 1,af 0 3,aS 1 6 5] (q' 7 [aG 1 1,ac 139 [8],af 1 3,aS 1 10 9] (q' 11 [ae 2 3,aS 2 2 11] .ret))))) [.c 2 true 2] [(139,[],b0P)] ?_;intro hb hE;simp only[go_sem];repeat' first|apply cj'|intro hc|exact om'|fail
 all_goals(simp only[b6l]at*;omega)
def b3e:CT:=n9 (fun(x:f8) h=>c8f x h)
@[go_sem] def e0a:=fun x0 x1=>nm' (fP' b3e rfl ⟨x0,x1⟩)
def c2i(a:c9)(hpre:(a0D a:Int)<=1048576):spZ 60 [(true,[.s a.Name,.i .i64 a.Rel.Arity,u7 a.Rel.Rows])] [] (.one (true,[.s a.Name,.i .i64 a.Rel.Arity,b3x a.Rel.Rows])):=by
 refine sx' true false none Tryz.func60 (q' 1 [aX 3 0,aw [.s,.i .i64,.sl k7]] (q' 3 [aw [.s,.i .i64,.sl k7]] (q' 4 [aG 0 1,af 0 3,aS 1 6 5] (q' 7 [af 1 1,aE 2,ac 96 [8],af 1 3,aS 2 10 9] (q' 11 [ae 3 3,aS 3 2 11] .ret))))) [.c 2 true 3] [(96,[],b3e)] ?_;intro hb hE;simp only[go_sem];repeat' first|apply cj'|intro hc|exact om'|fail
 all_goals(simp only[a0D]at*;omega)
def a9h:CT:=n9 (fun(x:c9) h=>c2i x h)
@[go_sem] def d5u:=fun x0 x1 x2=>nm' (fP' a9h rfl ⟨x0,⟨x1,x2⟩⟩)
def b8C(a:List c9)(hpre:(((a.length+p8 a0D a):Nat):Int)<=1048576):spZ 30 [(false,[j7 a])] [] (.one (false,[a9Q a])):=by
 refine sx' true false none Tryz.func30 (q' 2 [ao (.mov (.k (.v false [.nl o0])))] (q' 5 [am 0,aN,ao (.mks 3 48 [.s,.i .i64,.sl k7] (.t 6) (.t 6)),aV 3] (.seq (q' 4 [aK 0] (fo 0 8 [aM [4,0],aN,ar 8 10] 11 1 (g' 14 [aM [3,4,0,4],aI 3,aE 3,ac 60 [19],ai 3 14 15,aS 3 21 20]) (g' 12 [aB 4]))) (q' 22 [am 3,aV 2] .ret)))) [.t 2] [(60,[],a9h)] ?_;intro hb hE;simp only[go_sem,b1i];repeat' first|apply cj'|intro hc|exact om'|fail
 refine lq' true [0,3] [] [] (fun i:{p:Nat×(List c9) // p.1<=a.length/\p.2.length=a.length/\p.2.take p.1=a.take p.1}=>[(4,slV (.i .i64 i.1.1))]) nl' (fun i=>[(896,b4l,i.1.2.map (c9.cells true true))]) (fun i=>a.length-i.1.1) (⟨(0,List.replicate a.length default),z0E⟩) ?_;intro S0 hS0 i;obtain⟨⟨i,L⟩,hi,hl,ht⟩:=i;simp only at hi hl ht;have hg:=b0e a0D a i default rfl;simp only[go_sem,b1i,hS0];repeat' first|apply cj'|intro hc|exact om'|fail
 ·(refine lpK_n2 (⟨(i+1,L.set i (a.getD i default)),z0G,z1F,z6 hl ht z0D⟩) _ rfl ?_;simp only[go_sem,b1i,hS0]<;>repeat' first|apply W6|exact on'|fail)
 ·obtain rfl:=w7 hl ht z0D;rfl
def a7S:CT:=n9 (fun(x:(List c9)) h=>b8C x h)
@[go_sem] def d3r:=fun a=>nm' (fP' a7S rfl a)
def c2k(a:c6)(hpre:(a7a a:Int)<=1048576):spZ 8 [(true,[j7 a.Rels])] [] (.one (true,[a9Q a.Rels])):=by
 refine sx' true false none Tryz.func8 (q' 1 [aX 1 0,aw [.sl o0]] (q' 3 [aw [.sl o0]] (q' 4 [aG 0 1,ac 30 [5],af 0 3,aS 1 7 6] (q' 8 [ae 1 3,aS 1 2 8] .ret)))) [.c 2 true 1] [(30,[],a7S)] ?_;intro hb hE;simp only[go_sem];repeat' first|apply cj'|intro hc|exact om'|fail
 all_goals(simp only[a7a]at*;omega)
def a9j:CT:=n9 (fun(x:c6) h=>c2k x h)
@[go_sem] def d5w:=fun x0=>nm' (fP' a9j rfl ⟨x0⟩)
def c4J(a:List c7)(b:List c7):spZ 176 [(false,[u7 a]),(false,[u7 b])] [] (.one (false,[.b (decide (a=b))])):=by
 refine sy' Tryz.func176 (q' 4 [aU false] (.seq (q' 6 [am 0,aN,am 1,aN,aD .neq 7 9] (ci 10 (q' 4 [aU false] .ret))) (.seq (q' 5 [aK 0] (fo 0 11 [aM [5,0],aN,ar 11 13] 14 1 (.seq (G' 17 [aM [0,5],aI 1,aE 1,aM [1,5],aI 1,aE 1,ac 239 [20,24],aO 25]) (ci 26 (q' 4 [aU false] .ret))) (g' 15 [aB 5]))) (q' 4 [aU true] .ret)))) [.t 4] [(239,[],b2Z)] ?_;intro hb hE;simp only[go_sem];repeat' first|apply cj'|intro hc|exact om'|fail
 ·symm;rw[q1E];rintro rfl;simp at hc
 have hl:a.length=b.length:=by simpa[q3H]using hc
 refine lq' false [0,1] [] [] (fun i:{i:Nat // i<=a.length/\a.take i=b.take i}=>[(5,slV (.i .i64 i.1))]) nl' nl' (fun i=>a.length-i.1) (⟨0,z0E⟩) ?_;intro S0 hS0 i;obtain⟨i,hi,ht⟩:=i;simp only[go_sem,hS0];repeat' first|apply cj'|intro hc|exact om'|fail
 ·exact(V5 (a1p default (i:=i) z0O)).symm
 ·exact nx0 ⟨i+1,z0D,a0Q ht z0D z0D (d:=default) z0O⟩
 ·exact(V3 (w7 hl ht z0D)).symm
def b0G:CT:=l4 (fun(x:(List c7)×(List c7))=>c4J x.1 x.2)
@[go_sem] def d7U:=fun a b=>nm' (fQ' b0G rfl (a,b))
def c7Z(a:f8)(b:f8):spZ 122 [(true,[.i .i64 a.Arity,u7 a.Rows]),(true,[.i .i64 b.Arity,u7 b.Rows])] [] (.one (false,[.b (decide (a=b))])):=by
 refine sy' Tryz.func122 (q' 2 [aX 2 0,aX 2 1,aU false] (.seq (q' 5 [aG 0 2,aG 0 3,aD .neq 6 8] (ci 9 (q' 4 [aU false] .ret))) (.seq (q' 10 [aG 1 2,aG 1 3,ac 176 [11,13],aO 14] (ci 15 (q' 4 [aU false] .ret))) (q' 4 [aU true] .ret)))) [.t 4] [(176,[],b0G)] ?_;intro hb hE;simp only[go_sem];repeat' first|apply cj'|intro hc|exact om'|fail
 all_goals(cases a;cases b;simp_all)
def b2Y:CT:=l4 (fun(x:f8×f8)=>c7Z x.1 x.2)
@[go_sem] def d9U:=fun x0 x1 x2 x3=>nm' (fQ' b2Y rfl (⟨x0,x1⟩,⟨x2,x3⟩))
def c1W(a:c9)(b:c9):spZ 72 [(true,[.s a.Name,.i .i64 a.Rel.Arity,u7 a.Rel.Rows]),(true,[.s b.Name,.i .i64 b.Rel.Arity,u7 b.Rel.Rows])] [] (.one (false,[.b (decide (a=b))])):=by
 refine sy' Tryz.func72 (q' 2 [aX 3 0,aX 3 1,aU false] (.seq (q' 5 [aG 0 2,aG 0 3,aD .neq 6 8] (ci 9 (q' 4 [aU false] .ret))) (.seq (q' 10 [af 1 2,aE 2,af 1 3,aE 2,ac 122 [11,13],aO 14] (ci 15 (q' 4 [aU false] .ret))) (q' 4 [aU true] .ret)))) [.t 4] [(122,[],b2Y)] ?_;intro hb hE;simp only[go_sem];repeat' first|apply cj'|intro hc|exact om'|fail
 all_goals(cases a;cases b;simp_all)
def a8X:CT:=l4 (fun(x:c9×c9)=>c1W x.1 x.2)
@[go_sem] def d5i:=fun x0 x1 x2 x3 x4 x5=>nm' (fQ' a8X rfl (⟨x0,⟨x1,x2⟩⟩,⟨x3,⟨x4,x5⟩⟩))
def b8s(a:List c9)(b:List c9):spZ 41 [(false,[j7 a]),(false,[j7 b])] [] (.one (false,[.b (decide (a=b))])):=by
 refine sy' Tryz.func41 (q' 4 [aU false] (.seq (q' 6 [am 0,aN,am 1,aN,aD .neq 7 9] (ci 10 (q' 4 [aU false] .ret))) (.seq (q' 5 [aK 0] (fo 0 11 [aM [5,0],aN,ar 11 13] 14 1 (.seq (G' 17 [aM [0,5],aI 3,aE 3,aM [1,5],aI 3,aE 3,ac 72 [20,24],aO 25]) (ci 26 (q' 4 [aU false] .ret))) (g' 15 [aB 5]))) (q' 4 [aU true] .ret)))) [.t 4] [(72,[],a8X)] ?_;intro hb hE;simp only[go_sem];repeat' first|apply cj'|intro hc|exact om'|fail
 ·symm;rw[q1E];rintro rfl;simp at hc
 have hl:a.length=b.length:=by simpa[q3H]using hc
 refine lq' false [0,1] [] [] (fun i:{i:Nat // i<=a.length/\a.take i=b.take i}=>[(5,slV (.i .i64 i.1))]) nl' nl' (fun i=>a.length-i.1) (⟨0,z0E⟩) ?_;intro S0 hS0 i;obtain⟨i,hi,ht⟩:=i;simp only[go_sem,hS0];repeat' first|apply cj'|intro hc|exact om'|fail
 ·exact(V5 (a1p default (i:=i) z0O)).symm
 ·exact nx0 ⟨i+1,z0D,a0Q ht z0D z0D (d:=default) z0O⟩
 ·exact(V3 (w7 hl ht z0D)).symm
def a7J:CT:=l4 (fun(x:(List c9)×(List c9))=>b8s x.1 x.2)
@[go_sem] def d3h:=fun a b=>nm' (fQ' a7J rfl (a,b))
def c1Y(a:c6)(b:c6):spZ 13 [(true,[j7 a.Rels]),(true,[j7 b.Rels])] [] (.one (false,[.b (decide (a=b))])):=by
 refine sy' Tryz.func13 (q' 2 [aX 1 0,aX 1 1,aU false] (.seq (q' 5 [aG 0 2,aG 0 3,ac 41 [6,8],aO 9] (ci 10 (q' 4 [aU false] .ret))) (q' 4 [aU true] .ret))) [.t 4] [(41,[],a7J)] ?_;intro hb hE;simp only[go_sem];repeat' first|apply cj'|intro hc|exact om'|fail
 all_goals(cases a;cases b;simp_all)
def a8Z:CT:=l4 (fun(x:c6×c6)=>c1Y x.1 x.2)
@[go_sem] def d5k:=fun x0 x1=>nm' (fQ' a8Z rfl (⟨x0⟩,⟨x1⟩))
def c4U(a:List Int)(hpre:((a.length:Nat):Int)<=1048576):spZ 9 [(false,[a4h a])] [] (.one (false,[d6j a])):=by
 refine sx' true false none Tryz.func9 (q' 2 [ao (.mov (.k (.v false [.nl [.i .i64 0]])))] (q' 5 [am 0,aN,ao (.mks 1 8 [.i .i64] (.t 6) (.t 6)),aV 3] (.seq (q' 4 [aK 0] (fo 0 8 [aM [4,0],aN,ar 8 10] 11 1 (g' 14 [aM [3,4,0,4],aI 1,aL,ai 1 14 15,aS 1 20 19]) (g' 12 [aB 4]))) (q' 21 [am 3,aV 2] .ret)))) [.t 2] [] ?_;intro hb hE;simp only[go_sem,q0K];repeat' first|apply cj'|intro hc|exact om'|fail
 refine lq' true [0,3] [] [] (fun i:{p:Nat×(List Int) // p.1<=a.length/\p.2.length=a.length/\p.2.take p.1=a.take p.1}=>[(4,slV (.i .i64 i.1.1))]) nl' (fun i=>[(896,[.i .i64 0],i.1.2.map a0F)]) (fun i=>a.length-i.1.1) (⟨(0,List.replicate a.length 0),z0E⟩) ?_;intro S0 hS0 i;obtain⟨⟨i,L⟩,hi,hl,ht⟩:=i;simp only at hi hl ht;simp only[go_sem,q0K,hS0];repeat' first|apply cj'|intro hc|exact om'|fail
 ·(refine lpK_n2 (⟨(i+1,L.set i (a.getD i 0)),z0G,z1F,z6 hl ht z0D⟩) _ rfl ?_;simp only[go_sem,q0K,hS0]<;>repeat' first|apply W6|exact on'|fail)
 ·obtain rfl:=w7 hl ht z0D;rfl
def b0N:CT:=n9 (fun(x:(List Int)) h=>c4U x h)
@[go_sem] def d8f:=fun a=>nm' (fP' b0N rfl a)
def c4H(a:List Int)(b:List Int):spZ 14 [(false,[a4h a]),(false,[a4h b])] [] (.one (false,[.b (decide (a=b))])):=by
 refine sy' Tryz.func14 (q' 4 [aU false] (.seq (q' 6 [am 0,aN,am 1,aN,aD .neq 7 9] (ci 10 (q' 4 [aU false] .ret))) (.seq (q' 5 [aK 0] (fo 0 11 [aM [5,0],aN,ar 11 13] 14 1 (.seq (G' 17 [aM [0,5],aI 1,aL,aM [1,5],aI 1,aL,aD .neq 20 24]) (ci 25 (q' 4 [aU false] .ret))) (g' 15 [aB 5]))) (q' 4 [aU true] .ret)))) [.t 4] [] ?_;intro hb hE;simp only[go_sem];repeat' first|apply cj'|intro hc|exact om'|fail
 ·symm;rw[q1E];rintro rfl;simp at hc
 have hl:a.length=b.length:=by simpa[q3H]using hc
 refine lq' false [0,1] [] [] (fun i:{i:Nat // i<=a.length/\a.take i=b.take i}=>[(5,slV (.i .i64 i.1))]) nl' nl' (fun i=>a.length-i.1) (⟨0,z0E⟩) ?_;intro S0 hS0 i;obtain⟨i,hi,ht⟩:=i;simp only[go_sem,hS0];repeat' first|apply cj'|intro hc|exact om'|fail
 ·exact(V5 (a1p 0 (i:=i) z0O)).symm
 ·exact nx0 ⟨i+1,z0D,a0Q ht z0D z0D (d:=0) z0O⟩
 ·exact(V3 (w7 hl ht z0D)).symm
def b0E:CT:=l4 (fun(x:(List Int)×(List Int))=>c4H x.1 x.2)
@[go_sem] def d7S:=fun a b=>nm' (fQ' b0E rfl (a,b))
def c7X(a:i3)(b:i3):spZ 38 [(true,[.i .i64 a.Kind,.i .i64 a.A,.i .i64 a.B]),(true,[.i .i64 b.Kind,.i .i64 b.A,.i .i64 b.B])] [] (.one (false,[.b (decide (a=b))])):=by
 refine sy' Tryz.func38 (q' 2 [aX 3 0,aX 3 1,aU false] (.seq (q' 5 [aG 0 2,aG 0 3,aD .neq 6 8] (ci 9 (q' 4 [aU false] .ret))) (.seq (q' 10 [aG 1 2,aG 1 3,aD .neq 11 13] (ci 14 (q' 4 [aU false] .ret))) (.seq (q' 15 [aG 2 2,aG 2 3,aD .neq 16 18] (ci 19 (q' 4 [aU false] .ret))) (q' 4 [aU true] .ret))))) [.t 4] [] ?_;intro hb hE;simp only[go_sem];repeat' first|apply cj'|intro hc|exact om'|fail
 all_goals(cases a;cases b;simp_all)
def b2W:CT:=l4 (fun(x:i3×i3)=>c7X x.1 x.2)
@[go_sem] def d9S:=fun x0 x1 x2 x3 x4 x5=>nm' (fQ' b2W rfl (⟨x0,x1,x2⟩,⟨x3,x4,x5⟩))
def c4E(a:List i3)(b:List i3):spZ 11 [(false,[d0q a]),(false,[d0q b])] [] (.one (false,[.b (decide (a=b))])):=by
 refine sy' Tryz.func11 (q' 4 [aU false] (.seq (q' 6 [am 0,aN,am 1,aN,aD .neq 7 9] (ci 10 (q' 4 [aU false] .ret))) (.seq (q' 5 [aK 0] (fo 0 11 [aM [5,0],aN,ar 11 13] 14 1 (.seq (G' 17 [aM [0,5],aI 3,aE 3,aM [1,5],aI 3,aE 3,ac 38 [20,24],aO 25]) (ci 26 (q' 4 [aU false] .ret))) (g' 15 [aB 5]))) (q' 4 [aU true] .ret)))) [.t 4] [(38,[],b2W)] ?_;intro hb hE;simp only[go_sem];repeat' first|apply cj'|intro hc|exact om'|fail
 ·symm;rw[q1E];rintro rfl;simp at hc
 have hl:a.length=b.length:=by simpa[q3H]using hc
 refine lq' false [0,1] [] [] (fun i:{i:Nat // i<=a.length/\a.take i=b.take i}=>[(5,slV (.i .i64 i.1))]) nl' nl' (fun i=>a.length-i.1) (⟨0,z0E⟩) ?_;intro S0 hS0 i;obtain⟨i,hi,ht⟩:=i;simp only[go_sem,hS0];repeat' first|apply cj'|intro hc|exact om'|fail
 ·exact(V5 (a1p default (i:=i) z0O)).symm
 ·exact nx0 ⟨i+1,z0D,a0Q ht z0D z0D (d:=default) z0O⟩
 ·exact(V3 (w7 hl ht z0D)).symm
def b0C:CT:=l4 (fun(x:(List i3)×(List i3))=>c4E x.1 x.2)
@[go_sem] def d7P:=fun a b=>nm' (fQ' b0C rfl (a,b))
def digM(n:Nat)(acc:List UInt8):List UInt8:=if h:n=0 then acc else digM (n/10) (UInt8.ofNat (48+n%10)::acc)
termination_by n
decreasing_by omega
def a5F(k:Int):List UInt8:=if k<=0 then[109,48]else 109::digM k.toNat []
def b8z(k:Int)(hpre:k<=4611686018427387904):spZ 73 [(false,[.i .i64 k])] [] (.one (false,[.s (a5F k)])):=by
 refine sy' Tryz.func73 (q' 2 [ao (.mov (.k (.v false [.c (.s [])])))] (.seq (q' 4 [am 0,aC .leq 4 0] (ci 5 (q' 2 [ao (.mov (.k (.v false [.c (.s [109,48])])))] .ret))) (q' 3 [ao (.mov (.k (.v false [.c (.s [])])))] (.seq (lO 0 (.seq (q' 6 [am 0,aC .gtr 6 0] (cd 7 .skip (.exit 0))) (.block 1 (q' 8 [am 0,aC .rem 8 10,ao (.bin .add (k' 48) (.t 9)),ao (.cv .u8 (.t 10)),ao (.bsl 1 1 [.i .u8] [(0,.t 11)]),ao (.bs2s (.t 12)),am 3,aD .add 13 14,aV 3] (g' 16 [am 0,aC .quo 16 10,aV 0]))))) (q' 18 [am 3,ao (.bin .add (.k (.v false [.c (.s [109])])) (.t 18)),aV 2] .ret))))) [.t 2] [] ?_;intro hb hE;simp only[go_sem];repeat' first|apply cj'|intro hc|exact om'|fail
 ·rw[a5F,if_pos hc]
 have hk:=hc;refine lq' false [] [] [] (fun i:{p:Nat×List UInt8 // digM p.1 p.2=digM k.toNat []/\p.2.length+p.1<=k.toNat}=>[(0,slV (.i .i64 i.1.1)),(3,slV (.s i.1.2))]) nl' nl' (fun i=>i.1.1) (⟨(k.toNat,[]),z0E⟩) ?_;intro S0 hS0 i;obtain⟨⟨n,acc⟩,hd,hl⟩:=i;simp only at hd hl;have hq:IntKind.i64.wrap ((n:Int).tdiv 10)=((n/10:Nat):Int):=by rw[IntWalk.i64_quo _ _ z0D];omega
 have hr:(IntKind.u8.wrap (IntKind.i64.wrap (48+(n:Int).tmod 10))).toNat=48+n%10:=by
  have e:(n:Int).tmod 10=((n%10:Nat):Int):=by rw[Int.tmod_eq_emod_of_nonneg z0D];omega
  rw[e,IntWalk.i64_in _ z0D,IntWalk.u8_in _ z0D];omega
 simp only[go_sem,hq,hr];repeat' first|apply cj'|intro hc|exact om'|fail
 ·have hn:n≠0:=by omega
  (refine lpK_n2 (⟨(n/10,UInt8.ofNat (48+n%10)::acc),by rw[<-hd];conv=>rhs;rw[digM];rw[dif_neg hn],z04⟩) _ rfl ?_;simp only[go_sem,hq,hr]<;>repeat' first|apply W6|exact on'|fail)
 ·have hn:n=0:=by omega
  subst hn;rw[a5F,if_neg hk,<-hd,digM];rfl
def a0J:CT:=n9 (fun(x:Int) h=>b8z x h)
@[go_sem] def d3o:=fun k=>nm' (fP' a0J rfl k)
def b1S(k:Int):d8:=(d8.mk k (a5F (k+1)))
def a2p(n:Nat)(k:Int):List d8:=(List.range n).map fun i:Nat=>b1S (k+2*(i:Int))
def a2Q(n:Nat)(k:Int):(a2p n k).length=n:=by simp[a2p]
variable{i:Nat}
def b8Z(n:Nat)(k:Int)(h:i<n):(a2p n k).getD i default=b1S (k+2*(i:Int)):=by
 rw[W5,a2p,q3G,q4O h];rfl
def b6d(k:Int):d9:=(d9.mk (a5F k) (d8.mk (k+1) (a5F (k+2))))
def a2z(n:Nat)(k:Int):List d9:=(List.range n).map fun i:Nat=>b6d (k+3*(i:Int))
def a3A(n:Nat)(k:Int):(a2z n k).length=n:=by simp[a2z]
def c2K(n:Nat)(k:Int)(h:i<n):(a2z n k).getD i default=b6d (k+3*(i:Int)):=by
 rw[W5,a2z,q3G,q4O h];rfl
def b3L(a:List d8)(k:Int)(hpre:0<=k/\k+2*(a.length:Nat)<=4611686018427387904):spZ 123 [(false,[a5D a]),(false,[.i .i64 k])] [(0,(false,[a5D (a2p a.length k)]))] (.one (false,[.i .i64 (k+2*(a.length:Nat))])):=by
 refine sx' true false (some 0) Tryz.func123 (q' 4 [aK 0] (.seq (q' 5 [aK 0] (fo 0 6 [aM [5,0],aN,ar 6 8] 9 1 (q' 12 [aM [0,5,1],ai 2 12 13,aF 0,aS 1 16 14] (q' 17 [aB 1] (q' 19 [aM [0,5,1],ac 73 [21],ai 2 19 20,aF 1,aS 1 24 22] (g' 25 [aB 1])))) (g' 10 [aB 5]))) (q' 27 [am 1,aV 4] .ret))) [.t 4] [(73,[],a0J)] ?_;intro hb hE;simp only[go_sem];repeat' first|apply cj'|intro hc|exact om'|fail
 refine lq' true [0] [] [] (fun i:{p:Nat×(List d8) // p.1<=a.length/\p.2.length=a.length/\p.2.take p.1=(a2p a.length k).take p.1}=>[(5,slV (.i .i64 i.1.1)),(1,slV (.i .i64 (k+2*(i.1.1:Int))))]) nl' (fun i=>[(1,l7,i.1.2.map d8.cells)]) (fun i=>a.length-i.1.1) (⟨(0,a),z0E⟩) ?_;intro S0 hS0 i;obtain⟨⟨i,L⟩,hi,hl,ht⟩:=i;simp only at hi hl ht;by_cases hil:(i:Int)<L.length
 ·have hgs:∀x,(L.set i x).getD i default=x:=fun x=>by rw[W5,q1C z0D];rfl
  have hss:∀x y,(L.set i x).set i y=L.set i y:=fun x y=>q3D ..
  have hw0:IntKind.i64.wrap (k+2*(i:Int)+1)=k+2*(i:Int)+1:=w64 z0D z0D z0D;have hw1:IntKind.i64.wrap (k+2*(i:Int)+1+1)=k+2*(i:Int)+2:=w64 z0D z0D z0D;simp only[go_sem,hS0,hgs,hss,hil,hw0,hw1];repeat' first|apply cj'|intro hc|exact om'|fail
  (refine lpK_n2 (⟨(i+1,L.set i (b1S (k+2*(i:Int)))),z0G,z1F,by rw[<-b8Z a.length k (show i<a.length by omega)];exact z6 (by rw[hl,a2Q]) ht (by rw[a2Q];omega)⟩) _ rfl ?_;simp only[go_sem,hS0,hgs,hss,hil,hw0,hw1]<;>repeat' first|apply W6|exact on'|fail)
  ·exact(hc trivial).elim
 ·simp only[go_sem,hS0,hil];repeat' first|apply cj'|intro hc|exact om'|fail
  obtain rfl:i=a.length:=by omega
  obtain rfl:=w7 (by rw[hl,a2Q]) ht (by rw[a2Q];omega);exact⟨rfl,rfl⟩
def a5y:CT:=n9 (fun(x:(List d8)×Int) h=>b3L x.1 x.2 h)
@[go_sem] def c9G:=fun a k=>nm' (fP' a5y rfl (a,k))
def b5H(a:List d9)(k:Int)(hpre:0<=k/\k+3*(a.length:Nat)<=4611686018427387904):spZ 74 [(false,[b5x a]),(false,[.i .i64 k])] [(0,(false,[b5x (a2z a.length k)]))] (.one (false,[.i .i64 (k+3*(a.length:Nat))])):=by
 refine sx' true false (some 0) Tryz.func74 (q' 4 [aK 0] (.seq (q' 5 [aK 0] (fo 0 6 [aM [5,0],aN,ar 6 8] 9 1 (q' 12 [aM [0,5,1],ac 73 [14],ai 3 12 13,aF 0,aS 1 17 15] (q' 18 [aB 1] (q' 20 [aM [0,5,1],ai 3 20 21,aF 1,aF 0,aS 1 25 22] (q' 26 [aB 1] (q' 28 [aM [0,5,1],ac 73 [30],ai 3 28 29,aF 1,aF 1,aS 1 34 31] (g' 35 [aB 1])))))) (g' 10 [aB 5]))) (q' 37 [am 1,aV 4] .ret))) [.t 4] [(73,[],a0J)] ?_;intro hb hE;simp only[go_sem];repeat' first|apply cj'|intro hc|exact om'|fail
 refine lq' true [0] [] [] (fun i:{p:Nat×(List d9) // p.1<=a.length/\p.2.length=a.length/\p.2.take p.1=(a2z a.length k).take p.1}=>[(5,slV (.i .i64 i.1.1)),(1,slV (.i .i64 (k+3*(i.1.1:Int))))]) nl' (fun i=>[(1,k9,i.1.2.map d9.cells)]) (fun i=>a.length-i.1.1) (⟨(0,a),z0E⟩) ?_;intro S0 hS0 i;obtain⟨⟨i,L⟩,hi,hl,ht⟩:=i;simp only at hi hl ht;by_cases hil:(i:Int)<L.length
 ·have hgs:∀x,(L.set i x).getD i default=x:=fun x=>by rw[W5,q1C z0D];rfl
  have hss:∀x y,(L.set i x).set i y=L.set i y:=fun x y=>q3D ..
  have hw0:IntKind.i64.wrap (k+3*(i:Int)+1)=k+3*(i:Int)+1:=w64 z0D z0D z0D;have hw1:IntKind.i64.wrap (k+3*(i:Int)+1+1)=k+3*(i:Int)+2:=w64 z0D z0D z0D;have hw2:IntKind.i64.wrap (k+3*(i:Int)+2+1)=k+3*(i:Int)+3:=w64 z0D z0D z0D;simp only[go_sem,hS0,hgs,hss,hil,hw0,hw1,hw2];repeat' first|apply cj'|intro hc|exact om'|fail
  (refine lpK_n2 (⟨(i+1,L.set i (b6d (k+3*(i:Int)))),z0G,z1F,by rw[<-c2K a.length k (show i<a.length by omega)];exact z6 (by rw[hl,a3A]) ht (by rw[a3A];omega)⟩) _ rfl ?_;simp only[go_sem,hS0,hgs,hss,hil,hw0,hw1,hw2]<;>repeat' first|apply W6|exact on'|fail)
  ·exact(hc trivial).elim
 ·simp only[go_sem,hS0,hil];repeat' first|apply cj'|intro hc|exact om'|fail
  obtain rfl:i=a.length:=by omega
  obtain rfl:=w7 (by rw[hl,a3A]) ht (by rw[a3A];omega);exact⟨rfl,rfl⟩
def a3a:CT:=n9 (fun(x:(List d9)×Int) h=>b5H x.1 x.2 h)
@[go_sem] def d1J:=fun a k=>nm' (fP' a3a rfl (a,k))
def z8(x:e8):Nat:=9+3*x.Atom.Args.length
def a5d(x:e8)(k:Int):e8:=e8.mk k (f9.mk (a5F (k+1)) (a2z x.Atom.Args.length (k+2))) ((k+2)+3*(x.Atom.Args.length:Nat)) (d9.mk (a5F (((k+2)+3*(x.Atom.Args.length:Nat))+1)) (d8.mk (((k+2)+3*(x.Atom.Args.length:Nat))+2) (a5F (((k+2)+3*(x.Atom.Args.length:Nat))+3)))) (d9.mk (a5F (((k+2)+3*(x.Atom.Args.length:Nat))+4)) (d8.mk (((k+2)+3*(x.Atom.Args.length:Nat))+5) (a5F (((k+2)+3*(x.Atom.Args.length:Nat))+6))))
def b8x(a:List e8)(k:Int)(hpre:0<=k/\k+(p8 z8 a:Nat)<=4611686018427387904):spZ 75 [(false,[d6f a]),(false,[.i .i64 k])] [(0,(false,[d6f (mkL a5d z8 a k)]))] (.one (false,[.i .i64 (k+(p8 z8 a:Nat))])):=by
 refine sx' true false (some 0) Tryz.func75 (q' 4 [aK 0] (.seq (q' 5 [aK 0] (fo 0 6 [aM [5,0],aN,ar 6 8] 9 1 (q' 12 [aM [0,5,1],ai 10 12 13,aF 0,aS 1 16 14] (q' 17 [aB 1] (q' 19 [aM [0,5,1],ac 73 [21],ai 10 19 20,aF 1,aF 0,aS 1 25 22] (q' 26 [aB 1] (q' 28 [aM [0,5],aI 10,aF 1,aG 1 31,am 1,ac 74 [33,34],aV 1] (q' 36 [aM [0,5,1],ai 10 36 37,aF 3,aS 1 40 38] (q' 41 [aB 1] (q' 43 [aM [0,5,1],ac 73 [45],ai 10 43 44,aF 4,aF 0,aS 1 49 46] (q' 50 [aB 1] (q' 52 [aM [0,5,1],ai 10 52 53,aF 4,aF 1,aF 0,aS 1 58 54] (q' 59 [aB 1] (q' 61 [aM [0,5,1],ac 73 [63],ai 10 61 62,aF 4,aF 1,aF 1,aS 1 68 64] (q' 69 [aB 1] (q' 71 [aM [0,5,1],ac 73 [73],ai 10 71 72,aF 7,aF 0,aS 1 77 74] (q' 78 [aB 1] (q' 80 [aM [0,5,1],ai 10 80 81,aF 7,aF 1,aF 0,aS 1 86 82] (q' 87 [aB 1] (q' 89 [aM [0,5,1],ac 73 [91],ai 10 89 90,aF 7,aF 1,aF 1,aS 1 96 92] (g' 97 [aB 1]))))))))))))))))))) (g' 10 [aB 5]))) (q' 99 [am 1,aV 4] .ret))) [.t 4] [(73,[],a0J),(74,[0],a3a)] ?_;intro hb hE;simp only[go_sem];repeat' first|apply cj'|intro hc|exact om'|fail
 refine lq' true [0] [] [] (fun i:{p:Nat×List e8 // p.1<=a.length/\p.2=mkL a5d z8 (a.take p.1) k++a.drop p.1}=>[(5,slV (.i .i64 i.1.1)),(1,slV (.i .i64 (k+(p8 z8 (a.take i.1.1):Nat))))]) nl' (fun i=>[(1,d1z,i.1.2.map (e8.cells true true))]) (fun i=>a.length-i.1.1) (⟨(0,a),by simp[mkL]⟩) ?_;intro S0 hS0 i;obtain⟨⟨i,L⟩,hi,hL⟩:=i;simp only at hi hL;have hl:L.length=a.length:=by rw[hL];exact b9j a5d z8 a k i
 by_cases hil:(i:Int)<L.length
 ·have hgs:∀x,(L.set i x).getD i default=x:=fun x=>by rw[W5,q1C z0D];rfl
  have hss:∀x y,(L.set i x).set i y=L.set i y:=fun x y=>q3D ..
  have hg2:∀x,((L.map (e8.cells true true)).set i x).getD i d1z=x:=fun x=>by rw[W5,q1C z01];rfl
  have hs2:∀x z,((L.map (e8.cells true true)).set i x).set i z=(L.map (e8.cells true true)).set i z:=fun x z=>q3D ..
  have hg3:∀y x,(((L.set i y).map (e8.cells true true)).set i x).getD i d1z=x:=fun y x=>by rw[W5,q1C z2F];rfl
  have hs3:∀y x z,(((L.set i y).map (e8.cells true true)).set i x).set i z=((L.set i y).map (e8.cells true true)).set i z:=fun y x z=>q3D ..
  have hx:L.getD i default=a.getD i default:=by rw[hL];exact b9i a5d z8 default k (by omega)
  have ht:=s9 z8 default (show i<a.length by omega);have ht2:=a0m z8 a (i+1);simp only[z8]at ht;have hw0:IntKind.i64.wrap ((k+(p8 z8 (a.take i):Nat))+1)=((k+(p8 z8 (a.take i):Nat))+1):=w64 z0D z0D z0D;have hw1:IntKind.i64.wrap (((k+(p8 z8 (a.take i):Nat))+1)+1)=((k+(p8 z8 (a.take i):Nat))+2):=w64 z0D z0D z0D;have hw2:IntKind.i64.wrap ((((k+(p8 z8 (a.take i):Nat))+2)+3*((a.getD i default).Atom.Args.length:Nat))+1)=((((k+(p8 z8 (a.take i):Nat))+2)+3*((a.getD i default).Atom.Args.length:Nat))+1):=w64 z0D z0D z0D;have hw3:IntKind.i64.wrap (((((k+(p8 z8 (a.take i):Nat))+2)+3*((a.getD i default).Atom.Args.length:Nat))+1)+1)=((((k+(p8 z8 (a.take i):Nat))+2)+3*((a.getD i default).Atom.Args.length:Nat))+2):=w64 z0D z0D z0D;have hw4:IntKind.i64.wrap (((((k+(p8 z8 (a.take i):Nat))+2)+3*((a.getD i default).Atom.Args.length:Nat))+2)+1)=((((k+(p8 z8 (a.take i):Nat))+2)+3*((a.getD i default).Atom.Args.length:Nat))+3):=w64 z0D z0D z0D;have hw5:IntKind.i64.wrap (((((k+(p8 z8 (a.take i):Nat))+2)+3*((a.getD i default).Atom.Args.length:Nat))+3)+1)=((((k+(p8 z8 (a.take i):Nat))+2)+3*((a.getD i default).Atom.Args.length:Nat))+4):=w64 z0D z0D z0D;have hw6:IntKind.i64.wrap (((((k+(p8 z8 (a.take i):Nat))+2)+3*((a.getD i default).Atom.Args.length:Nat))+4)+1)=((((k+(p8 z8 (a.take i):Nat))+2)+3*((a.getD i default).Atom.Args.length:Nat))+5):=w64 z0D z0D z0D;have hw7:IntKind.i64.wrap (((((k+(p8 z8 (a.take i):Nat))+2)+3*((a.getD i default).Atom.Args.length:Nat))+5)+1)=((((k+(p8 z8 (a.take i):Nat))+2)+3*((a.getD i default).Atom.Args.length:Nat))+6):=w64 z0D z0D z0D;have hw8:IntKind.i64.wrap (((((k+(p8 z8 (a.take i):Nat))+2)+3*((a.getD i default).Atom.Args.length:Nat))+6)+1)=((((k+(p8 z8 (a.take i):Nat))+2)+3*((a.getD i default).Atom.Args.length:Nat))+7):=w64 z0D z0D z0D;simp only[go_sem,hS0,hgs,hss,hx,hil,hg2,hs2,hg3,hs3,hw0,hw1,hw2,hw3,hw4,hw5,hw6,hw7,hw8];repeat' first|apply cj'|intro hc|exact om'|fail
  all_goals first
   | omega
   | (exact(hc trivial).elim)
   | ((refine lpK_n2 (⟨(i+1,L.set i (a5d (a.getD i default) (k+(p8 z8 (a.take i):Nat)))),z0G,by rw[hL];exact b9k a5d z8 default k z0D⟩) _ rfl ?_;simp only[go_sem,hS0,hgs,hss,hx,hil,hg2,hs2,hg3,hs3,hw0,hw1,hw2,hw3,hw4,hw5,hw6,hw7,hw8]<;>repeat' first|apply W6|exact on'|fail);first|done|(simp only[ht];omega))
   | trace_state
 ·simp only[go_sem,hS0,hil];repeat' first|apply cj'|intro hc|exact om'|fail
  have h1:=a1W z8 (show¬i<a.length by omega);rw[q1A z0D,q3W z0D,q0A]at hL;all_goals first|exact⟨by rw[h1],by rw[hL]⟩|trace_state
def a7O:CT:=n9 (fun(x:(List e8)×Int) h=>b8x x.1 x.2 h)
@[go_sem] def d3m:=fun a k=>nm' (fP' a7O rfl (a,k))
def b6c(k:Int):f7:=(f7.mk k (a5F (k+1)) (k+2))
def a2y(n:Nat)(k:Int):List f7:=(List.range n).map fun i:Nat=>b6c (k+3*(i:Int))
def a3z(n:Nat)(k:Int):(a2y n k).length=n:=by simp[a2y]
def c2J(n:Nat)(k:Int)(h:i<n):(a2y n k).getD i default=b6c (k+3*(i:Int)):=by
 rw[W5,a2y,q3G,q4O h];rfl
def a0q(x:c8):Nat:=2+3*x.Head.Args.length+p8 z8 x.Body
def a2x(x:c8)(k:Int):c8:=c8.mk k (f9.mk (a5F (k+1)) (a2z x.Head.Args.length (k+2))) (mkL a5d z8 x.Body ((k+2)+3*(x.Head.Args.length:Nat)))
def a1z(x:c7):Nat:=2*x.V.length
def a5e(x:c7)(k:Int):c7:=c7.mk (a2p x.V.length k)
def a0a(x:c9):Nat:=2+p8 a1z x.Rel.Rows
def a2o(x:c9)(k:Int):c9:=c9.mk (a5F k) (f8.mk (k+1) (mkL a5e a1z x.Rel.Rows (k+2)))
def b5E(a:List f7)(k:Int)(hpre:0<=k/\k+3*(a.length:Nat)<=4611686018427387904):spZ 42 [(false,[b5w a]),(false,[.i .i64 k])] [(0,(false,[b5w (a2y a.length k)]))] (.one (false,[.i .i64 (k+3*(a.length:Nat))])):=by
 refine sx' true false (some 0) Tryz.func42 (q' 4 [aK 0] (.seq (q' 5 [aK 0] (fo 0 6 [aM [5,0],aN,ar 6 8] 9 1 (q' 12 [aM [0,5,1],ai 3 12 13,aF 0,aS 1 16 14] (q' 17 [aB 1] (q' 19 [aM [0,5,1],ac 73 [21],ai 3 19 20,aF 1,aS 1 24 22] (q' 25 [aB 1] (q' 27 [aM [0,5,1],ai 3 27 28,aF 2,aS 1 31 29] (g' 32 [aB 1])))))) (g' 10 [aB 5]))) (q' 34 [am 1,aV 4] .ret))) [.t 4] [(73,[],a0J)] ?_;intro hb hE;simp only[go_sem];repeat' first|apply cj'|intro hc|exact om'|fail
 refine lq' true [0] [] [] (fun i:{p:Nat×(List f7) // p.1<=a.length/\p.2.length=a.length/\p.2.take p.1=(a2y a.length k).take p.1}=>[(5,slV (.i .i64 i.1.1)),(1,slV (.i .i64 (k+3*(i.1.1:Int))))]) nl' (fun i=>[(1,a9J,i.1.2.map f7.cells)]) (fun i=>a.length-i.1.1) (⟨(0,a),z0E⟩) ?_;intro S0 hS0 i;obtain⟨⟨i,L⟩,hi,hl,ht⟩:=i;simp only at hi hl ht;by_cases hil:(i:Int)<L.length
 ·have hgs:∀x,(L.set i x).getD i default=x:=fun x=>by rw[W5,q1C z0D];rfl
  have hss:∀x y,(L.set i x).set i y=L.set i y:=fun x y=>q3D ..
  have hw0:IntKind.i64.wrap (k+3*(i:Int)+1)=k+3*(i:Int)+1:=w64 z0D z0D z0D;have hw1:IntKind.i64.wrap (k+3*(i:Int)+1+1)=k+3*(i:Int)+2:=w64 z0D z0D z0D;have hw2:IntKind.i64.wrap (k+3*(i:Int)+2+1)=k+3*(i:Int)+3:=w64 z0D z0D z0D;simp only[go_sem,hS0,hgs,hss,hil,hw0,hw1,hw2];repeat' first|apply cj'|intro hc|exact om'|fail
  (refine lpK_n2 (⟨(i+1,L.set i (b6c (k+3*(i:Int)))),z0G,z1F,by rw[<-c2J a.length k (show i<a.length by omega)];exact z6 (by rw[hl,a3z]) ht (by rw[a3z];omega)⟩) _ rfl ?_;simp only[go_sem,hS0,hgs,hss,hil,hw0,hw1,hw2]<;>repeat' first|apply W6|exact on'|fail)
  ·exact(hc trivial).elim
 ·simp only[go_sem,hS0,hil];repeat' first|apply cj'|intro hc|exact om'|fail
  obtain rfl:i=a.length:=by omega
  obtain rfl:=w7 (by rw[hl,a3z]) ht (by rw[a3z];omega);exact⟨rfl,rfl⟩
def a6x:CT:=n9 (fun(x:(List f7)×Int) h=>b5E x.1 x.2 h)
@[go_sem] def d1G:=fun a k=>nm' (fP' a6x rfl (a,k))
def b5F(a:List c8)(k:Int)(hpre:0<=k/\k+(p8 a0q a:Nat)<=4611686018427387904):spZ 43 [(false,[b5v a]),(false,[.i .i64 k])] [(0,(false,[b5v (mkL a2x a0q a k)]))] (.one (false,[.i .i64 (k+(p8 a0q a:Nat))])):=by
 refine sx' true false (some 0) Tryz.func43 (q' 4 [aK 0] (.seq (q' 5 [aK 0] (fo 0 6 [aM [5,0],aN,ar 6 8] 9 1 (q' 12 [aM [0,5,1],ai 4 12 13,aF 0,aS 1 16 14] (q' 17 [aB 1] (q' 19 [aM [0,5,1],ac 73 [21],ai 4 19 20,aF 1,aF 0,aS 1 25 22] (q' 26 [aB 1] (q' 28 [aM [0,5],aI 4,aF 1,aG 1 31,am 1,ac 74 [33,34],aV 1] (g' 36 [aM [0,5],aI 4,aG 3 38,am 1,ac 75 [40,41],aV 1])))))) (g' 10 [aB 5]))) (q' 43 [am 1,aV 4] .ret))) [.t 4] [(73,[],a0J),(74,[0],a3a),(75,[0],a7O)] ?_;intro hb hE;simp only[go_sem];repeat' first|apply cj'|intro hc|exact om'|fail
 refine lq' true [0] [] [] (fun i:{p:Nat×List c8 // p.1<=a.length/\p.2=mkL a2x a0q (a.take p.1) k++a.drop p.1}=>[(5,slV (.i .i64 i.1.1)),(1,slV (.i .i64 (k+(p8 a0q (a.take i.1.1):Nat))))]) nl' (fun i=>[(1,c3l,i.1.2.map (c8.cells true true))]) (fun i=>a.length-i.1.1) (⟨(0,a),by simp[mkL]⟩) ?_;intro S0 hS0 i;obtain⟨⟨i,L⟩,hi,hL⟩:=i;simp only at hi hL;have hl:L.length=a.length:=by rw[hL];exact b9j a2x a0q a k i
 by_cases hil:(i:Int)<L.length
 ·have hgs:∀x,(L.set i x).getD i default=x:=fun x=>by rw[W5,q1C z0D];rfl
  have hss:∀x y,(L.set i x).set i y=L.set i y:=fun x y=>q3D ..
  have hg2:∀x,((L.map (c8.cells true true)).set i x).getD i c3l=x:=fun x=>by rw[W5,q1C z01];rfl
  have hs2:∀x z,((L.map (c8.cells true true)).set i x).set i z=(L.map (c8.cells true true)).set i z:=fun x z=>q3D ..
  have hg3:∀y x,(((L.set i y).map (c8.cells true true)).set i x).getD i c3l=x:=fun y x=>by rw[W5,q1C z2F];rfl
  have hs3:∀y x z,(((L.set i y).map (c8.cells true true)).set i x).set i z=((L.set i y).map (c8.cells true true)).set i z:=fun y x z=>q3D ..
  have hx:L.getD i default=a.getD i default:=by rw[hL];exact b9i a2x a0q default k (by omega)
  have ht:=s9 a0q default (show i<a.length by omega);have ht2:=a0m a0q a (i+1);simp only[a0q]at ht;have hw0:IntKind.i64.wrap ((k+(p8 a0q (a.take i):Nat))+1)=((k+(p8 a0q (a.take i):Nat))+1):=w64 z0D z0D z0D;have hw1:IntKind.i64.wrap (((k+(p8 a0q (a.take i):Nat))+1)+1)=((k+(p8 a0q (a.take i):Nat))+2):=w64 z0D z0D z0D;simp only[go_sem,hS0,hgs,hss,hx,hil,hg2,hs2,hg3,hs3,hw0,hw1];repeat' first|apply cj'|intro hc|exact om'|fail
  all_goals first
   | omega
   | (exact(hc trivial).elim)
   | ((refine lpK_n2 (⟨(i+1,L.set i (a2x (a.getD i default) (k+(p8 a0q (a.take i):Nat)))),z0G,by rw[hL];exact b9k a2x a0q default k z0D⟩) _ rfl ?_;simp only[go_sem,hS0,hgs,hss,hx,hil,hg2,hs2,hg3,hs3,hw0,hw1]<;>repeat' first|apply W6|exact on'|fail);first|done|(simp only[ht];omega))
   | trace_state
 ·simp only[go_sem,hS0,hil];repeat' first|apply cj'|intro hc|exact om'|fail
  have h1:=a1W a0q (show¬i<a.length by omega);rw[q1A z0D,q3W z0D,q0A]at hL;all_goals first|exact⟨by rw[h1],by rw[hL]⟩|trace_state
def a6y:CT:=n9 (fun(x:(List c8)×Int) h=>b5F x.1 x.2 h)
@[go_sem] def d1H:=fun a k=>nm' (fP' a6y rfl (a,k))
def b1Q(a:c4)(k:Int)(hpre:0<=k/\((k+3*(a.Decls.length:Nat))+(p8 a0q a.Rules:Nat))<=4611686018427387904):spZ 15 [(true,[b5w a.Decls,b5v a.Rules]),(false,[.i .i64 k])] [(0,(true,[b5w ((c4.mk (a2y a.Decls.length k) (mkL a2x a0q a.Rules (k+3*(a.Decls.length:Nat)))).Decls),b5v ((c4.mk (a2y a.Decls.length k) (mkL a2x a0q a.Rules (k+3*(a.Decls.length:Nat)))).Rules)]))] (.one (false,[.i .i64 ((k+3*(a.Decls.length:Nat))+(p8 a0q a.Rules:Nat))])):=by
 refine sx' true false (some 0) Tryz.func15 (q' 2 [aX 2 0,az 4 0] (q' 5 [aG 0 2,am 1,ac 42 [6,7],aV 1] (q' 9 [aG 1 2,am 1,ac 43 [10,11],aV 1] (q' 13 [am 1,aV 4] .ret)))) [.t 4] [(42,[0],a6x),(43,[0],a6y)] ?_;intro hb hE;simp only[go_sem];repeat' first|apply cj'|intro hc|exact om'|fail
 all_goals first|omega|trace_state
def a4N:CT:=n9 (fun(x:c4×Int) h=>b1Q x.1 x.2 h)
@[go_sem] def c8K:=fun x0 x1 k=>nm' (fP' a4N rfl (⟨x0,x1⟩,k))
def b8y(a:List c7)(k:Int)(hpre:0<=k/\k+(p8 a1z a:Nat)<=4611686018427387904):spZ 76 [(false,[b3x a]),(false,[.i .i64 k])] [(0,(false,[b3x (mkL a5e a1z a k)]))] (.one (false,[.i .i64 (k+(p8 a1z a:Nat))])):=by
 refine sx' true false (some 0) Tryz.func76 (q' 4 [aK 0] (.seq (q' 5 [aK 0] (fo 0 6 [aM [5,0],aN,ar 6 8] 9 1 (g' 12 [aM [0,5],aI 1,aG 0 14,am 1,ac 123 [16,17],aV 1]) (g' 10 [aB 5]))) (q' 19 [am 1,aV 4] .ret))) [.t 4] [(123,[0],a5y)] ?_;intro hb hE;simp only[go_sem];repeat' first|apply cj'|intro hc|exact om'|fail
 refine lq' true [0] [] [] (fun i:{p:Nat×List c7 // p.1<=a.length/\p.2=mkL a5e a1z (a.take p.1) k++a.drop p.1}=>[(5,slV (.i .i64 i.1.1)),(1,slV (.i .i64 (k+(p8 a1z (a.take i.1.1):Nat))))]) nl' (fun i=>[(1,b6T,i.1.2.map (c7.cells true true))]) (fun i=>a.length-i.1.1) (⟨(0,a),by simp[mkL]⟩) ?_;intro S0 hS0 i;obtain⟨⟨i,L⟩,hi,hL⟩:=i;simp only at hi hL;have hl:L.length=a.length:=by rw[hL];exact b9j a5e a1z a k i
 by_cases hil:(i:Int)<L.length
 ·have hgs:∀x,(L.set i x).getD i default=x:=fun x=>by rw[W5,q1C z0D];rfl
  have hss:∀x y,(L.set i x).set i y=L.set i y:=fun x y=>q3D ..
  have hg2:∀x,((L.map (c7.cells true true)).set i x).getD i b6T=x:=fun x=>by rw[W5,q1C z01];rfl
  have hs2:∀x z,((L.map (c7.cells true true)).set i x).set i z=(L.map (c7.cells true true)).set i z:=fun x z=>q3D ..
  have hg3:∀y x,(((L.set i y).map (c7.cells true true)).set i x).getD i b6T=x:=fun y x=>by rw[W5,q1C z2F];rfl
  have hs3:∀y x z,(((L.set i y).map (c7.cells true true)).set i x).set i z=((L.set i y).map (c7.cells true true)).set i z:=fun y x z=>q3D ..
  have hx:L.getD i default=a.getD i default:=by rw[hL];exact b9i a5e a1z default k (by omega)
  have ht:=s9 a1z default (show i<a.length by omega);have ht2:=a0m a1z a (i+1);simp only[a1z]at ht;simp only[go_sem,hS0,hgs,hss,hx,hil,hg2,hs2,hg3,hs3];repeat' first|apply cj'|intro hc|exact om'|fail
  all_goals first
   | omega
   | (exact(hc trivial).elim)
   | ((refine lpK_n2 (⟨(i+1,L.set i (a5e (a.getD i default) (k+(p8 a1z (a.take i):Nat)))),z0G,by rw[hL];exact b9k a5e a1z default k z0D⟩) _ rfl ?_;simp only[go_sem,hS0,hgs,hss,hx,hil,hg2,hs2,hg3,hs3]<;>repeat' first|apply W6|exact on'|fail);first|done|(simp only[ht];omega))
   | trace_state
 ·simp only[go_sem,hS0,hil];repeat' first|apply cj'|intro hc|exact om'|fail
  have h1:=a1W a1z (show¬i<a.length by omega);rw[q1A z0D,q3W z0D,q0A]at hL;all_goals first|exact⟨by rw[h1],by rw[hL]⟩|trace_state
def a7P:CT:=n9 (fun(x:(List c7)×Int) h=>b8y x.1 x.2 h)
@[go_sem] def d3n:=fun a k=>nm' (fP' a7P rfl (a,k))
def b3K(a:List c9)(k:Int)(hpre:0<=k/\k+(p8 a0a a:Nat)<=4611686018427387904):spZ 44 [(false,[a9Q a]),(false,[.i .i64 k])] [(0,(false,[a9Q (mkL a2o a0a a k)]))] (.one (false,[.i .i64 (k+(p8 a0a a:Nat))])):=by
 refine sx' true false (some 0) Tryz.func44 (q' 4 [aK 0] (.seq (q' 5 [aK 0] (fo 0 6 [aM [5,0],aN,ar 6 8] 9 1 (q' 12 [aM [0,5,1],ac 73 [14],ai 3 12 13,aF 0,aS 1 17 15] (q' 18 [aB 1] (q' 20 [aM [0,5,1],ai 3 20 21,aF 1,aF 0,aS 1 25 22] (q' 26 [aB 1] (g' 28 [aM [0,5],aI 3,aF 1,aG 1 31,am 1,ac 76 [33,34],aV 1]))))) (g' 10 [aB 5]))) (q' 36 [am 1,aV 4] .ret))) [.t 4] [(73,[],a0J),(76,[0],a7P)] ?_;intro hb hE;simp only[go_sem];repeat' first|apply cj'|intro hc|exact om'|fail
 refine lq' true [0] [] [] (fun i:{p:Nat×List c9 // p.1<=a.length/\p.2=mkL a2o a0a (a.take p.1) k++a.drop p.1}=>[(5,slV (.i .i64 i.1.1)),(1,slV (.i .i64 (k+(p8 a0a (a.take i.1.1):Nat))))]) nl' (fun i=>[(1,b4l,i.1.2.map (c9.cells true true))]) (fun i=>a.length-i.1.1) (⟨(0,a),by simp[mkL]⟩) ?_;intro S0 hS0 i;obtain⟨⟨i,L⟩,hi,hL⟩:=i;simp only at hi hL;have hl:L.length=a.length:=by rw[hL];exact b9j a2o a0a a k i
 by_cases hil:(i:Int)<L.length
 ·have hgs:∀x,(L.set i x).getD i default=x:=fun x=>by rw[W5,q1C z0D];rfl
  have hss:∀x y,(L.set i x).set i y=L.set i y:=fun x y=>q3D ..
  have hg2:∀x,((L.map (c9.cells true true)).set i x).getD i b4l=x:=fun x=>by rw[W5,q1C z01];rfl
  have hs2:∀x z,((L.map (c9.cells true true)).set i x).set i z=(L.map (c9.cells true true)).set i z:=fun x z=>q3D ..
  have hg3:∀y x,(((L.set i y).map (c9.cells true true)).set i x).getD i b4l=x:=fun y x=>by rw[W5,q1C z2F];rfl
  have hs3:∀y x z,(((L.set i y).map (c9.cells true true)).set i x).set i z=((L.set i y).map (c9.cells true true)).set i z:=fun y x z=>q3D ..
  have hx:L.getD i default=a.getD i default:=by rw[hL];exact b9i a2o a0a default k (by omega)
  have ht:=s9 a0a default (show i<a.length by omega);have ht2:=a0m a0a a (i+1);simp only[a0a]at ht;have hw0:IntKind.i64.wrap ((k+(p8 a0a (a.take i):Nat))+1)=((k+(p8 a0a (a.take i):Nat))+1):=w64 z0D z0D z0D;have hw1:IntKind.i64.wrap (((k+(p8 a0a (a.take i):Nat))+1)+1)=((k+(p8 a0a (a.take i):Nat))+2):=w64 z0D z0D z0D;simp only[go_sem,hS0,hgs,hss,hx,hil,hg2,hs2,hg3,hs3,hw0,hw1];repeat' first|apply cj'|intro hc|exact om'|fail
  all_goals first
   | omega
   | (exact(hc trivial).elim)
   | ((refine lpK_n2 (⟨(i+1,L.set i (a2o (a.getD i default) (k+(p8 a0a (a.take i):Nat)))),z0G,by rw[hL];exact b9k a2o a0a default k z0D⟩) _ rfl ?_;simp only[go_sem,hS0,hgs,hss,hx,hil,hg2,hs2,hg3,hs3,hw0,hw1]<;>repeat' first|apply W6|exact on'|fail);first|done|(simp only[ht];omega))
   | trace_state
 ·simp only[go_sem,hS0,hil];repeat' first|apply cj'|intro hc|exact om'|fail
  have h1:=a1W a0a (show¬i<a.length by omega);rw[q1A z0D,q3W z0D,q0A]at hL;all_goals first|exact⟨by rw[h1],by rw[hL]⟩|trace_state
def a5x:CT:=n9 (fun(x:(List c9)×Int) h=>b3K x.1 x.2 h)
@[go_sem] def c9F:=fun a k=>nm' (fP' a5x rfl (a,k))
def b5G(a:c6)(k:Int)(hpre:0<=k/\(k+(p8 a0a a.Rels:Nat))<=4611686018427387904):spZ 16 [(true,[a9Q a.Rels]),(false,[.i .i64 k])] [(0,(true,[a9Q ((c6.mk (mkL a2o a0a a.Rels k)).Rels)]))] (.one (false,[.i .i64 (k+(p8 a0a a.Rels:Nat))])):=by
 refine sx' true false (some 0) Tryz.func16 (q' 2 [aX 1 0,az 4 0] (q' 5 [aG 0 2,am 1,ac 44 [6,7],aV 1] (q' 9 [am 1,aV 4] .ret))) [.t 4] [(44,[0],a5x)] ?_;intro hb hE;simp only[go_sem];repeat' first|apply cj'|intro hc|exact om'|fail
 all_goals first|omega|trace_state
def a6z:CT:=n9 (fun(x:c6×Int) h=>b5G x.1 x.2 h)
@[go_sem] def d1I:=fun x0 k=>nm' (fP' a6z rfl (⟨x0⟩,k))
def c2I(k:Int):Int:=k
def a6U(n:Nat)(k:Int):List Int:=(List.range n).map fun i:Nat=>c2I (k+1*(i:Int))
def a4t(n:Nat)(k:Int):(a6U n k).length=n:=by simp[a6U]
def c5n(n:Nat)(k:Int)(h:i<n):(a6U n k).getD i 0=c2I (k+1*(i:Int)):=by
 rw[W5,a6U,q3G,q4O h];rfl
def a6T(k:Int):i3:=(i3.mk k (k+1) (k+2))
def a5f(n:Nat)(k:Int):List i3:=(List.range n).map fun i:Nat=>a6T (k+3*(i:Int))
def a2a(n:Nat)(k:Int):(a5f n k).length=n:=by simp[a5f]
def b1e(n:Nat)(k:Int)(h:i<n):(a5f n k).getD i default=a6T (k+3*(i:Int)):=by
 rw[W5,a5f,q3G,q4O h];rfl
def b8w(a:List Int)(k:Int)(hpre:0<=k/\k+1*(a.length:Nat)<=4611686018427387904):spZ 17 [(false,[d6j a]),(false,[.i .i64 k])] [(0,(false,[d6j (a6U a.length k)]))] (.one (false,[.i .i64 (k+1*(a.length:Nat))])):=by
 refine sx' true false (some 0) Tryz.func17 (q' 4 [aK 0] (.seq (q' 5 [aK 0] (fo 0 6 [aM [5,0],aN,ar 6 8] 9 1 (q' 12 [aM [0,5,1],ai 1 12 13,aS 1 15 14] (g' 16 [aB 1])) (g' 10 [aB 5]))) (q' 18 [am 1,aV 4] .ret))) [.t 4] [] ?_;intro hb hE;simp only[go_sem];repeat' first|apply cj'|intro hc|exact om'|fail
 refine lq' true [0] [] [] (fun i:{p:Nat×(List Int) // p.1<=a.length/\p.2.length=a.length/\p.2.take p.1=(a6U a.length k).take p.1}=>[(5,slV (.i .i64 i.1.1)),(1,slV (.i .i64 (k+1*(i.1.1:Int))))]) nl' (fun i=>[(1,[.i .i64 0],i.1.2.map a0F)]) (fun i=>a.length-i.1.1) (⟨(0,a),z0E⟩) ?_;intro S0 hS0 i;obtain⟨⟨i,L⟩,hi,hl,ht⟩:=i;simp only at hi hl ht;by_cases hil:(i:Int)<L.length
 ·have hgs:∀x,(L.set i x).getD i 0=x:=fun x=>by rw[W5,q1C z0D];rfl
  have hss:∀x y,(L.set i x).set i y=L.set i y:=fun x y=>q3D ..
  have hw0:IntKind.i64.wrap (k+1*(i:Int)+1)=k+1*(i:Int)+1:=w64 z0D z0D z0D;simp only[go_sem,hS0,hgs,hss,hil,hw0];repeat' first|apply cj'|intro hc|exact om'|fail
  (refine lpK_n2 (⟨(i+1,L.set i (c2I (k+1*(i:Int)))),z0G,z1F,by rw[<-c5n a.length k (show i<a.length by omega)];exact z6 (by rw[hl,a4t]) ht (by rw[a4t];omega)⟩) _ rfl ?_;simp only[go_sem,hS0,hgs,hss,hil,hw0]<;>repeat' first|apply W6|exact on'|fail)
  ·exact(hc trivial).elim
 ·simp only[go_sem,hS0,hil];repeat' first|apply cj'|intro hc|exact om'|fail
  obtain rfl:i=a.length:=by omega
  obtain rfl:=w7 (by rw[hl,a4t]) ht (by rw[a4t];omega);exact⟨rfl,rfl⟩
def a7N:CT:=n9 (fun(x:(List Int)×Int) h=>b8w x.1 x.2 h)
@[go_sem] def d3l:=fun a k=>nm' (fP' a7N rfl (a,k))
def b8v(a:List i3)(k:Int)(hpre:0<=k/\k+3*(a.length:Nat)<=4611686018427387904):spZ 18 [(false,[d6h a]),(false,[.i .i64 k])] [(0,(false,[d6h (a5f a.length k)]))] (.one (false,[.i .i64 (k+3*(a.length:Nat))])):=by
 refine sx' true false (some 0) Tryz.func18 (q' 4 [aK 0] (.seq (q' 5 [aK 0] (fo 0 6 [aM [5,0],aN,ar 6 8] 9 1 (q' 12 [aM [0,5,1],ai 3 12 13,aF 0,aS 1 16 14] (q' 17 [aB 1] (q' 19 [aM [0,5,1],ai 3 19 20,aF 1,aS 1 23 21] (q' 24 [aB 1] (q' 26 [aM [0,5,1],ai 3 26 27,aF 2,aS 1 30 28] (g' 31 [aB 1])))))) (g' 10 [aB 5]))) (q' 33 [am 1,aV 4] .ret))) [.t 4] [] ?_;intro hb hE;simp only[go_sem];repeat' first|apply cj'|intro hc|exact om'|fail
 refine lq' true [0] [] [] (fun i:{p:Nat×(List i3) // p.1<=a.length/\p.2.length=a.length/\p.2.take p.1=(a5f a.length k).take p.1}=>[(5,slV (.i .i64 i.1.1)),(1,slV (.i .i64 (k+3*(i.1.1:Int))))]) nl' (fun i=>[(1,a3Q,i.1.2.map i3.cells)]) (fun i=>a.length-i.1.1) (⟨(0,a),z0E⟩) ?_;intro S0 hS0 i;obtain⟨⟨i,L⟩,hi,hl,ht⟩:=i;simp only at hi hl ht;by_cases hil:(i:Int)<L.length
 ·have hgs:∀x,(L.set i x).getD i default=x:=fun x=>by rw[W5,q1C z0D];rfl
  have hss:∀x y,(L.set i x).set i y=L.set i y:=fun x y=>q3D ..
  have hw0:IntKind.i64.wrap (k+3*(i:Int)+1)=k+3*(i:Int)+1:=w64 z0D z0D z0D;have hw1:IntKind.i64.wrap (k+3*(i:Int)+1+1)=k+3*(i:Int)+2:=w64 z0D z0D z0D;have hw2:IntKind.i64.wrap (k+3*(i:Int)+2+1)=k+3*(i:Int)+3:=w64 z0D z0D z0D;simp only[go_sem,hS0,hgs,hss,hil,hw0,hw1,hw2];repeat' first|apply cj'|intro hc|exact om'|fail
  (refine lpK_n2 (⟨(i+1,L.set i (a6T (k+3*(i:Int)))),z0G,z1F,by rw[<-b1e a.length k (show i<a.length by omega)];exact z6 (by rw[hl,a2a]) ht (by rw[a2a];omega)⟩) _ rfl ?_;simp only[go_sem,hS0,hgs,hss,hil,hw0,hw1,hw2]<;>repeat' first|apply W6|exact on'|fail)
  ·exact(hc trivial).elim
 ·simp only[go_sem,hS0,hil];repeat' first|apply cj'|intro hc|exact om'|fail
  obtain rfl:i=a.length:=by omega
  obtain rfl:=w7 (by rw[hl,a2a]) ht (by rw[a2a];omega);exact⟨rfl,rfl⟩
def a7M:CT:=n9 (fun(x:(List i3)×Int) h=>b8v x.1 x.2 h)
@[go_sem] def d3k:=fun a k=>nm' (fP' a7M rfl (a,k))
def b8u(a:List i3)(k:Int)(hpre:(0<=k/\k+3*(a.length:Nat)<=4611686018427387904)/\a=a5f a.length k):spZ 19 [(false,[d0q a]),(false,[.i .i64 k])] [] (.one (false,[.i .i64 (k+3*(a.length:Nat))])):=by
 refine sy' Tryz.func19 (q' 4 [aK 0] (.seq (q' 5 [aK 0] (fo 0 6 [aM [5,0],aN,ar 6 8] 9 1 (.seq (q' 12 [aM [0,5],aI 3,aG 0 14,am 1,aD .neq 16 17] (ci 18 (q' 4 [ao (.mov (.k (.v false [.c (.i .i64 (-1))])))] .ret))) (q' 19 [aB 1] (.seq (q' 21 [aM [0,5],aI 3,aG 1 23,am 1,aD .neq 25 26] (ci 27 (q' 4 [ao (.mov (.k (.v false [.c (.i .i64 (-1))])))] .ret))) (q' 28 [aB 1] (.seq (q' 30 [aM [0,5],aI 3,aG 2 32,am 1,aD .neq 34 35] (ci 36 (q' 4 [ao (.mov (.k (.v false [.c (.i .i64 (-1))])))] .ret))) (g' 37 [aB 1])))))) (g' 10 [aB 5]))) (q' 39 [am 1,aV 4] .ret))) [.t 4] [] ?_;intro hb hE;simp only[go_sem];repeat' first|apply cj'|intro hc|exact om'|fail
 refine lq' false [0] [] [] (fun i:{i:Nat // i<=a.length}=>[(5,slV (.i .i64 i.1)),(1,slV (.i .i64 (k+3*(i.1:Int))))]) nl' nl' (fun i=>a.length-i.1) (⟨0,z0D⟩) ?_;intro S0 hS0 i;obtain⟨i,hi⟩:=i;by_cases hil:(i:Int)<a.length
 ·have hx:a.getD i default=a6T (k+3*(i:Int)):=by rw[hpre.2];exact b1e _ _ (by omega)
  have hw0:IntKind.i64.wrap (k+3*(i:Int)+1)=k+3*(i:Int)+1:=w64 z0D z0D z0D;have hw1:IntKind.i64.wrap (k+3*(i:Int)+1+1)=k+3*(i:Int)+2:=w64 z0D z0D z0D;have hw2:IntKind.i64.wrap (k+3*(i:Int)+2+1)=k+3*(i:Int)+3:=w64 z0D z0D z0D;simp only[go_sem,hS0,hil,hx,a6T,hw0,hw1,hw2];repeat' first|apply cj'|intro hc|exact om'|fail
  all_goals first
   | (exfalso;simp at hc;done)
   | ((refine lpK_n2 (⟨i+1,z0D⟩) _ rfl ?_;simp only[go_sem,hS0,hil,hx,a6T,hw0,hw1,hw2]<;>repeat' first|apply W6|exact on'|fail);done)
   | trace_state
 ·simp only[go_sem,hS0,hil];repeat' first|apply cj'|intro hc|exact om'|fail
  all_goals(obtain rfl:i=a.length:=by omega)
  all_goals rfl
def a7L:CT:=n9 (fun(x:(List i3)×Int) h=>b8u x.1 x.2 h)
@[go_sem] def d3j:=fun a k=>nm' (fP' a7L rfl (a,k))
def d8B(x:e8):z8 x<=12+12*a1U x:=by simp only[z8,a1U,a5H];omega
def d3P(l:List c8):p8 a0q l<=12*(l.length+p8 a1b l):=b4g a0q a1b 12 (fun x=>by
 have:=b4g z8 a1U 12 d8B x.Body;simp only[a0q,a1b,a5H];omega) l
def d8C(l:List c7):p8 a1z l<=2*(l.length+p8 a1V l):=b4g a1z a1V 2 (fun x=>by simp only[a1z,a1V];omega) l
def c9O(l:List c9):p8 a0a l<=2*(l.length+p8 a0D l):=b4g a0a a0D 2 (fun x=>by
 have:=d8C x.Rel.Rows;simp only[a0a,a0D,b6l];omega) l
def e0H(p:c4)(s:c6)(sw:Int)(ports:List Int)(inn src dst:Int):(c3X p s sw ports inn src dst).1.length<=7201:=by
 rw[c3X];cases h:(a0x p s&&a4n sw inn src dst)&&a5j ports with
 | false=>exact q2D _
 | true=>
   rw[W8];rw[W3,W3]at h;cases(w6 p s).2==0 with
   | false=>exact q2D _
   | true=>
     rw[W8,a4d];have h1:=c1k (a2l h.1.1).1 (b3W h.1.1 h.1.2);cases(a1s p (z7 (w6 p s).1 (a8r sw inn src dst))).2 with
     | false=>exact q2D _
     | true=>
       rw[W8];cases(a2t p s (z7 (w6 p s).1 (a8r sw inn src dst))).2==0 with
       | false=>exact q2D _
       | true=>
         rw[W8];show(b2z _ _ _ _).length<=7201;have h2:=q1F (fun t=>ports.contains t&&t != ((a8r sw inn src dst).Row.V.getD 1 default).N) (a1s p (z7 (w6 p s).1 (a8r sw inn src dst))).1;rw[b2z,V6,q0C];cases decide (0<(a2t p s (z7 (w6 p s).1 (a8r sw inn src dst))).1.Changes.length)
         ·rw[V2,q1R];omega
         ·rw[W8,List.length_singleton];omega
set_option maxHeartbeats 40000000
attribute [local irreducible] RM
def a2c(p:c4)(s:c6)(sw:Int)(ports:List Int)(inn:Int)(src:Int)(dst:Int):spZ 3 [(true,[p6 p.Decls,o9 p.Rules]),(true,[j7 s.Rels]),(false,[.i .i64 sw]),(false,[a4h ports]),(false,[.i .i64 inn]),(false,[.i .i64 src]),(false,[.i .i64 dst])] [] (.one (false,[.b true])):=by
 refine sx' true false none Tryz.func3 (q' 7 [aX 2 0,aX 1 1,ab 14 false] (.seq (q' 28 [am 3,aN,aC .gtr 29 1048576] (ci 30 (q' 14 [aU true] .ret))) (q' 15 [aK 1048576] (q' 31 [ae 2 7,am 15,ac 4 [31,32],aV 15] (.seq (q' 34 [am 15,aC .lss 34 0] (ci 35 (q' 14 [aU true] .ret))) (q' 36 [ae 1 8,am 15,ac 5 [36,37],aV 15] (.seq (q' 39 [am 15,aC .lss 39 0] (ci 40 (q' 14 [aU true] .ret))) (.seq (rm' [(true,0,e' 42 2 7),(true,2,e' 44 1 8),(true,4,m' 46 2),(true,5,m' 47 3),(true,7,m' 49 4),(true,8, m' 50 5),(true,9,m' 51 6),(false,1,c' 43 7 [42]),(false,3,c' 45 8 [44]),(false,6,c' 48 9 [47]),(false,10,c' 52 6 [43,45,46,48,49,50,51]), (false,11,m' 41 52),(false,12,o' 53 (.ext (.t 41) 0)),(false,13,o' 54 (.ext (.t 41) 1)),(false,14,m' 16 53),(false,15,m' 17 54)] [[0,1,2,3, 4,5,6,7,8,9,10,11,12,14,13,15],[0,1,2,3,4,5,6,7,8,9,10,11,13,12,14,15]] [14,15,16,17]) (q' 55 [ae 2 7,ac 7 [55],ax (w' 18 [.sl a9J,.sl c3k]),aS 2 18 56] (q' 57 [ae 1 8,ac 8 [57],ax (w' 19 [.sl o0]),aS 1 19 58] (q' 59 [am 3,ac 9 [59],aV 20] (q' 62 [ae 2 18,ae 1 19,aM [2,20,4,5,6],ac 10 [62,63,64,65,66,67,68],aV 61,aZ 61 0,aZ 61 1,av 21 70,aV 22] (.seq (q' 72 [aM [21,16],ac 11 [72,73],aO 74,am 75,aH 76 false [bm 22,bm 17,bD .neq 77 78],aQ 76 79] (ci 80 (q' 14 [aU false] .ret))) (.seq (.seq (G' 81 [ae 2 18,ae 2 7,ac 7 [82],ac 12 [81,83],aO 84]) (ci 85 (q' 14 [aU false] .ret))) (.seq (.seq (G' 86 [ae 1 19,ae 1 8,ac 8 [87],ac 13 [86,88],aO 89]) (ci 90 (q' 14 [aU false] .ret))) (.seq (q' 91 [aM [20,3],ac 9 [92],ac 14 [91,93],aO 94] (ci 95 (q' 14 [aU false] .ret))) (q' 23 [aK 1] (q' 96 [ae 2 18,am 23,ac 15 [96,97],aV 23] (q' 99 [ae 1 19,am 23,ac 16 [99,100],aV 23] (q' 102 [aM [20,23],ac 17 [102,103],aV 23] (.seq (q' 105 [am 23,aC .lss 105 0,am 106,aH 107 false [bm 21,bm 16,bc 11 [108,109],bO 110],aQ 107 111,am 112,aH 113 false [bm 22,bm 17,bD .neq 114 115],aQ 113 116] (ci 117 (q' 14 [aU false] .ret))) (q' 24 [aK 1] (q' 118 [aM [21,24],ac 18 [118,119],aV 24] (q' 25 [aK 1] (q' 121 [aM [21,25],ac 19 [121,122],aV 25] (.seq (q' 124 [am 25,aC .lss 124 0] (ci 125 (q' 14 [aU false] .ret))) (.seq (q' 126 [aM [25,24],aD .neq 126 127] (ci 128 (q' 14 [aU false] .ret))) (.seq (rm' [(true,0,e' 130 2 7),(true,2,e' 132 1 8),(true,4,m' 134 2),(true,5,m' 135 3),(true,7,m' 137 4),(true,8,m' 138 5),(true,9,m' 139 6),(false,1,c' 131 7 [130]),(false,3,c' 133 8 [132]),(false,6,c' 136 9 [135]),(false,10,c' 140 10 [131,133,134,136,137,138,139]),(false,11,m' 129 140),(false,12,o' 141 (.ext (.t 129) 0)),(false,13,o' 142 (.ext (.t 129) 1)),(false,14,m' 26 141),(false,15,m' 27 142)] [[0,1,2,3,4,5,6,7,8,9,10,11,12,14,13,15],[0, 1,2,3,4,5,6,7,8,9,10,11,13,12,14,15]] [14,15,16,17]) (.seq (q' 143 [aM [26,16],ac 11 [143,144],aO 145,am 146,aH 147 false [bm 27,bm 17,bD .neq 148 149],aQ 147 150] (ci 151 (q' 14 [aU false] .ret))) (q' 25 [aK 1] (q' 152 [aM [21,25],ac 19 [152,153],aV 25] (.seq (q' 155 [am 25,aC .lss 155 0] (ci 156 (q' 14 [aU false] .ret))) (.seq (q' 157 [aM [25,24],aD .neq 157 158] (ci 159 (q' 14 [aU false] .ret))) (q' 14 [aU true] .ret)))))))))))))))))))))))))))))))))) [.t 14] [(4,[],a6A),(5,[],a9e),(7,[],a6B),(8,[],a9j),(9,[],b0N),(6,[],a4Q),(10,[],a4G),(11,[],b0C),(12,[],a6w),(13,[],a8Z),(14,[],b0E),(15,[0],a4N),(16,[0],a6z),(17,[0],a7N),(18,[0],a7M),(19,[],a7L)] ?_;intro hb hE;simp only[go_sem];(repeat' first|apply cj'|intro hc|apply a0o);(all_goals(try((first|refine a0V 7 rfl ?_);intro S hS B0 hB;simp only[go_sem,z0B]at hS hB;(repeat(first|replace hS:=And.right hS|replace hS:=CJ.r hS));have Rr42:=congrArg (fun s:St=>s.sl 42) hS;have Rr44:=congrArg (fun s:St=>s.sl 44) hS;have Rr46:=congrArg (fun s:St=>s.sl 46) hS;have Rr47:=congrArg (fun s:St=>s.sl 47) hS;have Rr49:=congrArg (fun s:St=>s.sl 49) hS;have Rr50:=congrArg (fun s:St=>s.sl 50) hS;have Rr51:=congrArg (fun s:St=>s.sl 51) hS;have Rr130:=congrArg (fun s:St=>s.sl 130) hS;have Rr132:=congrArg (fun s:St=>s.sl 132) hS;have Rr134:=congrArg (fun s:St=>s.sl 134) hS;have Rr135:=congrArg (fun s:St=>s.sl 135) hS;have Rr137:=congrArg (fun s:St=>s.sl 137) hS;have Rr138:=congrArg (fun s:St=>s.sl 138) hS;have Rr139:=congrArg (fun s:St=>s.sl 139) hS;have Rb14:=congrArg (fun s:St=>s.bx 14) hS;have Rb15:=congrArg (fun s:St=>s.bx 15) hS;have Rb16:=congrArg (fun s:St=>s.bx 16) hS;have Rb17:=congrArg (fun s:St=>s.bx 17) hS;clear hS;simp only[go_sem]at Rr42 Rr44 Rr46 Rr47 Rr49 Rr50 Rr51 Rr130 Rr132 Rr134 Rr135 Rr137 Rr138 Rr139 Rb14 Rb15 Rb16 Rb17;(try clear hc);intro K hc;simp only[go_sem,Rr42,Rr44,Rr46,Rr47,Rr49,Rr50,Rr51,Rr130,Rr132,Rr134,Rr135,Rr137,Rr138,Rr139,Rb14,Rb15,Rb16,Rb17,hB,K6]at hc ⊢;simp only[go_sem,Rr42,Rr44,Rr46,Rr47,Rr49,Rr50,Rr51,Rr130,Rr132,Rr134,Rr135,Rr137,Rr138,Rr139,Rb14,Rb15,Rb16,Rb17,hB,K0,a7v,a5i,a7u,a9G,a6j,a9F,a6i]at hc ⊢;simp only[d2a]at hc ⊢;(first|(simp only[hc,K5];done)|((repeat' first|exact hc|apply W6);done)))));all_goals try exact om'
 all_goals have h6:=e0H p s sw ports inn src dst
 all_goals have h7:=d3P p.Rules
 all_goals have h8:=c9O s.Rels
 all_goals(try rw[a2a]at hc)
 all_goals(try rw[a2a])
 all_goals first
  | exact(hc trivial).elim
  | exact⟨z0D,rfl⟩
  | (exfalso;simp at hc;done)
  | (exfalso;rcases hc with h|h;· omega
     exact h trivial)
  | (exfalso;rcases hc with(h|h)|h;· omega
     ·exact h trivial
     ·simp at h)
  | (exfalso;simp at hc;omega)
  | (simp only[szR,a3n,a7a]at*;omega)
  | (simp only[szR,a3n,a7a]at*;refine⟨z0D,rfl⟩)
  | trace_state
def a5l:CT:=l4 (fun(x:c4×c6×Int×(List Int)×Int×Int×Int)=>a2c x.1 x.2.1 x.2.2.1 x.2.2.2.1 x.2.2.2.2.1 x.2.2.2.2.2.1 x.2.2.2.2.2.2)
@[go_sem] def b8b:=fun x0 x1 x2 sw x3 x4 x5 x6=>nm' (fQ' a5l rfl (⟨x0,x1⟩,⟨x2⟩,sw,x3,x4,x5,x6))
end
end Go.Aw
