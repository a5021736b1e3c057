/- Programs: sizes, copies, equalities. No condition. -/
import Derived.Test.YtmcaephohoicnaaGreatveB2
import Derived.Test.YtmcaephohoicnaaGreatpMx2ve
namespace Go.Aw
noncomputable section
open Go.Proofs
attribute [local irreducible] aft blk lpK retK AW A0c
set_option linter.all false
set_option maxRecDepth 100000
@[go_sem] def zc' (n:Nat):ACode:=q' n [am 1,ao (.bin .lss (.t n) (k' 0))] (.cond (.t (n+1)) (q' 4 [ao (.mov (.k (.v false [.c (.i .i64 (-1))])))] .ret) .skip)
def a4S (x:f9):Nat:=x.Name.length+(x.Args.length+m7 a1D x.Args)
def a1v (x:e7):Nat:=a4S x.Atom+a1D x.A+a1D x.B
def a0J (x:c6):Nat:=a4S x.Head+(x.Body.length+m7 a1v x.Body)
def a2r (x:f5):Nat:=x.Name.length
def a2M (x:c4):Nat:=(x.Decls.length+m7 a2r x.Decls)+(x.Rules.length+m7 a0J x.Rules)
def c2w (a:f9) (left:Int) (hpre:0<=left/\left<=1048576):spZ 37 [(true,[.s a.Name,l5 a.Args]),(false,[.i .i64 left])] [] (.one (false,[.i .i64 (szR left (a4S a:Nat))])):=by
 refine sy' Tryz.func37 (q' 2 [ao (.box 2 (.t 0)),az 4 0] (q' 5 [am 1,aG 0 2,ao (.lens (.t 7)),ao (.bin .sub (.t 5) (.t 8)),aV 1] (.seq (zc' 10) (q' 12 [aG 1 2,am 1,ac 83 [13,14],aV 1] (.seq (zc' 16) (q' 18 [am 1,aV 4] .ret)))))) [.t 4] [(83,[],a8h)] ?_;intro hb hE;simp only [go_sem];repeat' first|apply cj'|intro hc|exact om'|fail
 all_goals ((repeat (simp (disch:=omega) only [a0C] at *))<;>(try simp only [szR,a4S] at *)<;>(first|omega|(split<;>omega)))
def a5j:CT:=l8 (fun (x:f9×Int) h=>c2w x.1 x.2 h)
@[go_sem] def d4r:=fun x0 x1 x2=>nm' (fP' a5j rfl (⟨x0,x1⟩,x2))
def c5x (a:e7) (left:Int) (hpre:0<=left/\left<=1048576):spZ 84 [(true,[.i .i64 a.Kind,.s a.Atom.Name,l5 a.Atom.Args,.i .i64 a.Op,.s a.A.Var,.i .i64 a.A.Val.N,.s a.A.Val.S,.s a.B.Var,.i .i64 a.B.Val.N,.s a.B.Val.S]),(false,[.i .i64 left])] [] (.one (false,[.i .i64 (szR left (a1v a:Nat))])):=by
 refine sy' Tryz.func84 (q' 2 [ao (.box 10 (.t 0)),az 4 0] (q' 5 [af 1 2,aE 2,am 1,ac 37 [6,7],aV 1] (.seq (zc' 9) (q' 11 [af 4 2,aE 3,am 1,ac 145 [12,13],aV 1] (.seq (zc' 15) (q' 17 [af 7 2,aE 3,am 1,ac 145 [18,19],aV 1] (.seq (zc' 21) (q' 23 [am 1,aV 4] .ret)))))))) [.t 4] [(37,[],a5j),(145,[],a5k)] ?_;intro hb hE;simp only [go_sem];repeat' first|apply cj'|intro hc|exact om'|fail
 all_goals ((repeat (simp (disch:=omega) only [a0C] at *))<;>(try simp only [szR,a1v] at *)<;>(first|omega|(split<;>omega)))
def b1D:CT:=l8 (fun (x:e7×Int) h=>c5x x.1 x.2 h)
@[go_sem] def d6h:=fun x0 x1 x2 x3 x4 x5 x6 x7 x8 x9 x10=>nm' (fP' b1D rfl (⟨x0,⟨x1,x2⟩,x3,⟨x4,⟨x5,x6⟩⟩,⟨x7,⟨x8,x9⟩⟩⟩,x10))
def c2y (a:List e7) (left:Int) (hpre:0<=left/\left<=1048576):spZ 38 [(false,[a0d a]),(false,[.i .i64 left])] [] (.one (false,[.i .i64 (szR left ((a.length+m7 a1v a):Nat))])):=by
 refine sy' Tryz.func38 (q' 4 [aK 0] (q' 6 [aM [1,0],aN,ao (.bin .sub (.t 6) (.t 8)),aV 1] (.seq (zc' 10) (.seq (q' 5 [aK 0] (.block 0 (.loop (.seq (q' 12 [aM [5,0],aN,ar 12 14] (.cond (.t 15) .skip (.exit 0))) (.seq (.block 1 (q' 18 [aM [0,5],aI 10,aE 10,am 1,ac 84 [21,22],aV 1] (zc' 24))) (g' 16 [aB 5])))))) (q' 26 [am 1,aV 4] .ret))))) [.t 4] [(84,[],b1D)] ?_;intro hb hE;simp only [go_sem];repeat' first|apply cj'|intro hc|exact om'|fail
 ·all_goals ((repeat (simp (disch:=omega) only [a0C] at *))<;>(try simp only [szR,szR] at *)<;>(first|omega|(split<;>omega)))
 have hw:=a0C (l:=left) (n:=a.length) (by omega) (by omega) (by omega) (by omega);rw [hw] at hc;refine lq' false [0] [] [] (fun i:{i:Nat // i<=a.length/\(a.length:Int)+(m7 a1v (a.take i):Nat)<=left}=>[(5,slV (.i .i64 i.1)),(1,slV (.i .i64 (left - a.length - (m7 a1v (a.take i.1):Nat))))]) nl' nl' (fun i=>a.length - i.1) (⟨0,by simp only [q0T,a3n];omega⟩) ?_;intro S0 hS0 i;obtain ⟨i,hi,ht⟩:=i;simp only [go_sem,hw,hS0];repeat' first|apply cj'|intro hc|exact om'|fail
 ·have h1:=m9 a1v (default:e7) (show i < a.length by omega);have h2:=z7 a1v a (i+1);all_goals ((repeat (simp (disch:=omega) only [a0C] at *))<;>(try simp only [szR,szR] at *)<;>(first|omega|(split<;>omega)))
 ·have h1:=m9 a1v (default:e7) (show i < a.length by omega)
  (refine lpK_n2 (⟨i+1,by omega,by unfold szR at hc;split at hc<;>omega⟩) _ rfl ?_;simp only [go_sem,hw,hS0]<;>repeat' first|apply V0|exact on'|fail)
  rw [h1];unfold szR at hc ⊢;split at hc<;>omega
 ·have h1:=a1x a1v (show ¬ i < a.length by omega);all_goals ((repeat (simp (disch:=omega) only [a0C] at *))<;>(try simp only [szR,szR] at *)<;>(first|omega|(split<;>omega)))
 all_goals all_goals ((repeat (simp (disch:=omega) only [a0C] at *))<;>(try simp only [szR,szR] at *)<;>(first|omega|(split<;>omega)))
def a9A:CT:=l8 (fun (x:(List e7)×Int) h=>c2y x.1 x.2 h)
@[go_sem] def d4t:=fun a x0=>nm' (fP' a9A rfl (a,x0))
def c2A (a:c6) (left:Int) (hpre:0<=left/\left<=1048576):spZ 8 [(true,[.i .i64 a.Kind,.s a.Head.Name,l5 a.Head.Args,a0d a.Body]),(false,[.i .i64 left])] [] (.one (false,[.i .i64 (szR left (a0J a:Nat))])):=by
 refine sy' Tryz.func8 (q' 2 [ao (.box 4 (.t 0)),az 4 0] (q' 5 [af 1 2,aE 2,am 1,ac 37 [6,7],aV 1] (.seq (zc' 9) (q' 11 [aG 3 2,am 1,ac 38 [12,13],aV 1] (.seq (zc' 15) (q' 17 [am 1,aV 4] .ret)))))) [.t 4] [(37,[],a5j),(38,[],a9A)] ?_;intro hb hE;simp only [go_sem];repeat' first|apply cj'|intro hc|exact om'|fail
 all_goals ((repeat (simp (disch:=omega) only [a0C] at *))<;>(try simp only [szR,a0J] at *)<;>(first|omega|(split<;>omega)))
def a9C:CT:=l8 (fun (x:c6×Int) h=>c2A x.1 x.2 h)
@[go_sem] def d4v:=fun x0 x1 x2 x3 x4=>nm' (fP' a9C rfl (⟨x0,⟨x1,x2⟩,x3⟩,x4))
def b9U (a:List c6) (left:Int) (hpre:0<=left/\left<=1048576):spZ 59 [(false,[m8 a]),(false,[.i .i64 left])] [] (.one (false,[.i .i64 (szR left ((a.length+m7 a0J a):Nat))])):=by
 refine sy' Tryz.func59 (q' 4 [aK 0] (q' 6 [aM [1,0],aN,ao (.bin .sub (.t 6) (.t 8)),aV 1] (.seq (zc' 10) (.seq (q' 5 [aK 0] (.block 0 (.loop (.seq (q' 12 [aM [5,0],aN,ar 12 14] (.cond (.t 15) .skip (.exit 0))) (.seq (.block 1 (q' 18 [aM [0,5],aI 4,aE 4,am 1,ac 8 [21,22],aV 1] (zc' 24))) (g' 16 [aB 5])))))) (q' 26 [am 1,aV 4] .ret))))) [.t 4] [(8,[],a9C)] ?_;intro hb hE;simp only [go_sem];repeat' first|apply cj'|intro hc|exact om'|fail
 ·all_goals ((repeat (simp (disch:=omega) only [a0C] at *))<;>(try simp only [szR,szR] at *)<;>(first|omega|(split<;>omega)))
 have hw:=a0C (l:=left) (n:=a.length) (by omega) (by omega) (by omega) (by omega);rw [hw] at hc;refine lq' false [0] [] [] (fun i:{i:Nat // i<=a.length/\(a.length:Int)+(m7 a0J (a.take i):Nat)<=left}=>[(5,slV (.i .i64 i.1)),(1,slV (.i .i64 (left - a.length - (m7 a0J (a.take i.1):Nat))))]) nl' nl' (fun i=>a.length - i.1) (⟨0,by simp only [q0T,a3n];omega⟩) ?_;intro S0 hS0 i;obtain ⟨i,hi,ht⟩:=i;simp only [go_sem,hw,hS0];repeat' first|apply cj'|intro hc|exact om'|fail
 ·have h1:=m9 a0J (default:c6) (show i < a.length by omega);have h2:=z7 a0J a (i+1);all_goals ((repeat (simp (disch:=omega) only [a0C] at *))<;>(try simp only [szR,szR] at *)<;>(first|omega|(split<;>omega)))
 ·have h1:=m9 a0J (default:c6) (show i < a.length by omega)
  (refine lpK_n2 (⟨i+1,by omega,by unfold szR at hc;split at hc<;>omega⟩) _ rfl ?_;simp only [go_sem,hw,hS0]<;>repeat' first|apply V0|exact on'|fail)
  rw [h1];unfold szR at hc ⊢;split at hc<;>omega
 ·have h1:=a1x a0J (show ¬ i < a.length by omega);all_goals ((repeat (simp (disch:=omega) only [a0C] at *))<;>(try simp only [szR,szR] at *)<;>(first|omega|(split<;>omega)))
 all_goals all_goals ((repeat (simp (disch:=omega) only [a0C] at *))<;>(try simp only [szR,szR] at *)<;>(first|omega|(split<;>omega)))
def a8f:CT:=l8 (fun (x:(List c6)×Int) h=>b9U x.1 x.2 h)
@[go_sem] def d2b:=fun a x0=>nm' (fP' a8f rfl (a,x0))
def c2x (a:f5) (left:Int) (hpre:0<=left/\left<=1048576):spZ 117 [(true,[.i .i64 a.Kind,.s a.Name,.i .i64 a.Arity]),(false,[.i .i64 left])] [] (.one (false,[.i .i64 (szR left (a2r a:Nat))])):=by
 refine sy' Tryz.func117 (q' 2 [ao (.box 3 (.t 0)),az 4 0] (q' 5 [am 1,aG 1 2,ao (.lens (.t 7)),ao (.bin .sub (.t 5) (.t 8)),aV 1] (.seq (zc' 10) (q' 12 [am 1,aV 4] .ret)))) [.t 4] [] ?_;intro hb hE;simp only [go_sem];repeat' first|apply cj'|intro hc|exact om'|fail
 all_goals ((repeat (simp (disch:=omega) only [a0C] at *))<;>(try simp only [szR,a2r] at *)<;>(first|omega|(split<;>omega)))
def a9z:CT:=l8 (fun (x:f5×Int) h=>c2x x.1 x.2 h)
@[go_sem] def d4s:=fun x0 x1 x2 x3=>nm' (fP' a9z rfl (⟨x0,x1,x2⟩,x3))
def b9S (a:List f5) (left:Int) (hpre:0<=left/\left<=1048576):spZ 58 [(false,[n7 a]),(false,[.i .i64 left])] [] (.one (false,[.i .i64 (szR left ((a.length+m7 a2r a):Nat))])):=by
 refine sy' Tryz.func58 (q' 4 [aK 0] (q' 6 [aM [1,0],aN,ao (.bin .sub (.t 6) (.t 8)),aV 1] (.seq (zc' 10) (.seq (q' 5 [aK 0] (.block 0 (.loop (.seq (q' 12 [aM [5,0],aN,ar 12 14] (.cond (.t 15) .skip (.exit 0))) (.seq (.block 1 (q' 18 [aM [0,5],aI 3,aE 3,am 1,ac 117 [21,22],aV 1] (zc' 24))) (g' 16 [aB 5])))))) (q' 26 [am 1,aV 4] .ret))))) [.t 4] [(117,[],a9z)] ?_;intro hb hE;simp only [go_sem];repeat' first|apply cj'|intro hc|exact om'|fail
 ·all_goals ((repeat (simp (disch:=omega) only [a0C] at *))<;>(try simp only [szR,szR] at *)<;>(first|omega|(split<;>omega)))
 have hw:=a0C (l:=left) (n:=a.length) (by omega) (by omega) (by omega) (by omega);rw [hw] at hc;refine lq' false [0] [] [] (fun i:{i:Nat // i<=a.length/\(a.length:Int)+(m7 a2r (a.take i):Nat)<=left}=>[(5,slV (.i .i64 i.1)),(1,slV (.i .i64 (left - a.length - (m7 a2r (a.take i.1):Nat))))]) nl' nl' (fun i=>a.length - i.1) (⟨0,by simp only [q0T,a3n];omega⟩) ?_;intro S0 hS0 i;obtain ⟨i,hi,ht⟩:=i;simp only [go_sem,hw,hS0];repeat' first|apply cj'|intro hc|exact om'|fail
 ·have h1:=m9 a2r (default:f5) (show i < a.length by omega);have h2:=z7 a2r a (i+1);all_goals ((repeat (simp (disch:=omega) only [a0C] at *))<;>(try simp only [szR,szR] at *)<;>(first|omega|(split<;>omega)))
 ·have h1:=m9 a2r (default:f5) (show i < a.length by omega)
  (refine lpK_n2 (⟨i+1,by omega,by unfold szR at hc;split at hc<;>omega⟩) _ rfl ?_;simp only [go_sem,hw,hS0]<;>repeat' first|apply V0|exact on'|fail)
  rw [h1];unfold szR at hc ⊢;split at hc<;>omega
 ·have h1:=a1x a2r (show ¬ i < a.length by omega);all_goals ((repeat (simp (disch:=omega) only [a0C] at *))<;>(try simp only [szR,szR] at *)<;>(first|omega|(split<;>omega)))
 all_goals all_goals ((repeat (simp (disch:=omega) only [a0C] at *))<;>(try simp only [szR,szR] at *)<;>(first|omega|(split<;>omega)))
def a8d:CT:=l8 (fun (x:(List f5)×Int) h=>b9S x.1 x.2 h)
@[go_sem] def d1Z:=fun a x0=>nm' (fP' a8d rfl (a,x0))
def b4d (a:c4) (left:Int) (hpre:0<=left/\left<=1048576):spZ 21 [(true,[n7 a.Decls,m8 a.Rules]),(false,[.i .i64 left])] [] (.one (false,[.i .i64 (szR left (a2M a:Nat))])):=by
 refine sy' Tryz.func21 (q' 2 [ao (.box 2 (.t 0)),az 4 0] (q' 5 [aG 0 2,am 1,ac 58 [6,7],aV 1] (.seq (zc' 9) (q' 11 [aG 1 2,am 1,ac 59 [12,13],aV 1] (.seq (zc' 15) (q' 17 [am 1,aV 4] .ret)))))) [.t 4] [(58,[],a8d),(59,[],a8f)] ?_;intro hb hE;simp only [go_sem];repeat' first|apply cj'|intro hc|exact om'|fail
 all_goals ((repeat (simp (disch:=omega) only [a0C] at *))<;>(try simp only [szR,a2M] at *)<;>(first|omega|(split<;>omega)))
def a5I:CT:=l8 (fun (x:c4×Int) h=>b4d x.1 x.2 h)
@[go_sem] def c8S:=fun x0 x1 x2=>nm' (fP' a5I rfl (⟨x0,x1⟩,x2))
def c2C (a:f9) (hpre:(a4S a:Int)<=1048576):spZ 42 [(true,[.s a.Name,l5 a.Args])] [] (.one (true,[.s a.Name,b3S a.Args])):=by
 refine sx' true false none Tryz.func42 (q' 1 [ao (.box 2 (.t 0)),aw [.s,.sl j6]] (q' 3 [aw [.s,.sl j6]] (q' 4 [aG 0 1,af 0 3,aS 1 6 5] (q' 7 [aG 1 1,ac 92 [8],af 1 3,aS 1 10 9] (q' 11 [ae 2 3,aS 2 2 11] .ret))))) [.c 2 true 2] [(92,[],a8m)] ?_;intro hb hE;simp only [go_sem];repeat' first|apply cj'|intro hc|exact om'|fail
 all_goals (simp only [a4S] at *;omega)
def a5l:CT:=l8 (fun (x:f9) h=>c2C x h)
@[go_sem] def d4x:=fun x0 x1=>nm' (fP' a5l rfl ⟨x0,x1⟩)
def c5A (a:e7) (hpre:(a1v a:Int)<=1048576):spZ 93 [(true,[.i .i64 a.Kind,.s a.Atom.Name,l5 a.Atom.Args,.i .i64 a.Op,.s a.A.Var,.i .i64 a.A.Val.N,.s a.A.Val.S,.s a.B.Var,.i .i64 a.B.Val.N,.s a.B.Val.S])] [] (.one (true,[.i .i64 a.Kind,.s a.Atom.Name,b3S a.Atom.Args,.i .i64 a.Op,.s a.A.Var,.i .i64 a.A.Val.N,.s a.A.Val.S,.s a.B.Var,.i .i64 a.B.Val.N,.s a.B.Val.S])):=by
 refine sx' true false none Tryz.func93 (q' 1 [ao (.box 10 (.t 0)),aw [.i .i64,.s,.sl j6,.i .i64,.s,.i .i64,.s,.s,.i .i64,.s]] (q' 3 [aw [.i .i64,.s,.sl j6,.i .i64,.s,.i .i64,.s,.s,.i .i64,.s]] (q' 4 [aG 0 1,af 0 3,aS 1 6 5] (q' 7 [af 1 1,aE 2,ac 42 [8],af 1 3,aS 2 10 9] (q' 11 [aG 3 1,af 3 3,aS 1 13 12] (q' 14 [af 4 1,aE 3,ac 163 [15],af 4 3,aS 3 17 16] (q' 18 [af 7 1,aE 3,ac 163 [19],af 7 3,aS 3 21 20] (q' 22 [ae 10 3,aS 10 2 22] .ret)))))))) [.c 2 true 10] [(42,[],a5l),(163,[],a5m)] ?_;intro hb hE;simp only [go_sem];repeat' first|apply cj'|intro hc|exact om'|fail
 all_goals (simp only [a1v] at *;omega)
def b1G:CT:=l8 (fun (x:e7) h=>c5A x h)
@[go_sem] def d6k:=fun x0 x1 x2 x3 x4 x5 x6 x7 x8 x9=>nm' (fP' b1G rfl ⟨x0,⟨x1,x2⟩,x3,⟨x4,⟨x5,x6⟩⟩,⟨x7,⟨x8,x9⟩⟩⟩)
def c2E (a:List e7) (hpre:(((a.length+m7 a1v a):Nat):Int)<=1048576):spZ 43 [(false,[a0d a])] [] (.one (false,[d2K a])):=by
 refine sx' true false none Tryz.func43 (q' 2 [ao (.mov (.k (.v false [.nl a9V])))] (q' 5 [am 0,aN,ao (.mks 10 136 [.i .i64,.s,.sl j6,.i .i64,.s,.i .i64,.s,.s,.i .i64,.s] (.t 6) (.t 6)),aV 3] (.seq (q' 4 [aK 0] (.block 0 (.loop (.seq (q' 8 [aM [4,0],aN,ar 8 10] (.cond (.t 11) .skip (.exit 0))) (.seq (.block 1 (g' 14 [aM [3,4,0,4],aI 10,aE 10,ac 93 [19],ai 10 14 15,aS 10 21 20])) (g' 12 [aB 4])))))) (q' 22 [am 3,aV 2] .ret)))) [.t 2] [(93,[],b1G)] ?_;intro hb hE;simp only [go_sem,b7t];repeat' first|apply cj'|intro hc|exact om'|fail
 refine lq' true [0,3] [] [] (fun i:{p:Nat×(List e7) // p.1<=a.length/\p.2.length=a.length/\p.2.take p.1=a.take p.1}=>[(4,slV (.i .i64 i.1.1))]) nl' (fun i=>[(896,c8H,i.1.2.map (e7.cells true true))]) (fun i=>a.length - i.1.1) (⟨(0,List.replicate a.length default),by simp⟩) ?_;intro S0 hS0 i;obtain ⟨⟨i,L⟩,hi,hl,ht⟩:=i;simp only at hi hl ht;have hg:=a9c a1v a i default rfl;simp only [go_sem,b7t,hS0];repeat' first|apply cj'|intro hc|exact om'|fail
 ·(refine lpK_n2 (⟨(i+1,L.set i (a.getD i default)),by simp only;omega,by simp [hl],z5 hl ht (by omega)⟩) _ rfl ?_;simp only [go_sem,b7t,hS0]<;>repeat' first|apply V0|exact on'|fail)
 ·obtain rfl:=u7 hl ht (by omega);rfl
def a9E:CT:=l8 (fun (x:(List e7)) h=>c2E x h)
@[go_sem] def d4z:=fun a=>nm' (fP' a9E rfl a)
def c2G (a:c6) (hpre:(a0J a:Int)<=1048576):spZ 11 [(true,[.i .i64 a.Kind,.s a.Head.Name,l5 a.Head.Args,a0d a.Body])] [] (.one (true,[.i .i64 a.Kind,.s a.Head.Name,b3S a.Head.Args,d2K a.Body])):=by
 refine sx' true false none Tryz.func11 (q' 1 [ao (.box 4 (.t 0)),aw [.i .i64,.s,.sl j6,.sl a9V]] (q' 3 [aw [.i .i64,.s,.sl j6,.sl a9V]] (q' 4 [aG 0 1,af 0 3,aS 1 6 5] (q' 7 [af 1 1,aE 2,ac 42 [8],af 1 3,aS 2 10 9] (q' 11 [aG 3 1,ac 43 [12],af 3 3,aS 1 14 13] (q' 15 [ae 4 3,aS 4 2 15] .ret)))))) [.c 2 true 4] [(42,[],a5l),(43,[],a9E)] ?_;intro hb hE;simp only [go_sem];repeat' first|apply cj'|intro hc|exact om'|fail
 all_goals (simp only [a0J] at *;omega)
def a9G:CT:=l8 (fun (x:c6) h=>c2G x h)
@[go_sem] def d4B:=fun x0 x1 x2 x3=>nm' (fP' a9G rfl ⟨x0,⟨x1,x2⟩,x3⟩)
def c0a (a:List c6) (hpre:(((a.length+m7 a0J a):Nat):Int)<=1048576):spZ 62 [(false,[m8 a])] [] (.one (false,[b3Q a])):=by
 refine sx' true false none Tryz.func62 (q' 2 [ao (.mov (.k (.v false [.nl c1b])))] (q' 5 [am 0,aN,ao (.mks 4 72 [.i .i64,.s,.sl j6,.sl a9V] (.t 6) (.t 6)),aV 3] (.seq (q' 4 [aK 0] (.block 0 (.loop (.seq (q' 8 [aM [4,0],aN,ar 8 10] (.cond (.t 11) .skip (.exit 0))) (.seq (.block 1 (g' 14 [aM [3,4,0,4],aI 4,aE 4,ac 11 [19],ai 4 14 15,aS 4 21 20])) (g' 12 [aB 4])))))) (q' 22 [am 3,aV 2] .ret)))) [.t 2] [(11,[],a9G)] ?_;intro hb hE;simp only [go_sem,b2M];repeat' first|apply cj'|intro hc|exact om'|fail
 refine lq' true [0,3] [] [] (fun i:{p:Nat×(List c6) // p.1<=a.length/\p.2.length=a.length/\p.2.take p.1=a.take p.1}=>[(4,slV (.i .i64 i.1.1))]) nl' (fun i=>[(896,c1d,i.1.2.map (c6.cells true true))]) (fun i=>a.length - i.1.1) (⟨(0,List.replicate a.length default),by simp⟩) ?_;intro S0 hS0 i;obtain ⟨⟨i,L⟩,hi,hl,ht⟩:=i;simp only at hi hl ht;have hg:=a9c a0J a i default rfl;simp only [go_sem,b2M,hS0];repeat' first|apply cj'|intro hc|exact om'|fail
 ·(refine lpK_n2 (⟨(i+1,L.set i (a.getD i default)),by simp only;omega,by simp [hl],z5 hl ht (by omega)⟩) _ rfl ?_;simp only [go_sem,b2M,hS0]<;>repeat' first|apply V0|exact on'|fail)
 ·obtain rfl:=u7 hl ht (by omega);rfl
def a8k:CT:=l8 (fun (x:(List c6)) h=>c0a x h)
@[go_sem] def d2h:=fun a=>nm' (fP' a8k rfl a)
def c2D (a:f5):spZ 119 [(true,[.i .i64 a.Kind,.s a.Name,.i .i64 a.Arity])] [] (.one (true,[.i .i64 a.Kind,.s a.Name,.i .i64 a.Arity])):=by
 refine sx' true false none Tryz.func119 (q' 1 [ao (.box 3 (.t 0)),aw [.i .i64,.s,.i .i64]] (q' 3 [aw [.i .i64,.s,.i .i64]] (q' 4 [aG 0 1,af 0 3,aS 1 6 5] (q' 7 [aG 1 1,af 1 3,aS 1 9 8] (q' 10 [aG 2 1,af 2 3,aS 1 12 11] (q' 13 [ae 3 3,aS 3 2 13] .ret)))))) [.c 2 true 3] [] ?_;intro hb hE;simp only [go_sem];repeat' first|apply cj'|intro hc|exact om'|fail
def a9D:CT:=k6 (fun (x:f5)=>c2D x)
@[go_sem] def d4y:=fun x0 x1 x2=>nm' (fQ' a9D rfl ⟨x0,x1,x2⟩)
def b9Y (a:List f5) (hpre:(((a.length+m7 a2r a):Nat):Int)<=1048576):spZ 61 [(false,[n7 a])] [] (.one (false,[b3R a])):=by
 refine sx' true false none Tryz.func61 (q' 2 [ao (.mov (.k (.v false [.nl a8H])))] (q' 5 [am 0,aN,ao (.mks 3 32 [.i .i64,.s,.i .i64] (.t 6) (.t 6)),aV 3] (.seq (q' 4 [aK 0] (.block 0 (.loop (.seq (q' 8 [aM [4,0],aN,ar 8 10] (.cond (.t 11) .skip (.exit 0))) (.seq (.block 1 (g' 14 [aM [3,4,0,4],aI 3,aE 3,ac 119 [19],ai 3 14 15,aS 3 21 20])) (g' 12 [aB 4])))))) (q' 22 [am 3,aV 2] .ret)))) [.t 2] [(119,[],a9D)] ?_;intro hb hE;simp only [go_sem,b2L];repeat' first|apply cj'|intro hc|exact om'|fail
 refine lq' true [0,3] [] [] (fun i:{p:Nat×(List f5) // p.1<=a.length/\p.2.length=a.length/\p.2.take p.1=a.take p.1}=>[(4,slV (.i .i64 i.1.1))]) nl' (fun i=>[(896,a8H,i.1.2.map f5.cells)]) (fun i=>a.length - i.1.1) (⟨(0,List.replicate a.length default),by simp⟩) ?_;intro S0 hS0 i;obtain ⟨⟨i,L⟩,hi,hl,ht⟩:=i;simp only at hi hl ht;simp only [go_sem,b2L,hS0];repeat' first|apply cj'|intro hc|exact om'|fail
 ·(refine lpK_n2 (⟨(i+1,L.set i (a.getD i default)),by simp only;omega,by simp [hl],z5 hl ht (by omega)⟩) _ rfl ?_;simp only [go_sem,b2L,hS0]<;>repeat' first|apply V0|exact on'|fail)
 ·obtain rfl:=u7 hl ht (by omega);rfl
def a8i:CT:=l8 (fun (x:(List f5)) h=>b9Y x h)
@[go_sem] def d2f:=fun a=>nm' (fP' a8i rfl a)
def b4e (a:c4) (hpre:(a2M a:Int)<=1048576):spZ 23 [(true,[n7 a.Decls,m8 a.Rules])] [] (.one (true,[b3R a.Decls,b3Q a.Rules])):=by
 refine sx' true false none Tryz.func23 (q' 1 [ao (.box 2 (.t 0)),aw [.sl a8H,.sl c1b]] (q' 3 [aw [.sl a8H,.sl c1b]] (q' 4 [aG 0 1,ac 61 [5],af 0 3,aS 1 7 6] (q' 8 [aG 1 1,ac 62 [9],af 1 3,aS 1 11 10] (q' 12 [ae 2 3,aS 2 2 12] .ret))))) [.c 2 true 2] [(61,[],a8i),(62,[],a8k)] ?_;intro hb hE;simp only [go_sem];repeat' first|apply cj'|intro hc|exact om'|fail
 all_goals (simp only [a2M] at *;omega)
def a5J:CT:=l8 (fun (x:c4) h=>b4e x h)
@[go_sem] def c8T:=fun x0 x1=>nm' (fP' a5J rfl ⟨x0,x1⟩)
def c2p (a:f9) (b:f9):spZ 50 [(true,[.s a.Name,l5 a.Args]),(true,[.s b.Name,l5 b.Args])] [] (.one (false,[.b (decide (a=b))])):=by
 refine sy' Tryz.func50 (q' 2 [ao (.box 2 (.t 0)),ao (.box 2 (.t 1)),ao (.mov (bb false))] (.seq (q' 5 [aG 0 2,aG 0 3,ao (.bin .neq (.t 6) (.t 8))] (.cond (.t 9) (q' 0 [ab 4 false] .ret) .skip)) (.seq (q' 10 [aG 1 2,aG 1 3,ac 110 [11,13],ao (.not (.t 14))] (.cond (.t 15) (q' 0 [ab 4 false] .ret) .skip)) (q' 0 [ab 4 true] .ret)))) [.t 4] [(110,[],a8c)] ?_;intro hb hE;simp only [go_sem];repeat' first|apply cj'|intro hc|exact om'|fail
 all_goals (cases a;cases b;simp_all)
def a5h:CT:=k6 (fun (x:f9×f9)=>c2p x.1 x.2)
@[go_sem] def d4k:=fun x0 x1 x2 x3=>nm' (fQ' a5h rfl (⟨x0,x1⟩,⟨x2,x3⟩))
def c5u (a:e7) (b:e7):spZ 111 [(true,[.i .i64 a.Kind,.s a.Atom.Name,l5 a.Atom.Args,.i .i64 a.Op,.s a.A.Var,.i .i64 a.A.Val.N,.s a.A.Val.S,.s a.B.Var,.i .i64 a.B.Val.N,.s a.B.Val.S]),(true,[.i .i64 b.Kind,.s b.Atom.Name,l5 b.Atom.Args,.i .i64 b.Op,.s b.A.Var,.i .i64 b.A.Val.N,.s b.A.Val.S,.s b.B.Var,.i .i64 b.B.Val.N,.s b.B.Val.S])] [] (.one (false,[.b (decide (a=b))])):=by
 refine sy' Tryz.func111 (q' 2 [ao (.box 10 (.t 0)),ao (.box 10 (.t 1)),ao (.mov (bb false))] (.seq (q' 5 [aG 0 2,aG 0 3,ao (.bin .neq (.t 6) (.t 8))] (.cond (.t 9) (q' 0 [ab 4 false] .ret) .skip)) (.seq (q' 10 [af 1 2,aE 2,af 1 3,aE 2,ac 50 [11,13],ao (.not (.t 14))] (.cond (.t 15) (q' 0 [ab 4 false] .ret) .skip)) (.seq (q' 16 [aG 3 2,aG 3 3,ao (.bin .neq (.t 17) (.t 19))] (.cond (.t 20) (q' 0 [ab 4 false] .ret) .skip)) (.seq (q' 21 [af 4 2,aE 3,af 4 3,aE 3,ac 192 [22,24],ao (.not (.t 25))] (.cond (.t 26) (q' 0 [ab 4 false] .ret) .skip)) (.seq (q' 27 [af 7 2,aE 3,af 7 3,aE 3,ac 192 [28,30],ao (.not (.t 31))] (.cond (.t 32) (q' 0 [ab 4 false] .ret) .skip)) (q' 0 [ab 4 true] .ret))))))) [.t 4] [(50,[],a5h),(192,[],a5i)] ?_;intro hb hE;simp only [go_sem];repeat' first|apply cj'|intro hc|exact om'|fail
 all_goals (cases a;cases b;simp_all)
def b1A:CT:=k6 (fun (x:e7×e7)=>c5u x.1 x.2)
@[go_sem] def d6e:=fun x0 x1 x2 x3 x4 x5 x6 x7 x8 x9 x10 x11 x12 x13 x14 x15 x16 x17 x18 x19=>nm' (fQ' b1A rfl (⟨x0,⟨x1,x2⟩,x3,⟨x4,⟨x5,x6⟩⟩,⟨x7,⟨x8,x9⟩⟩⟩,⟨x10,⟨x11,x12⟩,x13,⟨x14,⟨x15,x16⟩⟩,⟨x17,⟨x18,x19⟩⟩⟩))
def c2s (a:List e7) (b:List e7):spZ 51 [(false,[a0d a]),(false,[a0d b])] [] (.one (false,[.b (decide (a=b))])):=by
 refine sy' Tryz.func51 (q' 0 [ab 4 false] (.seq (q' 6 [am 0,aN,am 1,aN,ao (.bin .neq (.t 7) (.t 9))] (.cond (.t 10) (q' 0 [ab 4 false] .ret) .skip)) (.seq (q' 5 [aK 0] (.block 0 (.loop (.seq (q' 11 [aM [5,0],aN,ar 11 13] (.cond (.t 14) .skip (.exit 0))) (.seq (.block 1 (.seq (G' 17 [aM [0,5],aI 10,aE 10,aM [1,5],aI 10,aE 10,ac 111 [20,24],ao (.not (.t 25))]) (.cond (.t 26) (q' 0 [ab 4 false] .ret) .skip))) (g' 15 [aB 5])))))) (q' 0 [ab 4 true] .ret)))) [.t 4] [(111,[],b1A)] ?_;intro hb hE;simp only [go_sem];repeat' first|apply cj'|intro hc|exact om'|fail
 ·symm;rw [q1M];rintro rfl;simp at hc
 have hl:a.length=b.length:=by simpa [q3E] using hc
 refine lq' false [0,1] [] [] (fun i:{i:Nat // i<=a.length/\a.take i=b.take i}=>[(5,slV (.i .i64 i.1))]) nl' nl' (fun i=>a.length - i.1) (⟨0,by simp⟩) ?_;intro S0 hS0 i;obtain ⟨i,hi,ht⟩:=i;simp only [go_sem,hS0];repeat' first|apply cj'|intro hc|exact om'|fail
 ·exact (V6 (a1s default (i:=i) (by simpa using hc))).symm
 ·exact nx0 ⟨i+1,by omega,a0I ht (by omega) (by omega) (d:=default) (by simpa using hc)⟩
 ·exact (V4 (u7 hl ht (by omega))).symm
def a9w:CT:=k6 (fun (x:(List e7)×(List e7))=>c2s x.1 x.2)
@[go_sem] def d4n:=fun a b=>nm' (fQ' a9w rfl (a,b))
def c2u (a:c6) (b:c6):spZ 15 [(true,[.i .i64 a.Kind,.s a.Head.Name,l5 a.Head.Args,a0d a.Body]),(true,[.i .i64 b.Kind,.s b.Head.Name,l5 b.Head.Args,a0d b.Body])] [] (.one (false,[.b (decide (a=b))])):=by
 refine sy' Tryz.func15 (q' 2 [ao (.box 4 (.t 0)),ao (.box 4 (.t 1)),ao (.mov (bb false))] (.seq (q' 5 [aG 0 2,aG 0 3,ao (.bin .neq (.t 6) (.t 8))] (.cond (.t 9) (q' 0 [ab 4 false] .ret) .skip)) (.seq (q' 10 [af 1 2,aE 2,af 1 3,aE 2,ac 50 [11,13],ao (.not (.t 14))] (.cond (.t 15) (q' 0 [ab 4 false] .ret) .skip)) (.seq (q' 16 [aG 3 2,aG 3 3,ac 51 [17,19],ao (.not (.t 20))] (.cond (.t 21) (q' 0 [ab 4 false] .ret) .skip)) (q' 0 [ab 4 true] .ret))))) [.t 4] [(50,[],a5h),(51,[],a9w)] ?_;intro hb hE;simp only [go_sem];repeat' first|apply cj'|intro hc|exact om'|fail
 all_goals (cases a;cases b;simp_all)
def a9y:CT:=k6 (fun (x:c6×c6)=>c2u x.1 x.2)
@[go_sem] def d4p:=fun x0 x1 x2 x3 x4 x5 x6 x7=>nm' (fQ' a9y rfl (⟨x0,⟨x1,x2⟩,x3⟩,⟨x4,⟨x5,x6⟩,x7⟩))
def b9O (a:List c6) (b:List c6):spZ 65 [(false,[m8 a]),(false,[m8 b])] [] (.one (false,[.b (decide (a=b))])):=by
 refine sy' Tryz.func65 (q' 0 [ab 4 false] (.seq (q' 6 [am 0,aN,am 1,aN,ao (.bin .neq (.t 7) (.t 9))] (.cond (.t 10) (q' 0 [ab 4 false] .ret) .skip)) (.seq (q' 5 [aK 0] (.block 0 (.loop (.seq (q' 11 [aM [5,0],aN,ar 11 13] (.cond (.t 14) .skip (.exit 0))) (.seq (.block 1 (.seq (G' 17 [aM [0,5],aI 4,aE 4,aM [1,5],aI 4,aE 4,ac 15 [20,24],ao (.not (.t 25))]) (.cond (.t 26) (q' 0 [ab 4 false] .ret) .skip))) (g' 15 [aB 5])))))) (q' 0 [ab 4 true] .ret)))) [.t 4] [(15,[],a9y)] ?_;intro hb hE;simp only [go_sem];repeat' first|apply cj'|intro hc|exact om'|fail
 ·symm;rw [q1M];rintro rfl;simp at hc
 have hl:a.length=b.length:=by simpa [q3E] using hc
 refine lq' false [0,1] [] [] (fun i:{i:Nat // i<=a.length/\a.take i=b.take i}=>[(5,slV (.i .i64 i.1))]) nl' nl' (fun i=>a.length - i.1) (⟨0,by simp⟩) ?_;intro S0 hS0 i;obtain ⟨i,hi,ht⟩:=i;simp only [go_sem,hS0];repeat' first|apply cj'|intro hc|exact om'|fail
 ·exact (V6 (a1s default (i:=i) (by simpa using hc))).symm
 ·exact nx0 ⟨i+1,by omega,a0I ht (by omega) (by omega) (d:=default) (by simpa using hc)⟩
 ·exact (V4 (u7 hl ht (by omega))).symm
def a8a:CT:=k6 (fun (x:(List c6)×(List c6))=>b9O x.1 x.2)
@[go_sem] def d1V:=fun a b=>nm' (fQ' a8a rfl (a,b))
def c2q (a:f5) (b:f5):spZ 123 [(true,[.i .i64 a.Kind,.s a.Name,.i .i64 a.Arity]),(true,[.i .i64 b.Kind,.s b.Name,.i .i64 b.Arity])] [] (.one (false,[.b (decide (a=b))])):=by
 refine sy' Tryz.func123 (q' 2 [ao (.box 3 (.t 0)),ao (.box 3 (.t 1)),ao (.mov (bb false))] (.seq (q' 5 [aG 0 2,aG 0 3,ao (.bin .neq (.t 6) (.t 8))] (.cond (.t 9) (q' 0 [ab 4 false] .ret) .skip)) (.seq (q' 10 [aG 1 2,aG 1 3,ao (.bin .neq (.t 11) (.t 13))] (.cond (.t 14) (q' 0 [ab 4 false] .ret) .skip)) (.seq (q' 15 [aG 2 2,aG 2 3,ao (.bin .neq (.t 16) (.t 18))] (.cond (.t 19) (q' 0 [ab 4 false] .ret) .skip)) (q' 0 [ab 4 true] .ret))))) [.t 4] [] ?_;intro hb hE;simp only [go_sem];repeat' first|apply cj'|intro hc|exact om'|fail
 all_goals (cases a;cases b;simp_all)
def a9u:CT:=k6 (fun (x:f5×f5)=>c2q x.1 x.2)
@[go_sem] def d4l:=fun x0 x1 x2 x3 x4 x5=>nm' (fQ' a9u rfl (⟨x0,x1,x2⟩,⟨x3,x4,x5⟩))
def b9M (a:List f5) (b:List f5):spZ 64 [(false,[n7 a]),(false,[n7 b])] [] (.one (false,[.b (decide (a=b))])):=by
 refine sy' Tryz.func64 (q' 0 [ab 4 false] (.seq (q' 6 [am 0,aN,am 1,aN,ao (.bin .neq (.t 7) (.t 9))] (.cond (.t 10) (q' 0 [ab 4 false] .ret) .skip)) (.seq (q' 5 [aK 0] (.block 0 (.loop (.seq (q' 11 [aM [5,0],aN,ar 11 13] (.cond (.t 14) .skip (.exit 0))) (.seq (.block 1 (.seq (G' 17 [aM [0,5],aI 3,aE 3,aM [1,5],aI 3,aE 3,ac 123 [20,24],ao (.not (.t 25))]) (.cond (.t 26) (q' 0 [ab 4 false] .ret) .skip))) (g' 15 [aB 5])))))) (q' 0 [ab 4 true] .ret)))) [.t 4] [(123,[],a9u)] ?_;intro hb hE;simp only [go_sem];repeat' first|apply cj'|intro hc|exact om'|fail
 ·symm;rw [q1M];rintro rfl;simp at hc
 have hl:a.length=b.length:=by simpa [q3E] using hc
 refine lq' false [0,1] [] [] (fun i:{i:Nat // i<=a.length/\a.take i=b.take i}=>[(5,slV (.i .i64 i.1))]) nl' nl' (fun i=>a.length - i.1) (⟨0,by simp⟩) ?_;intro S0 hS0 i;obtain ⟨i,hi,ht⟩:=i;simp only [go_sem,hS0];repeat' first|apply cj'|intro hc|exact om'|fail
 ·exact (V6 (a1s default (i:=i) (by simpa using hc))).symm
 ·exact nx0 ⟨i+1,by omega,a0I ht (by omega) (by omega) (d:=default) (by simpa using hc)⟩
 ·exact (V4 (u7 hl ht (by omega))).symm
def a7Y:CT:=k6 (fun (x:(List f5)×(List f5))=>b9M x.1 x.2)
@[go_sem] def d1T:=fun a b=>nm' (fQ' a7Y rfl (a,b))
def b3Y (a:c4) (b:c4):spZ 25 [(true,[n7 a.Decls,m8 a.Rules]),(true,[n7 b.Decls,m8 b.Rules])] [] (.one (false,[.b (decide (a=b))])):=by
 refine sy' Tryz.func25 (q' 2 [ao (.box 2 (.t 0)),ao (.box 2 (.t 1)),ao (.mov (bb false))] (.seq (q' 5 [aG 0 2,aG 0 3,ac 64 [6,8],ao (.not (.t 9))] (.cond (.t 10) (q' 0 [ab 4 false] .ret) .skip)) (.seq (q' 11 [aG 1 2,aG 1 3,ac 65 [12,14],ao (.not (.t 15))] (.cond (.t 16) (q' 0 [ab 4 false] .ret) .skip)) (q' 0 [ab 4 true] .ret)))) [.t 4] [(64,[],a7Y),(65,[],a8a)] ?_;intro hb hE;simp only [go_sem];repeat' first|apply cj'|intro hc|exact om'|fail
 all_goals (cases a;cases b;simp_all)
def a5E:CT:=k6 (fun (x:c4×c4)=>b3Y x.1 x.2)
@[go_sem] def c8N:=fun x0 x1 x2 x3=>nm' (fQ' a5E rfl (⟨x0,x1⟩,⟨x2,x3⟩))
def a1w (x:c9):Nat:=(x.V.length+m7 a1b x.V)
def b4C (x:f8):Nat:=(x.Rows.length+m7 a1w x.Rows)
def a0o (x:d6):Nat:=x.Name.length+b4C x.Rel
def a6j (x:c8):Nat:=(x.Rels.length+m7 a0o x.Rels)
def b6F (a:List d7) (left:Int) (hpre:0<=left/\left<=1048576):spZ 334 [(false,[l9 a]),(false,[.i .i64 left])] [] (.one (false,[.i .i64 (szR left ((a.length+m7 a1b a):Nat))])):=by
 refine sy' Tryz.func334 (q' 4 [aK 0] (q' 6 [aM [1,0],aN,ao (.bin .sub (.t 6) (.t 8)),aV 1] (.seq (zc' 10) (.seq (q' 5 [aK 0] (.block 0 (.loop (.seq (q' 12 [aM [5,0],aN,ar 12 14] (.cond (.t 15) .skip (.exit 0))) (.seq (.block 1 (q' 18 [aM [0,5],aI 2,aE 2,am 1,ac 210 [21,22],aV 1] (zc' 24))) (g' 16 [aB 5])))))) (q' 26 [am 1,aV 4] .ret))))) [.t 4] [(210,[],a4f)] ?_;intro hb hE;simp only [go_sem];repeat' first|apply cj'|intro hc|exact om'|fail
 ·all_goals ((repeat (simp (disch:=omega) only [a0C] at *))<;>(try simp only [szR,szR] at *)<;>(first|omega|(split<;>omega)))
 have hw:=a0C (l:=left) (n:=a.length) (by omega) (by omega) (by omega) (by omega);rw [hw] at hc;refine lq' false [0] [] [] (fun i:{i:Nat // i<=a.length/\(a.length:Int)+(m7 a1b (a.take i):Nat)<=left}=>[(5,slV (.i .i64 i.1)),(1,slV (.i .i64 (left - a.length - (m7 a1b (a.take i.1):Nat))))]) nl' nl' (fun i=>a.length - i.1) (⟨0,by simp only [q0T,a3n];omega⟩) ?_;intro S0 hS0 i;obtain ⟨i,hi,ht⟩:=i;simp only [go_sem,hw,hS0];repeat' first|apply cj'|intro hc|exact om'|fail
 ·have h1:=m9 a1b (default:d7) (show i < a.length by omega);have h2:=z7 a1b a (i+1);all_goals ((repeat (simp (disch:=omega) only [a0C] at *))<;>(try simp only [szR,szR] at *)<;>(first|omega|(split<;>omega)))
 ·have h1:=m9 a1b (default:d7) (show i < a.length by omega)
  (refine lpK_n2 (⟨i+1,by omega,by unfold szR at hc;split at hc<;>omega⟩) _ rfl ?_;simp only [go_sem,hw,hS0]<;>repeat' first|apply V0|exact on'|fail)
  rw [h1];unfold szR at hc ⊢;split at hc<;>omega
 ·have h1:=a1x a1b (show ¬ i < a.length by omega);all_goals ((repeat (simp (disch:=omega) only [a0C] at *))<;>(try simp only [szR,szR] at *)<;>(first|omega|(split<;>omega)))
 all_goals all_goals ((repeat (simp (disch:=omega) only [a0C] at *))<;>(try simp only [szR,szR] at *)<;>(first|omega|(split<;>omega)))
def a6U:CT:=l8 (fun (x:(List d7)×Int) h=>b6F x.1 x.2 h)
@[go_sem] def d0o:=fun a x0=>nm' (fP' a6U rfl (a,x0))
def c5z (a:c9) (left:Int) (hpre:0<=left/\left<=1048576):spZ 277 [(true,[l9 a.V]),(false,[.i .i64 left])] [] (.one (false,[.i .i64 (szR left (a1w a:Nat))])):=by
 refine sy' Tryz.func277 (q' 2 [ao (.box 1 (.t 0)),az 4 0] (q' 5 [aG 0 2,am 1,ac 334 [6,7],aV 1] (.seq (zc' 9) (q' 11 [am 1,aV 4] .ret)))) [.t 4] [(334,[],a6U)] ?_;intro hb hE;simp only [go_sem];repeat' first|apply cj'|intro hc|exact om'|fail
 all_goals ((repeat (simp (disch:=omega) only [a0C] at *))<;>(try simp only [szR,a1w] at *)<;>(first|omega|(split<;>omega)))
def b1F:CT:=l8 (fun (x:c9×Int) h=>c5z x.1 x.2 h)
@[go_sem] def d6j:=fun x0 x1=>nm' (fP' b1F rfl (⟨x0⟩,x1))
def c2z (a:List c9) (left:Int) (hpre:0<=left/\left<=1048576):spZ 211 [(false,[y6 a]),(false,[.i .i64 left])] [] (.one (false,[.i .i64 (szR left ((a.length+m7 a1w a):Nat))])):=by
 refine sy' Tryz.func211 (q' 4 [aK 0] (q' 6 [aM [1,0],aN,ao (.bin .sub (.t 6) (.t 8)),aV 1] (.seq (zc' 10) (.seq (q' 5 [aK 0] (.block 0 (.loop (.seq (q' 12 [aM [5,0],aN,ar 12 14] (.cond (.t 15) .skip (.exit 0))) (.seq (.block 1 (q' 18 [aM [0,5],aI 1,aE 1,am 1,ac 277 [21,22],aV 1] (zc' 24))) (g' 16 [aB 5])))))) (q' 26 [am 1,aV 4] .ret))))) [.t 4] [(277,[],b1F)] ?_;intro hb hE;simp only [go_sem];repeat' first|apply cj'|intro hc|exact om'|fail
 ·all_goals ((repeat (simp (disch:=omega) only [a0C] at *))<;>(try simp only [szR,szR] at *)<;>(first|omega|(split<;>omega)))
 have hw:=a0C (l:=left) (n:=a.length) (by omega) (by omega) (by omega) (by omega);rw [hw] at hc;refine lq' false [0] [] [] (fun i:{i:Nat // i<=a.length/\(a.length:Int)+(m7 a1w (a.take i):Nat)<=left}=>[(5,slV (.i .i64 i.1)),(1,slV (.i .i64 (left - a.length - (m7 a1w (a.take i.1):Nat))))]) nl' nl' (fun i=>a.length - i.1) (⟨0,by simp only [q0T,a3n];omega⟩) ?_;intro S0 hS0 i;obtain ⟨i,hi,ht⟩:=i;simp only [go_sem,hw,hS0];repeat' first|apply cj'|intro hc|exact om'|fail
 ·have h1:=m9 a1w (default:c9) (show i < a.length by omega);have h2:=z7 a1w a (i+1);all_goals ((repeat (simp (disch:=omega) only [a0C] at *))<;>(try simp only [szR,szR] at *)<;>(first|omega|(split<;>omega)))
 ·have h1:=m9 a1w (default:c9) (show i < a.length by omega)
  (refine lpK_n2 (⟨i+1,by omega,by unfold szR at hc;split at hc<;>omega⟩) _ rfl ?_;simp only [go_sem,hw,hS0]<;>repeat' first|apply V0|exact on'|fail)
  rw [h1];unfold szR at hc ⊢;split at hc<;>omega
 ·have h1:=a1x a1w (show ¬ i < a.length by omega);all_goals ((repeat (simp (disch:=omega) only [a0C] at *))<;>(try simp only [szR,szR] at *)<;>(first|omega|(split<;>omega)))
 all_goals all_goals ((repeat (simp (disch:=omega) only [a0C] at *))<;>(try simp only [szR,szR] at *)<;>(first|omega|(split<;>omega)))
def a9B:CT:=l8 (fun (x:(List c9)×Int) h=>c2z x.1 x.2 h)
@[go_sem] def d4u:=fun a x0=>nm' (fP' a9B rfl (a,x0))
def c5y (a:f8) (left:Int) (hpre:0<=left/\left<=1048576):spZ 146 [(true,[.i .i64 a.Arity,y6 a.Rows]),(false,[.i .i64 left])] [] (.one (false,[.i .i64 (szR left (b4C a:Nat))])):=by
 refine sy' Tryz.func146 (q' 2 [ao (.box 2 (.t 0)),az 4 0] (q' 5 [aG 1 2,am 1,ac 211 [6,7],aV 1] (.seq (zc' 9) (q' 11 [am 1,aV 4] .ret)))) [.t 4] [(211,[],a9B)] ?_;intro hb hE;simp only [go_sem];repeat' first|apply cj'|intro hc|exact om'|fail
 all_goals ((repeat (simp (disch:=omega) only [a0C] at *))<;>(try simp only [szR,b4C] at *)<;>(first|omega|(split<;>omega)))
def b1E:CT:=l8 (fun (x:f8×Int) h=>c5y x.1 x.2 h)
@[go_sem] def d6i:=fun x0 x1 x2=>nm' (fP' b1E rfl (⟨x0,x1⟩,x2))
def b9T (a:d6) (left:Int) (hpre:0<=left/\left<=1048576):spZ 85 [(true,[.s a.Name,.i .i64 a.Rel.Arity,y6 a.Rel.Rows]),(false,[.i .i64 left])] [] (.one (false,[.i .i64 (szR left (a0o a:Nat))])):=by
 refine sy' Tryz.func85 (q' 2 [ao (.box 3 (.t 0)),az 4 0] (q' 5 [am 1,aG 0 2,ao (.lens (.t 7)),ao (.bin .sub (.t 5) (.t 8)),aV 1] (.seq (zc' 10) (q' 12 [af 1 2,aE 2,am 1,ac 146 [13,14],aV 1] (.seq (zc' 16) (q' 18 [am 1,aV 4] .ret)))))) [.t 4] [(146,[],b1E)] ?_;intro hb hE;simp only [go_sem];repeat' first|apply cj'|intro hc|exact om'|fail
 all_goals ((repeat (simp (disch:=omega) only [a0C] at *))<;>(try simp only [szR,a0o] at *)<;>(first|omega|(split<;>omega)))
def a8e:CT:=l8 (fun (x:d6×Int) h=>b9T x.1 x.2 h)
@[go_sem] def d2a:=fun x0 x1 x2 x3=>nm' (fP' a8e rfl (⟨x0,⟨x1,x2⟩⟩,x3))
def b6E (a:List d6) (left:Int) (hpre:0<=left/\left<=1048576):spZ 39 [(false,[j5 a]),(false,[.i .i64 left])] [] (.one (false,[.i .i64 (szR left ((a.length+m7 a0o a):Nat))])):=by
 refine sy' Tryz.func39 (q' 4 [aK 0] (q' 6 [aM [1,0],aN,ao (.bin .sub (.t 6) (.t 8)),aV 1] (.seq (zc' 10) (.seq (q' 5 [aK 0] (.block 0 (.loop (.seq (q' 12 [aM [5,0],aN,ar 12 14] (.cond (.t 15) .skip (.exit 0))) (.seq (.block 1 (q' 18 [aM [0,5],aI 3,aE 3,am 1,ac 85 [21,22],aV 1] (zc' 24))) (g' 16 [aB 5])))))) (q' 26 [am 1,aV 4] .ret))))) [.t 4] [(85,[],a8e)] ?_;intro hb hE;simp only [go_sem];repeat' first|apply cj'|intro hc|exact om'|fail
 ·all_goals ((repeat (simp (disch:=omega) only [a0C] at *))<;>(try simp only [szR,szR] at *)<;>(first|omega|(split<;>omega)))
 have hw:=a0C (l:=left) (n:=a.length) (by omega) (by omega) (by omega) (by omega);rw [hw] at hc;refine lq' false [0] [] [] (fun i:{i:Nat // i<=a.length/\(a.length:Int)+(m7 a0o (a.take i):Nat)<=left}=>[(5,slV (.i .i64 i.1)),(1,slV (.i .i64 (left - a.length - (m7 a0o (a.take i.1):Nat))))]) nl' nl' (fun i=>a.length - i.1) (⟨0,by simp only [q0T,a3n];omega⟩) ?_;intro S0 hS0 i;obtain ⟨i,hi,ht⟩:=i;simp only [go_sem,hw,hS0];repeat' first|apply cj'|intro hc|exact om'|fail
 ·have h1:=m9 a0o (default:d6) (show i < a.length by omega);have h2:=z7 a0o a (i+1);all_goals ((repeat (simp (disch:=omega) only [a0C] at *))<;>(try simp only [szR,szR] at *)<;>(first|omega|(split<;>omega)))
 ·have h1:=m9 a0o (default:d6) (show i < a.length by omega)
  (refine lpK_n2 (⟨i+1,by omega,by unfold szR at hc;split at hc<;>omega⟩) _ rfl ?_;simp only [go_sem,hw,hS0]<;>repeat' first|apply V0|exact on'|fail)
  rw [h1];unfold szR at hc ⊢;split at hc<;>omega
 ·have h1:=a1x a0o (show ¬ i < a.length by omega);all_goals ((repeat (simp (disch:=omega) only [a0C] at *))<;>(try simp only [szR,szR] at *)<;>(first|omega|(split<;>omega)))
 all_goals all_goals ((repeat (simp (disch:=omega) only [a0C] at *))<;>(try simp only [szR,szR] at *)<;>(first|omega|(split<;>omega)))
def a6T:CT:=l8 (fun (x:(List d6)×Int) h=>b6E x.1 x.2 h)
@[go_sem] def d0n:=fun a x0=>nm' (fP' a6T rfl (a,x0))
def b9V (a:c8) (left:Int) (hpre:0<=left/\left<=1048576):spZ 9 [(true,[j5 a.Rels]),(false,[.i .i64 left])] [] (.one (false,[.i .i64 (szR left (a6j a:Nat))])):=by
 refine sy' Tryz.func9 (q' 2 [ao (.box 1 (.t 0)),az 4 0] (q' 5 [aG 0 2,am 1,ac 39 [6,7],aV 1] (.seq (zc' 9) (q' 11 [am 1,aV 4] .ret)))) [.t 4] [(39,[],a6T)] ?_;intro hb hE;simp only [go_sem];repeat' first|apply cj'|intro hc|exact om'|fail
 all_goals ((repeat (simp (disch:=omega) only [a0C] at *))<;>(try simp only [szR,a6j] at *)<;>(first|omega|(split<;>omega)))
def a8g:CT:=l8 (fun (x:c8×Int) h=>b9V x.1 x.2 h)
@[go_sem] def d2c:=fun x0 x1=>nm' (fP' a8g rfl (⟨x0⟩,x1))
def b6H (a:List d7) (hpre:(((a.length+m7 a1b a):Nat):Int)<=1048576):spZ 336 [(false,[l9 a])] [] (.one (false,[a4M a])):=by
 refine sx' true false none Tryz.func336 (q' 2 [ao (.mov (.k (.v false [.nl k9])))] (q' 5 [am 0,aN,ao (.mks 2 24 [.i .i64,.s] (.t 6) (.t 6)),aV 3] (.seq (q' 4 [aK 0] (.block 0 (.loop (.seq (q' 8 [aM [4,0],aN,ar 8 10] (.cond (.t 11) .skip (.exit 0))) (.seq (.block 1 (g' 14 [aM [3,4,0,4],aI 2,aE 2,ac 224 [19],ai 2 14 15,aS 2 21 20])) (g' 12 [aB 4])))))) (q' 22 [am 3,aV 2] .ret)))) [.t 2] [(224,[],a4g)] ?_;intro hb hE;simp only [go_sem,a9Y];repeat' first|apply cj'|intro hc|exact om'|fail
 refine lq' true [0,3] [] [] (fun i:{p:Nat×(List d7) // p.1<=a.length/\p.2.length=a.length/\p.2.take p.1=a.take p.1}=>[(4,slV (.i .i64 i.1.1))]) nl' (fun i=>[(896,k9,i.1.2.map d7.cells)]) (fun i=>a.length - i.1.1) (⟨(0,List.replicate a.length default),by simp⟩) ?_;intro S0 hS0 i;obtain ⟨⟨i,L⟩,hi,hl,ht⟩:=i;simp only at hi hl ht;simp only [go_sem,a9Y,hS0];repeat' first|apply cj'|intro hc|exact om'|fail
 ·(refine lpK_n2 (⟨(i+1,L.set i (a.getD i default)),by simp only;omega,by simp [hl],z5 hl ht (by omega)⟩) _ rfl ?_;simp only [go_sem,a9Y,hS0]<;>repeat' first|apply V0|exact on'|fail)
 ·obtain rfl:=u7 hl ht (by omega);rfl
def a6W:CT:=l8 (fun (x:(List d7)) h=>b6H x h)
@[go_sem] def d0q:=fun a=>nm' (fP' a6W rfl a)
def c5C (a:c9) (hpre:(a1w a:Int)<=1048576):spZ 283 [(true,[l9 a.V])] [] (.one (true,[a4M a.V])):=by
 refine sx' true false none Tryz.func283 (q' 1 [ao (.box 1 (.t 0)),aw [.sl k9]] (q' 3 [aw [.sl k9]] (q' 4 [aG 0 1,ac 336 [5],af 0 3,aS 1 7 6] (q' 8 [ae 1 3,aS 1 2 8] .ret)))) [.c 2 true 1] [(336,[],a6W)] ?_;intro hb hE;simp only [go_sem];repeat' first|apply cj'|intro hc|exact om'|fail
 all_goals (simp only [a1w] at *;omega)
def b1I:CT:=l8 (fun (x:c9) h=>c5C x h)
@[go_sem] def d6m:=fun x0=>nm' (fP' b1I rfl ⟨x0⟩)
def c2F (a:List c9) (hpre:(((a.length+m7 a1w a):Nat):Int)<=1048576):spZ 225 [(false,[y6 a])] [] (.one (false,[b5c a])):=by
 refine sx' true false none Tryz.func225 (q' 2 [ao (.mov (.k (.v false [.nl n0])))] (q' 5 [am 0,aN,ao (.mks 1 24 [.sl k9] (.t 6) (.t 6)),aV 3] (.seq (q' 4 [aK 0] (.block 0 (.loop (.seq (q' 8 [aM [4,0],aN,ar 8 10] (.cond (.t 11) .skip (.exit 0))) (.seq (.block 1 (g' 14 [aM [3,4,0,4],aI 1,aE 1,ac 283 [19],ai 1 14 15,aS 1 21 20])) (g' 12 [aB 4])))))) (q' 22 [am 3,aV 2] .ret)))) [.t 2] [(283,[],b1I)] ?_;intro hb hE;simp only [go_sem,b7w];repeat' first|apply cj'|intro hc|exact om'|fail
 refine lq' true [0,3] [] [] (fun i:{p:Nat×(List c9) // p.1<=a.length/\p.2.length=a.length/\p.2.take p.1=a.take p.1}=>[(4,slV (.i .i64 i.1.1))]) nl' (fun i=>[(896,c1c,i.1.2.map (c9.cells true true))]) (fun i=>a.length - i.1.1) (⟨(0,List.replicate a.length default),by simp⟩) ?_;intro S0 hS0 i;obtain ⟨⟨i,L⟩,hi,hl,ht⟩:=i;simp only at hi hl ht;have hg:=a9c a1w a i default rfl;simp only [go_sem,b7w,hS0];repeat' first|apply cj'|intro hc|exact om'|fail
 ·(refine lpK_n2 (⟨(i+1,L.set i (a.getD i default)),by simp only;omega,by simp [hl],z5 hl ht (by omega)⟩) _ rfl ?_;simp only [go_sem,b7w,hS0]<;>repeat' first|apply V0|exact on'|fail)
 ·obtain rfl:=u7 hl ht (by omega);rfl
def a9F:CT:=l8 (fun (x:(List c9)) h=>c2F x h)
@[go_sem] def d4A:=fun a=>nm' (fP' a9F rfl a)
def c5B (a:f8) (hpre:(b4C a:Int)<=1048576):spZ 164 [(true,[.i .i64 a.Arity,y6 a.Rows])] [] (.one (true,[.i .i64 a.Arity,b5c a.Rows])):=by
 refine sx' true false none Tryz.func164 (q' 1 [ao (.box 2 (.t 0)),aw [.i .i64,.sl n0]] (q' 3 [aw [.i .i64,.sl n0]] (q' 4 [aG 0 1,af 0 3,aS 1 6 5] (q' 7 [aG 1 1,ac 225 [8],af 1 3,aS 1 10 9] (q' 11 [ae 2 3,aS 2 2 11] .ret))))) [.c 2 true 2] [(225,[],a9F)] ?_;intro hb hE;simp only [go_sem];repeat' first|apply cj'|intro hc|exact om'|fail
 all_goals (simp only [b4C] at *;omega)
def b1H:CT:=l8 (fun (x:f8) h=>c5B x h)
@[go_sem] def d6l:=fun x0 x1=>nm' (fP' b1H rfl ⟨x0,x1⟩)
def b9Z (a:d6) (hpre:(a0o a:Int)<=1048576):spZ 94 [(true,[.s a.Name,.i .i64 a.Rel.Arity,y6 a.Rel.Rows])] [] (.one (true,[.s a.Name,.i .i64 a.Rel.Arity,b5c a.Rel.Rows])):=by
 refine sx' true false none Tryz.func94 (q' 1 [ao (.box 3 (.t 0)),aw [.s,.i .i64,.sl n0]] (q' 3 [aw [.s,.i .i64,.sl n0]] (q' 4 [aG 0 1,af 0 3,aS 1 6 5] (q' 7 [af 1 1,aE 2,ac 164 [8],af 1 3,aS 2 10 9] (q' 11 [ae 3 3,aS 3 2 11] .ret))))) [.c 2 true 3] [(164,[],b1H)] ?_;intro hb hE;simp only [go_sem];repeat' first|apply cj'|intro hc|exact om'|fail
 all_goals (simp only [a0o] at *;omega)
def a8j:CT:=l8 (fun (x:d6) h=>b9Z x h)
@[go_sem] def d2g:=fun x0 x1 x2=>nm' (fP' a8j rfl ⟨x0,⟨x1,x2⟩⟩)
def b6G (a:List d6) (hpre:(((a.length+m7 a0o a):Nat):Int)<=1048576):spZ 44 [(false,[j5 a])] [] (.one (false,[a8O a])):=by
 refine sx' true false none Tryz.func44 (q' 2 [ao (.mov (.k (.v false [.nl l4])))] (q' 5 [am 0,aN,ao (.mks 3 48 [.s,.i .i64,.sl n0] (.t 6) (.t 6)),aV 3] (.seq (q' 4 [aK 0] (.block 0 (.loop (.seq (q' 8 [aM [4,0],aN,ar 8 10] (.cond (.t 11) .skip (.exit 0))) (.seq (.block 1 (g' 14 [aM [3,4,0,4],aI 3,aE 3,ac 94 [19],ai 3 14 15,aS 3 21 20])) (g' 12 [aB 4])))))) (q' 22 [am 3,aV 2] .ret)))) [.t 2] [(94,[],a8j)] ?_;intro hb hE;simp only [go_sem,a9W];repeat' first|apply cj'|intro hc|exact om'|fail
 refine lq' true [0,3] [] [] (fun i:{p:Nat×(List d6) // p.1<=a.length/\p.2.length=a.length/\p.2.take p.1=a.take p.1}=>[(4,slV (.i .i64 i.1.1))]) nl' (fun i=>[(896,b2K,i.1.2.map (d6.cells true true))]) (fun i=>a.length - i.1.1) (⟨(0,List.replicate a.length default),by simp⟩) ?_;intro S0 hS0 i;obtain ⟨⟨i,L⟩,hi,hl,ht⟩:=i;simp only at hi hl ht;have hg:=a9c a0o a i default rfl;simp only [go_sem,a9W,hS0];repeat' first|apply cj'|intro hc|exact om'|fail
 ·(refine lpK_n2 (⟨(i+1,L.set i (a.getD i default)),by simp only;omega,by simp [hl],z5 hl ht (by omega)⟩) _ rfl ?_;simp only [go_sem,a9W,hS0]<;>repeat' first|apply V0|exact on'|fail)
 ·obtain rfl:=u7 hl ht (by omega);rfl
def a6V:CT:=l8 (fun (x:(List d6)) h=>b6G x h)
@[go_sem] def d0p:=fun a=>nm' (fP' a6V rfl a)
def c0b (a:c8) (hpre:(a6j a:Int)<=1048576):spZ 12 [(true,[j5 a.Rels])] [] (.one (true,[a8O a.Rels])):=by
 refine sx' true false none Tryz.func12 (q' 1 [ao (.box 1 (.t 0)),aw [.sl l4]] (q' 3 [aw [.sl l4]] (q' 4 [aG 0 1,ac 44 [5],af 0 3,aS 1 7 6] (q' 8 [ae 1 3,aS 1 2 8] .ret)))) [.c 2 true 1] [(44,[],a6V)] ?_;intro hb hE;simp only [go_sem];repeat' first|apply cj'|intro hc|exact om'|fail
 all_goals (simp only [a6j] at *;omega)
def a8l:CT:=l8 (fun (x:c8) h=>c0b x h)
@[go_sem] def d2i:=fun x0=>nm' (fP' a8l rfl ⟨x0⟩)
def c2t (a:List c9) (b:List c9):spZ 49 [(false,[y6 a]),(false,[y6 b])] [] (.one (false,[.b (decide (a=b))])):=by
 refine sy' Tryz.func49 (q' 0 [ab 4 false] (.seq (q' 6 [am 0,aN,am 1,aN,ao (.bin .neq (.t 7) (.t 9))] (.cond (.t 10) (q' 0 [ab 4 false] .ret) .skip)) (.seq (q' 5 [aK 0] (.block 0 (.loop (.seq (q' 11 [aM [5,0],aN,ar 11 13] (.cond (.t 14) .skip (.exit 0))) (.seq (.block 1 (.seq (G' 17 [aM [0,5],aI 1,aE 1,aM [1,5],aI 1,aE 1,ac 109 [20,24],ao (.not (.t 25))]) (.cond (.t 26) (q' 0 [ab 4 false] .ret) .skip))) (g' 15 [aB 5])))))) (q' 0 [ab 4 true] .ret)))) [.t 4] [(109,[],b1C)] ?_;intro hb hE;simp only [go_sem];repeat' first|apply cj'|intro hc|exact om'|fail
 ·symm;rw [q1M];rintro rfl;simp at hc
 have hl:a.length=b.length:=by simpa [q3E] using hc
 refine lq' false [0,1] [] [] (fun i:{i:Nat // i<=a.length/\a.take i=b.take i}=>[(5,slV (.i .i64 i.1))]) nl' nl' (fun i=>a.length - i.1) (⟨0,by simp⟩) ?_;intro S0 hS0 i;obtain ⟨i,hi,ht⟩:=i;simp only [go_sem,hS0];repeat' first|apply cj'|intro hc|exact om'|fail
 ·exact (V6 (a1s default (i:=i) (by simpa using hc))).symm
 ·exact nx0 ⟨i+1,by omega,a0I ht (by omega) (by omega) (d:=default) (by simpa using hc)⟩
 ·exact (V4 (u7 hl ht (by omega))).symm
def a9x:CT:=k6 (fun (x:(List c9)×(List c9))=>c2t x.1 x.2)
@[go_sem] def d4o:=fun a b=>nm' (fQ' a9x rfl (a,b))
def c5v (a:f8) (b:f8):spZ 14 [(true,[.i .i64 a.Arity,y6 a.Rows]),(true,[.i .i64 b.Arity,y6 b.Rows])] [] (.one (false,[.b (decide (a=b))])):=by
 refine sy' Tryz.func14 (q' 2 [ao (.box 2 (.t 0)),ao (.box 2 (.t 1)),ao (.mov (bb false))] (.seq (q' 5 [aG 0 2,aG 0 3,ao (.bin .neq (.t 6) (.t 8))] (.cond (.t 9) (q' 0 [ab 4 false] .ret) .skip)) (.seq (q' 10 [aG 1 2,aG 1 3,ac 49 [11,13],ao (.not (.t 14))] (.cond (.t 15) (q' 0 [ab 4 false] .ret) .skip)) (q' 0 [ab 4 true] .ret)))) [.t 4] [(49,[],a9x)] ?_;intro hb hE;simp only [go_sem];repeat' first|apply cj'|intro hc|exact om'|fail
 all_goals (cases a;cases b;simp_all)
def b1B:CT:=k6 (fun (x:f8×f8)=>c5v x.1 x.2)
@[go_sem] def d6f:=fun x0 x1 x2 x3=>nm' (fQ' b1B rfl (⟨x0,x1⟩,⟨x2,x3⟩))
def b9N (a:d6) (b:d6):spZ 112 [(true,[.s a.Name,.i .i64 a.Rel.Arity,y6 a.Rel.Rows]),(true,[.s b.Name,.i .i64 b.Rel.Arity,y6 b.Rel.Rows])] [] (.one (false,[.b (decide (a=b))])):=by
 refine sy' Tryz.func112 (q' 2 [ao (.box 3 (.t 0)),ao (.box 3 (.t 1)),ao (.mov (bb false))] (.seq (q' 5 [aG 0 2,aG 0 3,ao (.bin .neq (.t 6) (.t 8))] (.cond (.t 9) (q' 0 [ab 4 false] .ret) .skip)) (.seq (q' 10 [af 1 2,aE 2,af 1 3,aE 2,ac 14 [11,13],ao (.not (.t 14))] (.cond (.t 15) (q' 0 [ab 4 false] .ret) .skip)) (q' 0 [ab 4 true] .ret)))) [.t 4] [(14,[],b1B)] ?_;intro hb hE;simp only [go_sem];repeat' first|apply cj'|intro hc|exact om'|fail
 all_goals (cases a;cases b;simp_all)
def a7Z:CT:=k6 (fun (x:d6×d6)=>b9N x.1 x.2)
@[go_sem] def d1U:=fun x0 x1 x2 x3 x4 x5=>nm' (fQ' a7Z rfl (⟨x0,⟨x1,x2⟩⟩,⟨x3,⟨x4,x5⟩⟩))
def b6x (a:List d6) (b:List d6):spZ 52 [(false,[j5 a]),(false,[j5 b])] [] (.one (false,[.b (decide (a=b))])):=by
 refine sy' Tryz.func52 (q' 0 [ab 4 false] (.seq (q' 6 [am 0,aN,am 1,aN,ao (.bin .neq (.t 7) (.t 9))] (.cond (.t 10) (q' 0 [ab 4 false] .ret) .skip)) (.seq (q' 5 [aK 0] (.block 0 (.loop (.seq (q' 11 [aM [5,0],aN,ar 11 13] (.cond (.t 14) .skip (.exit 0))) (.seq (.block 1 (.seq (G' 17 [aM [0,5],aI 3,aE 3,aM [1,5],aI 3,aE 3,ac 112 [20,24],ao (.not (.t 25))]) (.cond (.t 26) (q' 0 [ab 4 false] .ret) .skip))) (g' 15 [aB 5])))))) (q' 0 [ab 4 true] .ret)))) [.t 4] [(112,[],a7Z)] ?_;intro hb hE;simp only [go_sem];repeat' first|apply cj'|intro hc|exact om'|fail
 ·symm;rw [q1M];rintro rfl;simp at hc
 have hl:a.length=b.length:=by simpa [q3E] using hc
 refine lq' false [0,1] [] [] (fun i:{i:Nat // i<=a.length/\a.take i=b.take i}=>[(5,slV (.i .i64 i.1))]) nl' nl' (fun i=>a.length - i.1) (⟨0,by simp⟩) ?_;intro S0 hS0 i;obtain ⟨i,hi,ht⟩:=i;simp only [go_sem,hS0];repeat' first|apply cj'|intro hc|exact om'|fail
 ·exact (V6 (a1s default (i:=i) (by simpa using hc))).symm
 ·exact nx0 ⟨i+1,by omega,a0I ht (by omega) (by omega) (d:=default) (by simpa using hc)⟩
 ·exact (V4 (u7 hl ht (by omega))).symm
def a6N:CT:=k6 (fun (x:(List d6)×(List d6))=>b6x x.1 x.2)
@[go_sem] def d0g:=fun a b=>nm' (fQ' a6N rfl (a,b))
def b9P (a:c8) (b:c8):spZ 16 [(true,[j5 a.Rels]),(true,[j5 b.Rels])] [] (.one (false,[.b (decide (a=b))])):=by
 refine sy' Tryz.func16 (q' 2 [ao (.box 1 (.t 0)),ao (.box 1 (.t 1)),ao (.mov (bb false))] (.seq (q' 5 [aG 0 2,aG 0 3,ac 52 [6,8],ao (.not (.t 9))] (.cond (.t 10) (q' 0 [ab 4 false] .ret) .skip)) (q' 0 [ab 4 true] .ret))) [.t 4] [(52,[],a6N)] ?_;intro hb hE;simp only [go_sem];repeat' first|apply cj'|intro hc|exact om'|fail
 all_goals (cases a;cases b;simp_all)
def a8b:CT:=k6 (fun (x:c8×c8)=>b9P x.1 x.2)
@[go_sem] def d1W:=fun x0 x1=>nm' (fQ' a8b rfl (⟨x0⟩,⟨x1⟩))
def digN (n:Nat) (acc:List UInt8):List UInt8:=if h:n=0 then acc else digN (n / 10) (UInt8.ofNat (48+n % 10)::acc)
termination_by n
decreasing_by omega
def a4O (k:Int):List UInt8:=if k<=0 then [109,48] else 109::digN k.toNat []
def b6D (k:Int) (hpre:k<=4611686018427387904):spZ 114 [(false,[.i .i64 k])] [] (.one (false,[.s (a4O k)])):=by
 refine sy' Tryz.func114 (q' 2 [ao (.mov (.k (.v false [.c (.s [])])))] (.seq (q' 4 [am 0,ao (.bin .leq (.t 4) (k' 0))] (.cond (.t 5) (q' 2 [ao (.mov (.k (.v false [.c (.s [109, 48])])))] .ret) .skip)) (q' 3 [ao (.mov (.k (.v false [.c (.s [])])))] (.seq (.block 0 (.loop (.seq (q' 6 [am 0,ao (.bin .gtr (.t 6) (k' 0))] (.cond (.t 7) .skip (.exit 0))) (.block 1 (q' 8 [am 0,ao (.bin .rem (.t 8) (k' 10)),ao (.bin .add (k' 48) (.t 9)),ao (.cv .u8 (.t 10)),ao (.bsl 1 1 [.i .u8] [(0,.t 11)]),ao (.bs2s (.t 12)),am 3,ao (.bin .add (.t 13) (.t 14)),aV 3] (g' 16 [am 0,ao (.bin .quo (.t 16) (k' 10)),aV 0])))))) (q' 18 [am 3,ao (.bin .add (.k (.v false [.c (.s [109])])) (.t 18)),aV 2] .ret))))) [.t 2] [] ?_;intro hb hE;simp only [go_sem];repeat' first|apply cj'|intro hc|exact om'|fail
 ·rw [a4O,if_pos hc]
 have hk:=hc;refine lq' false [] [] [] (fun i:{p:Nat×List UInt8 // digN p.1 p.2=digN k.toNat []/\p.2.length+p.1<=k.toNat}=>[(0,slV (.i .i64 i.1.1)),(3,slV (.s i.1.2))]) nl' nl' (fun i=>i.1.1) (⟨(k.toNat,[]),by simp⟩) ?_;intro S0 hS0 i;obtain ⟨⟨n,acc⟩,hd,hl⟩:=i;simp only at hd hl;have hq:IntKind.i64.wrap ((n:Int).tdiv 10)=((n / 10:Nat):Int):=by rw [IntWalk.i64_quo _ _ (by omega)];omega
 have hr:(IntKind.u8.wrap (IntKind.i64.wrap (48+(n:Int).tmod 10))).toNat=48+n % 10:=by
  have e:(n:Int).tmod 10=((n % 10:Nat):Int):=by rw [Int.tmod_eq_emod_of_nonneg (by omega)];omega
  rw [e,IntWalk.i64_in _ (by omega),IntWalk.u8_in _ (by omega)];omega
 simp only [go_sem,hq,hr];repeat' first|apply cj'|intro hc|exact om'|fail
 ·have hn:n≠0:=by omega
  (refine lpK_n2 (⟨(n / 10,UInt8.ofNat (48+n % 10)::acc),by rw [<- hd];conv=>rhs;rw [digN];rw [dif_neg hn],by simp only [V8];omega⟩) _ rfl ?_;simp only [go_sem,hq,hr]<;>repeat' first|apply V0|exact on'|fail)
 ·have hn:n=0:=by omega
  subst hn;rw [a4O,if_neg hk,<- hd,digN];rfl
def a0r:CT:=l8 (fun (x:Int) h=>b6D x h)
@[go_sem] def d0m:=fun k=>nm' (fP' a0r rfl k)
def b0B (k:Int):d7:=(d7.mk k (a4O (k+1)))
def a1Q (n:Nat) (k:Int):List d7:=(List.range n).map fun i:Nat=>b0B (k+2 * (i:Int))
def a2o (n:Nat) (k:Int):(a1Q n k).length=n:=by simp [a1Q]
def b7d (n:Nat) (k:Int) {i:Nat} (h:i < n):(a1Q n k).getD i default=b0B (k+2 * (i:Int)):=by
 rw [W7,a1Q,q3M,q5L h];rfl
def b4x (k:Int):d8:=(d8.mk (a4O k) (d7.mk (k+1) (a4O (k+2))))
def a1Z (n:Nat) (k:Int):List d8:=(List.range n).map fun i:Nat=>b4x (k+3 * (i:Int))
def a2X (n:Nat) (k:Int):(a1Z n k).length=n:=by simp [a1Z]
def c0x (n:Nat) (k:Int) {i:Nat} (h:i < n):(a1Z n k).getD i default=b4x (k+3 * (i:Int)):=by
 rw [W7,a1Z,q3M,q5L h];rfl
def b2m (a:List d7) (k:Int) (hpre:0<=k/\k+2 * (a.length:Nat)<=4611686018427387904):spZ 115 [(false,[a4M a]),(false,[.i .i64 k])] [(0,(false,[a4M (a1Q a.length k)]))] (.one (false,[.i .i64 (k+2 * (a.length:Nat))])):=by
 refine sx' true false (some 0) Tryz.func115 (q' 4 [aK 0] (.seq (q' 5 [aK 0] (.block 0 (.loop (.seq (q' 6 [aM [5,0],aN,ar 6 8] (.cond (.t 9) .skip (.exit 0))) (.seq (.block 1 (q' 12 [aM [0,5,1],ai 2 12 13,aF 0,aS 1 16 14] (q' 17 [aB 1] (q' 19 [aM [0,5,1],ac 114 [21],ai 2 19 20,aF 1,aS 1 24 22] (g' 25 [aB 1]))))) (g' 10 [aB 5])))))) (q' 27 [am 1,aV 4] .ret))) [.t 4] [(114,[],a0r)] ?_;intro hb hE;simp only [go_sem];repeat' first|apply cj'|intro hc|exact om'|fail
 refine lq' true [0] [] [] (fun i:{p:Nat×(List d7) // p.1<=a.length/\p.2.length=a.length/\p.2.take p.1=(a1Q a.length k).take p.1}=>[(5,slV (.i .i64 i.1.1)),(1,slV (.i .i64 (k+2 * (i.1.1:Int))))]) nl' (fun i=>[(1,k9,i.1.2.map d7.cells)]) (fun i=>a.length - i.1.1) (⟨(0,a),by simp⟩) ?_;intro S0 hS0 i;obtain ⟨⟨i,L⟩,hi,hl,ht⟩:=i;simp only at hi hl ht;by_cases hil:(i:Int) < L.length
 ·have hgs:∀ x,(L.set i x).getD i default=x:=fun x=>by rw [W7,q1F (by omega)];rfl
  have hss:∀ x y,(L.set i x).set i y=L.set i y:=fun x y=>q3C ..
  have hw0:IntKind.i64.wrap (k+2 * (i:Int)+1)=k+2 * (i:Int)+1:=w64 (by omega) (by omega) (by omega);have hw1:IntKind.i64.wrap (k+2 * (i:Int)+1+1)=k+2 * (i:Int)+2:=w64 (by omega) (by omega) (by omega);simp only [go_sem,hS0,hgs,hss,hil,hw0,hw1];repeat' first|apply cj'|intro hc|exact om'|fail
  (refine lpK_n2 (⟨(i+1,L.set i (b0B (k+2 * (i:Int)))),by simp only;omega,by simp [hl],by rw [<- b7d a.length k (show i < a.length by omega)];exact z5 (by rw [hl,a2o]) ht (by rw [a2o];omega)⟩) _ rfl ?_;simp only [go_sem,hS0,hgs,hss,hil,hw0,hw1]<;>repeat' first|apply V0|exact on'|fail)
  ·exact (hc trivial).elim
 ·simp only [go_sem,hS0,hil];repeat' first|apply cj'|intro hc|exact om'|fail
  obtain rfl:i=a.length:=by omega
  obtain rfl:=u7 (by rw [hl,a2o]) ht (by rw [a2o];omega);exact ⟨rfl,rfl⟩
def a4I:CT:=l8 (fun (x:(List d7)×Int) h=>b2m x.1 x.2 h)
@[go_sem] def c6V:=fun a k=>nm' (fP' a4I rfl (a,k))
def b4c (a:List d8) (k:Int) (hpre:0<=k/\k+3 * (a.length:Nat)<=4611686018427387904):spZ 113 [(false,[b3S a]),(false,[.i .i64 k])] [(0,(false,[b3S (a1Z a.length k)]))] (.one (false,[.i .i64 (k+3 * (a.length:Nat))])):=by
 refine sx' true false (some 0) Tryz.func113 (q' 4 [aK 0] (.seq (q' 5 [aK 0] (.block 0 (.loop (.seq (q' 6 [aM [5,0],aN,ar 6 8] (.cond (.t 9) .skip (.exit 0))) (.seq (.block 1 (q' 12 [aM [0,5,1],ac 114 [14],ai 3 12 13,aF 0,aS 1 17 15] (q' 18 [aB 1] (q' 20 [aM [0,5,1],ai 3 20 21,aF 1,aF 0,aS 1 25 22] (q' 26 [aB 1] (q' 28 [aM [0,5,1],ac 114 [30],ai 3 28 29,aF 1,aF 1,aS 1 34 31] (g' 35 [aB 1]))))))) (g' 10 [aB 5])))))) (q' 37 [am 1,aV 4] .ret))) [.t 4] [(114,[],a0r)] ?_;intro hb hE;simp only [go_sem];repeat' first|apply cj'|intro hc|exact om'|fail
 refine lq' true [0] [] [] (fun i:{p:Nat×(List d8) // p.1<=a.length/\p.2.length=a.length/\p.2.take p.1=(a1Z a.length k).take p.1}=>[(5,slV (.i .i64 i.1.1)),(1,slV (.i .i64 (k+3 * (i.1.1:Int))))]) nl' (fun i=>[(1,j6,i.1.2.map d8.cells)]) (fun i=>a.length - i.1.1) (⟨(0,a),by simp⟩) ?_;intro S0 hS0 i;obtain ⟨⟨i,L⟩,hi,hl,ht⟩:=i;simp only at hi hl ht;by_cases hil:(i:Int) < L.length
 ·have hgs:∀ x,(L.set i x).getD i default=x:=fun x=>by rw [W7,q1F (by omega)];rfl
  have hss:∀ x y,(L.set i x).set i y=L.set i y:=fun x y=>q3C ..
  have hw0:IntKind.i64.wrap (k+3 * (i:Int)+1)=k+3 * (i:Int)+1:=w64 (by omega) (by omega) (by omega);have hw1:IntKind.i64.wrap (k+3 * (i:Int)+1+1)=k+3 * (i:Int)+2:=w64 (by omega) (by omega) (by omega);have hw2:IntKind.i64.wrap (k+3 * (i:Int)+2+1)=k+3 * (i:Int)+3:=w64 (by omega) (by omega) (by omega);simp only [go_sem,hS0,hgs,hss,hil,hw0,hw1,hw2];repeat' first|apply cj'|intro hc|exact om'|fail
  (refine lpK_n2 (⟨(i+1,L.set i (b4x (k+3 * (i:Int)))),by simp only;omega,by simp [hl],by rw [<- c0x a.length k (show i < a.length by omega)];exact z5 (by rw [hl,a2X]) ht (by rw [a2X];omega)⟩) _ rfl ?_;simp only [go_sem,hS0,hgs,hss,hil,hw0,hw1,hw2]<;>repeat' first|apply V0|exact on'|fail)
  ·exact (hc trivial).elim
 ·simp only [go_sem,hS0,hil];repeat' first|apply cj'|intro hc|exact om'|fail
  obtain rfl:i=a.length:=by omega
  obtain rfl:=u7 (by rw [hl,a2X]) ht (by rw [a2X];omega);exact ⟨rfl,rfl⟩
def a2y:CT:=l8 (fun (x:(List d8)×Int) h=>b4c x.1 x.2 h)
@[go_sem] def c8R:=fun a k=>nm' (fP' a2y rfl (a,k))
set_option maxHeartbeats 4000000
def v7 (x:e7):Nat:=9+3 * x.Atom.Args.length
def a4s (x:e7) (k:Int):e7:=e7.mk k (f9.mk (a4O (k+1)) (a1Z x.Atom.Args.length (k+2))) ((k+2)+3 * (x.Atom.Args.length:Nat)) (d8.mk (a4O (((k+2)+3 * (x.Atom.Args.length:Nat))+1)) (d7.mk (((k+2)+3 * (x.Atom.Args.length:Nat))+2) (a4O (((k+2)+3 * (x.Atom.Args.length:Nat))+3)))) (d8.mk (a4O (((k+2)+3 * (x.Atom.Args.length:Nat))+4)) (d7.mk (((k+2)+3 * (x.Atom.Args.length:Nat))+5) (a4O (((k+2)+3 * (x.Atom.Args.length:Nat))+6))))
def b6B (a:List e7) (k:Int) (hpre:0<=k/\k+(m7 v7 a:Nat)<=4611686018427387904):spZ 54 [(false,[d2K a]),(false,[.i .i64 k])] [(0,(false,[d2K (mkL a4s v7 a k)]))] (.one (false,[.i .i64 (k+(m7 v7 a:Nat))])):=by
 refine sx' true false (some 0) Tryz.func54 (q' 4 [aK 0] (.seq (q' 5 [aK 0] (.block 0 (.loop (.seq (q' 6 [aM [5,0],aN,ar 6 8] (.cond (.t 9) .skip (.exit 0))) (.seq (.block 1 (q' 12 [aM [0,5,1],ai 10 12 13,aF 0,aS 1 16 14] (q' 17 [aB 1] (q' 19 [aM [0,5,1],ac 114 [21],ai 10 19 20,aF 1,aF 0,aS 1 25 22] (q' 26 [aB 1] (q' 28 [aM [0,5],aI 10,aF 1,aG 1 31,am 1,ac 113 [33,34],aV 1] (q' 36 [aM [0,5,1],ai 10 36 37,aF 3,aS 1 40 38] (q' 41 [aB 1] (q' 43 [aM [0,5,1],ac 114 [45],ai 10 43 44,aF 4,aF 0,aS 1 49 46] (q' 50 [aB 1] (q' 52 [aM [0,5,1],ai 10 52 53,aF 4,aF 1,aF 0,aS 1 58 54] (q' 59 [aB 1] (q' 61 [aM [0,5,1],ac 114 [63],ai 10 61 62,aF 4,aF 1,aF 1,aS 1 68 64] (q' 69 [aB 1] (q' 71 [aM [0,5,1],ac 114 [73],ai 10 71 72,aF 7,aF 0,aS 1 77 74] (q' 78 [aB 1] (q' 80 [aM [0,5,1],ai 10 80 81,aF 7,aF 1,aF 0,aS 1 86 82] (q' 87 [aB 1] (q' 89 [aM [0,5,1],ac 114 [91],ai 10 89 90,aF 7,aF 1,aF 1,aS 1 96 92] (g' 97 [aB 1])))))))))))))))))))) (g' 10 [aB 5])))))) (q' 99 [am 1,aV 4] .ret))) [.t 4] [(114,[],a0r),(113,[0],a2y)] ?_;intro hb hE;simp only [go_sem];repeat' first|apply cj'|intro hc|exact om'|fail
 refine lq' true [0] [] [] (fun i:{p:Nat×List e7 // p.1<=a.length/\p.2=mkL a4s v7 (a.take p.1) k++a.drop p.1}=>[(5,slV (.i .i64 i.1.1)),(1,slV (.i .i64 (k+(m7 v7 (a.take i.1.1):Nat))))]) nl' (fun i=>[(1,c8H,i.1.2.map (e7.cells true true))]) (fun i=>a.length - i.1.1) (⟨(0,a),by simp [mkL]⟩) ?_;intro S0 hS0 i;obtain ⟨⟨i,L⟩,hi,hL⟩:=i;simp only at hi hL;have hl:L.length=a.length:=by rw [hL];exact b7m a4s v7 a k i
 by_cases hil:(i:Int) < L.length
 ·have hgs:∀ x,(L.set i x).getD i default=x:=fun x=>by rw [W7,q1F (by omega)];rfl
  have hss:∀ x y,(L.set i x).set i y=L.set i y:=fun x y=>q3C ..
  have hg2:∀ x,((L.map (e7.cells true true)).set i x).getD i c8H=x:=fun x=>by rw [W7,q1F (by rw [q0G];omega)];rfl
  have hs2:∀ x z,((L.map (e7.cells true true)).set i x).set i z=(L.map (e7.cells true true)).set i z:=fun x z=>q3C ..
  have hg3:∀ y x,(((L.set i y).map (e7.cells true true)).set i x).getD i c8H=x:=fun y x=>by rw [W7,q1F (by rw [q0G,q5X];omega)];rfl
  have hs3:∀ y x z,(((L.set i y).map (e7.cells true true)).set i x).set i z=((L.set i y).map (e7.cells true true)).set i z:=fun y x z=>q3C ..
  have hx:L.getD i default=a.getD i default:=by rw [hL];exact b7l a4s v7 default k (by omega)
  have ht:=m9 v7 default (show i < a.length by omega);have ht2:=z7 v7 a (i+1);simp only [v7] at ht;have hw0:IntKind.i64.wrap ((k+(m7 v7 (a.take i):Nat))+1)=((k+(m7 v7 (a.take i):Nat))+1):=w64 (by omega) (by omega) (by omega);have hw1:IntKind.i64.wrap (((k+(m7 v7 (a.take i):Nat))+1)+1)=((k+(m7 v7 (a.take i):Nat))+2):=w64 (by omega) (by omega) (by omega);have hw2:IntKind.i64.wrap ((((k+(m7 v7 (a.take i):Nat))+2)+3 * ((a.getD i default).Atom.Args.length:Nat))+1)=((((k+(m7 v7 (a.take i):Nat))+2)+3 * ((a.getD i default).Atom.Args.length:Nat))+1):=w64 (by omega) (by omega) (by omega);have hw3:IntKind.i64.wrap (((((k+(m7 v7 (a.take i):Nat))+2)+3 * ((a.getD i default).Atom.Args.length:Nat))+1)+1)=((((k+(m7 v7 (a.take i):Nat))+2)+3 * ((a.getD i default).Atom.Args.length:Nat))+2):=w64 (by omega) (by omega) (by omega);have hw4:IntKind.i64.wrap (((((k+(m7 v7 (a.take i):Nat))+2)+3 * ((a.getD i default).Atom.Args.length:Nat))+2)+1)=((((k+(m7 v7 (a.take i):Nat))+2)+3 * ((a.getD i default).Atom.Args.length:Nat))+3):=w64 (by omega) (by omega) (by omega);have hw5:IntKind.i64.wrap (((((k+(m7 v7 (a.take i):Nat))+2)+3 * ((a.getD i default).Atom.Args.length:Nat))+3)+1)=((((k+(m7 v7 (a.take i):Nat))+2)+3 * ((a.getD i default).Atom.Args.length:Nat))+4):=w64 (by omega) (by omega) (by omega);have hw6:IntKind.i64.wrap (((((k+(m7 v7 (a.take i):Nat))+2)+3 * ((a.getD i default).Atom.Args.length:Nat))+4)+1)=((((k+(m7 v7 (a.take i):Nat))+2)+3 * ((a.getD i default).Atom.Args.length:Nat))+5):=w64 (by omega) (by omega) (by omega);have hw7:IntKind.i64.wrap (((((k+(m7 v7 (a.take i):Nat))+2)+3 * ((a.getD i default).Atom.Args.length:Nat))+5)+1)=((((k+(m7 v7 (a.take i):Nat))+2)+3 * ((a.getD i default).Atom.Args.length:Nat))+6):=w64 (by omega) (by omega) (by omega);have hw8:IntKind.i64.wrap (((((k+(m7 v7 (a.take i):Nat))+2)+3 * ((a.getD i default).Atom.Args.length:Nat))+6)+1)=((((k+(m7 v7 (a.take i):Nat))+2)+3 * ((a.getD i default).Atom.Args.length:Nat))+7):=w64 (by omega) (by omega) (by omega);simp only [go_sem,hS0,hgs,hss,hx,hil,hg2,hs2,hg3,hs3,hw0,hw1,hw2,hw3,hw4,hw5,hw6,hw7,hw8];repeat' first|apply cj'|intro hc|exact om'|fail
  all_goals first
   | omega
   | (exact (hc trivial).elim)
   | ((refine lpK_n2 (⟨(i+1,L.set i (a4s (a.getD i default) (k+(m7 v7 (a.take i):Nat)))),by simp only;omega,by rw [hL];exact b7n a4s v7 default k (by omega)⟩) _ rfl ?_;simp only [go_sem,hS0,hgs,hss,hx,hil,hg2,hs2,hg3,hs3,hw0,hw1,hw2,hw3,hw4,hw5,hw6,hw7,hw8]<;>repeat' first|apply V0|exact on'|fail);first|done|(simp only [ht];omega))
   | trace_state
 ·simp only [go_sem,hS0,hil];repeat' first|apply cj'|intro hc|exact om'|fail
  have h1:=a1x v7 (show ¬ i < a.length by omega);rw [q0Z (by omega),q3R (by omega),q0D] at hL;all_goals first|exact ⟨by rw [h1],by rw [hL]⟩|trace_state
def a6R:CT:=l8 (fun (x:(List e7)×Int) h=>b6B x.1 x.2 h)
@[go_sem] def d0k:=fun a k=>nm' (fP' a6R rfl (a,k))
def a6a (k:Int):Int:=k
def a4u (n:Nat) (k:Int):List Int:=(List.range n).map fun i:Nat=>a6a (k+1 * (i:Int))
def a0W (n:Nat) (k:Int):(a4u n k).length=n:=by simp [a4u]
def a9S (n:Nat) (k:Int) {i:Nat} (h:i < n):(a4u n k).getD i 0=a6a (k+1 * (i:Int)):=by
 rw [W7,a4u,q3M,q5L h];rfl
def b6A (a:List Int) (k:Int) (hpre:0<=k/\k+1 * (a.length:Nat)<=4611686018427387904):spZ 35 [(false,[d2M a]),(false,[.i .i64 k])] [(0,(false,[d2M (a4u a.length k)]))] (.one (false,[.i .i64 (k+1 * (a.length:Nat))])):=by
 refine sx' true false (some 0) Tryz.func35 (q' 4 [aK 0] (.seq (q' 5 [aK 0] (.block 0 (.loop (.seq (q' 6 [aM [5,0],aN,ar 6 8] (.cond (.t 9) .skip (.exit 0))) (.seq (.block 1 (q' 12 [aM [0,5,1],ai 1 12 13,aS 1 15 14] (g' 16 [aB 1]))) (g' 10 [aB 5])))))) (q' 18 [am 1,aV 4] .ret))) [.t 4] [] ?_;intro hb hE;simp only [go_sem];repeat' first|apply cj'|intro hc|exact om'|fail
 refine lq' true [0] [] [] (fun i:{p:Nat×(List Int) // p.1<=a.length/\p.2.length=a.length/\p.2.take p.1=(a4u a.length k).take p.1}=>[(5,slV (.i .i64 i.1.1)),(1,slV (.i .i64 (k+1 * (i.1.1:Int))))]) nl' (fun i=>[(1,[.i .i64 0],i.1.2.map a0u)]) (fun i=>a.length - i.1.1) (⟨(0,a),by simp⟩) ?_;intro S0 hS0 i;obtain ⟨⟨i,L⟩,hi,hl,ht⟩:=i;simp only at hi hl ht;by_cases hil:(i:Int) < L.length
 ·have hgs:∀ x,(L.set i x).getD i 0=x:=fun x=>by rw [W7,q1F (by omega)];rfl
  have hss:∀ x y,(L.set i x).set i y=L.set i y:=fun x y=>q3C ..
  have hw0:IntKind.i64.wrap (k+1 * (i:Int)+1)=k+1 * (i:Int)+1:=w64 (by omega) (by omega) (by omega);simp only [go_sem,hS0,hgs,hss,hil,hw0];repeat' first|apply cj'|intro hc|exact om'|fail
  (refine lpK_n2 (⟨(i+1,L.set i (a6a (k+1 * (i:Int)))),by simp only;omega,by simp [hl],by rw [<- a9S a.length k (show i < a.length by omega)];exact z5 (by rw [hl,a0W]) ht (by rw [a0W];omega)⟩) _ rfl ?_;simp only [go_sem,hS0,hgs,hss,hil,hw0]<;>repeat' first|apply V0|exact on'|fail)
  ·exact (hc trivial).elim
 ·simp only [go_sem,hS0,hil];repeat' first|apply cj'|intro hc|exact om'|fail
  obtain rfl:i=a.length:=by omega
  obtain rfl:=u7 (by rw [hl,a0W]) ht (by rw [a0W];omega);exact ⟨rfl,rfl⟩
def a6Q:CT:=l8 (fun (x:(List Int)×Int) h=>b6A x.1 x.2 h)
@[go_sem] def d0j:=fun a k=>nm' (fP' a6Q rfl (a,k))
def b6z (a:List Int) (k:Int) (hpre:(0<=k/\k+1 * (a.length:Nat)<=4611686018427387904)/\a=a4u a.length k):spZ 36 [(false,[c3y a]),(false,[.i .i64 k])] [] (.one (false,[.i .i64 (k+1 * (a.length:Nat))])):=by
 refine sy' Tryz.func36 (q' 4 [aK 0] (.seq (q' 5 [aK 0] (.block 0 (.loop (.seq (q' 6 [aM [5,0],aN,ar 6 8] (.cond (.t 9) .skip (.exit 0))) (.seq (.block 1 (.seq (q' 12 [aM [0,5],aI 1,aL,am 1,ao (.bin .neq (.t 15) (.t 16))] (.cond (.t 17) (q' 4 [ao (.mov (.k (.v false [.c (.i .i64 (-1))])))] .ret) .skip)) (g' 18 [aB 1]))) (g' 10 [aB 5])))))) (q' 20 [am 1,aV 4] .ret))) [.t 4] [] ?_;intro hb hE;simp only [go_sem];repeat' first|apply cj'|intro hc|exact om'|fail
 refine lq' false [0] [] [] (fun i:{i:Nat // i<=a.length}=>[(5,slV (.i .i64 i.1)),(1,slV (.i .i64 (k+1 * (i.1:Int))))]) nl' nl' (fun i=>a.length - i.1) (⟨0,by omega⟩) ?_;intro S0 hS0 i;obtain ⟨i,hi⟩:=i;by_cases hil:(i:Int) < a.length
 ·have hx:a.getD i 0=a6a (k+1 * (i:Int)):=by rw [hpre.2];exact a9S _ _ (by omega)
  have hw0:IntKind.i64.wrap (k+1 * (i:Int)+1)=k+1 * (i:Int)+1:=w64 (by omega) (by omega) (by omega);simp only [go_sem,hS0,hil,hx,a6a,hw0];repeat' first|apply cj'|intro hc|exact om'|fail
  all_goals first
   | (exfalso;simp at hc;done)
   | ((refine lpK_n2 (⟨i+1,by omega⟩) _ rfl ?_;simp only [go_sem,hS0,hil,hx,a6a,hw0]<;>repeat' first|apply V0|exact on'|fail);done)
   | trace_state
 ·simp only [go_sem,hS0,hil];repeat' first|apply cj'|intro hc|exact om'|fail
  all_goals (obtain rfl:i=a.length:=by omega)
  all_goals rfl
def a6P:CT:=l8 (fun (x:(List Int)×Int) h=>b6z x.1 x.2 h)
@[go_sem] def d0i:=fun a k=>nm' (fP' a6P rfl (a,k))
def b4w (k:Int):f5:=(f5.mk k (a4O (k+1)) (k+2))
def a1Y (n:Nat) (k:Int):List f5:=(List.range n).map fun i:Nat=>b4w (k+3 * (i:Int))
def a2W (n:Nat) (k:Int):(a1Y n k).length=n:=by simp [a1Y]
def c0w (n:Nat) (k:Int) {i:Nat} (h:i < n):(a1Y n k).getD i default=b4w (k+3 * (i:Int)):=by
 rw [W7,a1Y,q3M,q5L h];rfl
def a0b (x:c6):Nat:=2+3 * x.Head.Args.length+m7 v7 x.Body
def a1X (x:c6) (k:Int):c6:=c6.mk k (f9.mk (a4O (k+1)) (a1Z x.Head.Args.length (k+2))) (mkL a4s v7 x.Body ((k+2)+3 * (x.Head.Args.length:Nat)))
def a1e (x:c9):Nat:=2 * x.V.length
def a4t (x:c9) (k:Int):c9:=c9.mk (a1Q x.V.length k)
def w5 (x:d6):Nat:=2+m7 a1e x.Rel.Rows
def a1P (x:d6) (k:Int):d6:=d6.mk (a4O k) (f8.mk (k+1) (mkL a4t a1e x.Rel.Rows (k+2)))
def b3Z (a:List f5) (k:Int) (hpre:0<=k/\k+3 * (a.length:Nat)<=4611686018427387904):spZ 71 [(false,[b3R a]),(false,[.i .i64 k])] [(0,(false,[b3R (a1Y a.length k)]))] (.one (false,[.i .i64 (k+3 * (a.length:Nat))])):=by
 refine sx' true false (some 0) Tryz.func71 (q' 4 [aK 0] (.seq (q' 5 [aK 0] (.block 0 (.loop (.seq (q' 6 [aM [5,0],aN,ar 6 8] (.cond (.t 9) .skip (.exit 0))) (.seq (.block 1 (q' 12 [aM [0,5,1],ai 3 12 13,aF 0,aS 1 16 14] (q' 17 [aB 1] (q' 19 [aM [0,5,1],ac 114 [21],ai 3 19 20,aF 1,aS 1 24 22] (q' 25 [aB 1] (q' 27 [aM [0,5,1],ai 3 27 28,aF 2,aS 1 31 29] (g' 32 [aB 1]))))))) (g' 10 [aB 5])))))) (q' 34 [am 1,aV 4] .ret))) [.t 4] [(114,[],a0r)] ?_;intro hb hE;simp only [go_sem];repeat' first|apply cj'|intro hc|exact om'|fail
 refine lq' true [0] [] [] (fun i:{p:Nat×(List f5) // p.1<=a.length/\p.2.length=a.length/\p.2.take p.1=(a1Y a.length k).take p.1}=>[(5,slV (.i .i64 i.1.1)),(1,slV (.i .i64 (k+3 * (i.1.1:Int))))]) nl' (fun i=>[(1,a8H,i.1.2.map f5.cells)]) (fun i=>a.length - i.1.1) (⟨(0,a),by simp⟩) ?_;intro S0 hS0 i;obtain ⟨⟨i,L⟩,hi,hl,ht⟩:=i;simp only at hi hl ht;by_cases hil:(i:Int) < L.length
 ·have hgs:∀ x,(L.set i x).getD i default=x:=fun x=>by rw [W7,q1F (by omega)];rfl
  have hss:∀ x y,(L.set i x).set i y=L.set i y:=fun x y=>q3C ..
  have hw0:IntKind.i64.wrap (k+3 * (i:Int)+1)=k+3 * (i:Int)+1:=w64 (by omega) (by omega) (by omega);have hw1:IntKind.i64.wrap (k+3 * (i:Int)+1+1)=k+3 * (i:Int)+2:=w64 (by omega) (by omega) (by omega);have hw2:IntKind.i64.wrap (k+3 * (i:Int)+2+1)=k+3 * (i:Int)+3:=w64 (by omega) (by omega) (by omega);simp only [go_sem,hS0,hgs,hss,hil,hw0,hw1,hw2];repeat' first|apply cj'|intro hc|exact om'|fail
  (refine lpK_n2 (⟨(i+1,L.set i (b4w (k+3 * (i:Int)))),by simp only;omega,by simp [hl],by rw [<- c0w a.length k (show i < a.length by omega)];exact z5 (by rw [hl,a2W]) ht (by rw [a2W];omega)⟩) _ rfl ?_;simp only [go_sem,hS0,hgs,hss,hil,hw0,hw1,hw2]<;>repeat' first|apply V0|exact on'|fail)
  ·exact (hc trivial).elim
 ·simp only [go_sem,hS0,hil];repeat' first|apply cj'|intro hc|exact om'|fail
  obtain rfl:i=a.length:=by omega
  obtain rfl:=u7 (by rw [hl,a2W]) ht (by rw [a2W];omega);exact ⟨rfl,rfl⟩
def a5F:CT:=l8 (fun (x:(List f5)×Int) h=>b3Z x.1 x.2 h)
@[go_sem] def c8O:=fun a k=>nm' (fP' a5F rfl (a,k))
def b4a (a:List c6) (k:Int) (hpre:0<=k/\k+(m7 a0b a:Nat)<=4611686018427387904):spZ 72 [(false,[b3Q a]),(false,[.i .i64 k])] [(0,(false,[b3Q (mkL a1X a0b a k)]))] (.one (false,[.i .i64 (k+(m7 a0b a:Nat))])):=by
 refine sx' true false (some 0) Tryz.func72 (q' 4 [aK 0] (.seq (q' 5 [aK 0] (.block 0 (.loop (.seq (q' 6 [aM [5,0],aN,ar 6 8] (.cond (.t 9) .skip (.exit 0))) (.seq (.block 1 (q' 12 [aM [0,5,1],ai 4 12 13,aF 0,aS 1 16 14] (q' 17 [aB 1] (q' 19 [aM [0,5,1],ac 114 [21],ai 4 19 20,aF 1,aF 0,aS 1 25 22] (q' 26 [aB 1] (q' 28 [aM [0,5],aI 4,aF 1,aG 1 31,am 1,ac 113 [33,34],aV 1] (g' 36 [aM [0,5],aI 4,aG 3 38,am 1,ac 54 [40,41],aV 1]))))))) (g' 10 [aB 5])))))) (q' 43 [am 1,aV 4] .ret))) [.t 4] [(114,[],a0r),(113,[0],a2y),(54,[0],a6R)] ?_;intro hb hE;simp only [go_sem];repeat' first|apply cj'|intro hc|exact om'|fail
 refine lq' true [0] [] [] (fun i:{p:Nat×List c6 // p.1<=a.length/\p.2=mkL a1X a0b (a.take p.1) k++a.drop p.1}=>[(5,slV (.i .i64 i.1.1)),(1,slV (.i .i64 (k+(m7 a0b (a.take i.1.1):Nat))))]) nl' (fun i=>[(1,c1d,i.1.2.map (c6.cells true true))]) (fun i=>a.length - i.1.1) (⟨(0,a),by simp [mkL]⟩) ?_;intro S0 hS0 i;obtain ⟨⟨i,L⟩,hi,hL⟩:=i;simp only at hi hL;have hl:L.length=a.length:=by rw [hL];exact b7m a1X a0b a k i
 by_cases hil:(i:Int) < L.length
 ·have hgs:∀ x,(L.set i x).getD i default=x:=fun x=>by rw [W7,q1F (by omega)];rfl
  have hss:∀ x y,(L.set i x).set i y=L.set i y:=fun x y=>q3C ..
  have hg2:∀ x,((L.map (c6.cells true true)).set i x).getD i c1d=x:=fun x=>by rw [W7,q1F (by rw [q0G];omega)];rfl
  have hs2:∀ x z,((L.map (c6.cells true true)).set i x).set i z=(L.map (c6.cells true true)).set i z:=fun x z=>q3C ..
  have hg3:∀ y x,(((L.set i y).map (c6.cells true true)).set i x).getD i c1d=x:=fun y x=>by rw [W7,q1F (by rw [q0G,q5X];omega)];rfl
  have hs3:∀ y x z,(((L.set i y).map (c6.cells true true)).set i x).set i z=((L.set i y).map (c6.cells true true)).set i z:=fun y x z=>q3C ..
  have hx:L.getD i default=a.getD i default:=by rw [hL];exact b7l a1X a0b default k (by omega)
  have ht:=m9 a0b default (show i < a.length by omega);have ht2:=z7 a0b a (i+1);simp only [a0b] at ht;have hw0:IntKind.i64.wrap ((k+(m7 a0b (a.take i):Nat))+1)=((k+(m7 a0b (a.take i):Nat))+1):=w64 (by omega) (by omega) (by omega);have hw1:IntKind.i64.wrap (((k+(m7 a0b (a.take i):Nat))+1)+1)=((k+(m7 a0b (a.take i):Nat))+2):=w64 (by omega) (by omega) (by omega);simp only [go_sem,hS0,hgs,hss,hx,hil,hg2,hs2,hg3,hs3,hw0,hw1];repeat' first|apply cj'|intro hc|exact om'|fail
  all_goals first
   | omega
   | (exact (hc trivial).elim)
   | ((refine lpK_n2 (⟨(i+1,L.set i (a1X (a.getD i default) (k+(m7 a0b (a.take i):Nat)))),by simp only;omega,by rw [hL];exact b7n a1X a0b default k (by omega)⟩) _ rfl ?_;simp only [go_sem,hS0,hgs,hss,hx,hil,hg2,hs2,hg3,hs3,hw0,hw1]<;>repeat' first|apply V0|exact on'|fail);first|done|(simp only [ht];omega))
   | trace_state
 ·simp only [go_sem,hS0,hil];repeat' first|apply cj'|intro hc|exact om'|fail
  have h1:=a1x a0b (show ¬ i < a.length by omega);rw [q0Z (by omega),q3R (by omega),q0D] at hL;all_goals first|exact ⟨by rw [h1],by rw [hL]⟩|trace_state
def a5G:CT:=l8 (fun (x:(List c6)×Int) h=>b4a x.1 x.2 h)
@[go_sem] def c8P:=fun a k=>nm' (fP' a5G rfl (a,k))
def b0A (a:c4) (k:Int) (hpre:0<=k/\((k+3 * (a.Decls.length:Nat))+(m7 a0b a.Rules:Nat))<=4611686018427387904):spZ 28 [(true,[b3R a.Decls,b3Q a.Rules]),(false,[.i .i64 k])] [(0,(true,[b3R ((c4.mk (a1Y a.Decls.length k) (mkL a1X a0b a.Rules (k+3 * (a.Decls.length:Nat)))).Decls),b3Q ((c4.mk (a1Y a.Decls.length k) (mkL a1X a0b a.Rules (k+3 * (a.Decls.length:Nat)))).Rules)]))] (.one (false,[.i .i64 ((k+3 * (a.Decls.length:Nat))+(m7 a0b a.Rules:Nat))])):=by
 refine sx' true false (some 0) Tryz.func28 (q' 2 [ao (.box 2 (.t 0)),az 4 0] (q' 5 [aG 0 2,am 1,ac 71 [6,7],aV 1] (q' 9 [aG 1 2,am 1,ac 72 [10,11],aV 1] (q' 13 [am 1,aV 4] .ret)))) [.t 4] [(71,[0],a5F),(72,[0],a5G)] ?_;intro hb hE;simp only [go_sem];repeat' first|apply cj'|intro hc|exact om'|fail
 all_goals first|omega|trace_state
def a4e:CT:=l8 (fun (x:c4×Int) h=>b0A x.1 x.2 h)
@[go_sem] def c6g:=fun x0 x1 k=>nm' (fP' a4e rfl (⟨x0,x1⟩,k))
def b6C (a:List c9) (k:Int) (hpre:0<=k/\k+(m7 a1e a:Nat)<=4611686018427387904):spZ 56 [(false,[b5c a]),(false,[.i .i64 k])] [(0,(false,[b5c (mkL a4t a1e a k)]))] (.one (false,[.i .i64 (k+(m7 a1e a:Nat))])):=by
 refine sx' true false (some 0) Tryz.func56 (q' 4 [aK 0] (.seq (q' 5 [aK 0] (.block 0 (.loop (.seq (q' 6 [aM [5,0],aN,ar 6 8] (.cond (.t 9) .skip (.exit 0))) (.seq (.block 1 (g' 12 [aM [0,5],aI 1,aG 0 14,am 1,ac 115 [16,17],aV 1])) (g' 10 [aB 5])))))) (q' 19 [am 1,aV 4] .ret))) [.t 4] [(115,[0],a4I)] ?_;intro hb hE;simp only [go_sem];repeat' first|apply cj'|intro hc|exact om'|fail
 refine lq' true [0] [] [] (fun i:{p:Nat×List c9 // p.1<=a.length/\p.2=mkL a4t a1e (a.take p.1) k++a.drop p.1}=>[(5,slV (.i .i64 i.1.1)),(1,slV (.i .i64 (k+(m7 a1e (a.take i.1.1):Nat))))]) nl' (fun i=>[(1,c1c,i.1.2.map (c9.cells true true))]) (fun i=>a.length - i.1.1) (⟨(0,a),by simp [mkL]⟩) ?_;intro S0 hS0 i;obtain ⟨⟨i,L⟩,hi,hL⟩:=i;simp only at hi hL;have hl:L.length=a.length:=by rw [hL];exact b7m a4t a1e a k i
 by_cases hil:(i:Int) < L.length
 ·have hgs:∀ x,(L.set i x).getD i default=x:=fun x=>by rw [W7,q1F (by omega)];rfl
  have hss:∀ x y,(L.set i x).set i y=L.set i y:=fun x y=>q3C ..
  have hg2:∀ x,((L.map (c9.cells true true)).set i x).getD i c1c=x:=fun x=>by rw [W7,q1F (by rw [q0G];omega)];rfl
  have hs2:∀ x z,((L.map (c9.cells true true)).set i x).set i z=(L.map (c9.cells true true)).set i z:=fun x z=>q3C ..
  have hg3:∀ y x,(((L.set i y).map (c9.cells true true)).set i x).getD i c1c=x:=fun y x=>by rw [W7,q1F (by rw [q0G,q5X];omega)];rfl
  have hs3:∀ y x z,(((L.set i y).map (c9.cells true true)).set i x).set i z=((L.set i y).map (c9.cells true true)).set i z:=fun y x z=>q3C ..
  have hx:L.getD i default=a.getD i default:=by rw [hL];exact b7l a4t a1e default k (by omega)
  have ht:=m9 a1e default (show i < a.length by omega);have ht2:=z7 a1e a (i+1);simp only [a1e] at ht;simp only [go_sem,hS0,hgs,hss,hx,hil,hg2,hs2,hg3,hs3];repeat' first|apply cj'|intro hc|exact om'|fail
  all_goals first
   | omega
   | (exact (hc trivial).elim)
   | ((refine lpK_n2 (⟨(i+1,L.set i (a4t (a.getD i default) (k+(m7 a1e (a.take i):Nat)))),by simp only;omega,by rw [hL];exact b7n a4t a1e default k (by omega)⟩) _ rfl ?_;simp only [go_sem,hS0,hgs,hss,hx,hil,hg2,hs2,hg3,hs3]<;>repeat' first|apply V0|exact on'|fail);first|done|(simp only [ht];omega))
   | trace_state
 ·simp only [go_sem,hS0,hil];repeat' first|apply cj'|intro hc|exact om'|fail
  have h1:=a1x a1e (show ¬ i < a.length by omega);rw [q0Z (by omega),q3R (by omega),q0D] at hL;all_goals first|exact ⟨by rw [h1],by rw [hL]⟩|trace_state
def a6S:CT:=l8 (fun (x:(List c9)×Int) h=>b6C x.1 x.2 h)
@[go_sem] def d0l:=fun a k=>nm' (fP' a6S rfl (a,k))
def b2l (a:List d6) (k:Int) (hpre:0<=k/\k+(m7 w5 a:Nat)<=4611686018427387904):spZ 55 [(false,[a8O a]),(false,[.i .i64 k])] [(0,(false,[a8O (mkL a1P w5 a k)]))] (.one (false,[.i .i64 (k+(m7 w5 a:Nat))])):=by
 refine sx' true false (some 0) Tryz.func55 (q' 4 [aK 0] (.seq (q' 5 [aK 0] (.block 0 (.loop (.seq (q' 6 [aM [5,0],aN,ar 6 8] (.cond (.t 9) .skip (.exit 0))) (.seq (.block 1 (q' 12 [aM [0,5,1],ac 114 [14],ai 3 12 13,aF 0,aS 1 17 15] (q' 18 [aB 1] (q' 20 [aM [0,5,1],ai 3 20 21,aF 1,aF 0,aS 1 25 22] (q' 26 [aB 1] (g' 28 [aM [0,5],aI 3,aF 1,aG 1 31,am 1,ac 56 [33,34],aV 1])))))) (g' 10 [aB 5])))))) (q' 36 [am 1,aV 4] .ret))) [.t 4] [(114,[],a0r),(56,[0],a6S)] ?_;intro hb hE;simp only [go_sem];repeat' first|apply cj'|intro hc|exact om'|fail
 refine lq' true [0] [] [] (fun i:{p:Nat×List d6 // p.1<=a.length/\p.2=mkL a1P w5 (a.take p.1) k++a.drop p.1}=>[(5,slV (.i .i64 i.1.1)),(1,slV (.i .i64 (k+(m7 w5 (a.take i.1.1):Nat))))]) nl' (fun i=>[(1,b2K,i.1.2.map (d6.cells true true))]) (fun i=>a.length - i.1.1) (⟨(0,a),by simp [mkL]⟩) ?_;intro S0 hS0 i;obtain ⟨⟨i,L⟩,hi,hL⟩:=i;simp only at hi hL;have hl:L.length=a.length:=by rw [hL];exact b7m a1P w5 a k i
 by_cases hil:(i:Int) < L.length
 ·have hgs:∀ x,(L.set i x).getD i default=x:=fun x=>by rw [W7,q1F (by omega)];rfl
  have hss:∀ x y,(L.set i x).set i y=L.set i y:=fun x y=>q3C ..
  have hg2:∀ x,((L.map (d6.cells true true)).set i x).getD i b2K=x:=fun x=>by rw [W7,q1F (by rw [q0G];omega)];rfl
  have hs2:∀ x z,((L.map (d6.cells true true)).set i x).set i z=(L.map (d6.cells true true)).set i z:=fun x z=>q3C ..
  have hg3:∀ y x,(((L.set i y).map (d6.cells true true)).set i x).getD i b2K=x:=fun y x=>by rw [W7,q1F (by rw [q0G,q5X];omega)];rfl
  have hs3:∀ y x z,(((L.set i y).map (d6.cells true true)).set i x).set i z=((L.set i y).map (d6.cells true true)).set i z:=fun y x z=>q3C ..
  have hx:L.getD i default=a.getD i default:=by rw [hL];exact b7l a1P w5 default k (by omega)
  have ht:=m9 w5 default (show i < a.length by omega);have ht2:=z7 w5 a (i+1);simp only [w5] at ht;have hw0:IntKind.i64.wrap ((k+(m7 w5 (a.take i):Nat))+1)=((k+(m7 w5 (a.take i):Nat))+1):=w64 (by omega) (by omega) (by omega);have hw1:IntKind.i64.wrap (((k+(m7 w5 (a.take i):Nat))+1)+1)=((k+(m7 w5 (a.take i):Nat))+2):=w64 (by omega) (by omega) (by omega);simp only [go_sem,hS0,hgs,hss,hx,hil,hg2,hs2,hg3,hs3,hw0,hw1];repeat' first|apply cj'|intro hc|exact om'|fail
  all_goals first
   | omega
   | (exact (hc trivial).elim)
   | ((refine lpK_n2 (⟨(i+1,L.set i (a1P (a.getD i default) (k+(m7 w5 (a.take i):Nat)))),by simp only;omega,by rw [hL];exact b7n a1P w5 default k (by omega)⟩) _ rfl ?_;simp only [go_sem,hS0,hgs,hss,hx,hil,hg2,hs2,hg3,hs3,hw0,hw1]<;>repeat' first|apply V0|exact on'|fail);first|done|(simp only [ht];omega))
   | trace_state
 ·simp only [go_sem,hS0,hil];repeat' first|apply cj'|intro hc|exact om'|fail
  have h1:=a1x w5 (show ¬ i < a.length by omega);rw [q0Z (by omega),q3R (by omega),q0D] at hL;all_goals first|exact ⟨by rw [h1],by rw [hL]⟩|trace_state
def a4H:CT:=l8 (fun (x:(List d6)×Int) h=>b2l x.1 x.2 h)
@[go_sem] def c6U:=fun a k=>nm' (fP' a4H rfl (a,k))
def b4b (a:c8) (k:Int) (hpre:0<=k/\(k+(m7 w5 a.Rels:Nat))<=4611686018427387904):spZ 18 [(true,[a8O a.Rels]),(false,[.i .i64 k])] [(0,(true,[a8O ((c8.mk (mkL a1P w5 a.Rels k)).Rels)]))] (.one (false,[.i .i64 (k+(m7 w5 a.Rels:Nat))])):=by
 refine sx' true false (some 0) Tryz.func18 (q' 2 [ao (.box 1 (.t 0)),az 4 0] (q' 5 [aG 0 2,am 1,ac 55 [6,7],aV 1] (q' 9 [am 1,aV 4] .ret))) [.t 4] [(55,[0],a4H)] ?_;intro hb hE;simp only [go_sem];repeat' first|apply cj'|intro hc|exact om'|fail
 all_goals first|omega|trace_state
def a5H:CT:=l8 (fun (x:c8×Int) h=>b4b x.1 x.2 h)
@[go_sem] def c8Q:=fun x0 k=>nm' (fP' a5H rfl (⟨x0⟩,k))
def d4U (x:e7):v7 x<=12+12 * a1v x:=by simp only [v7,a1v,a4S];omega
def d0N (l:List c6):m7 a0b l<=12 * (l.length+m7 a0J l):=b2F a0b a0J 12 (fun x=>by
 have:=b2F v7 a1v 12 d4U x.Body;simp only [a0b,a0J,a4S];omega) l
def d4V (l:List c9):m7 a1e l<=2 * (l.length+m7 a1w l):=b2F a1e a1w 2 (fun x=>by simp only [a1e,a1w];omega) l
def c7d (l:List d6):m7 w5 l<=2 * (l.length+m7 a0o l):=b2F w5 a0o 2 (fun x=>by
 have:=d4V x.Rel.Rows;simp only [w5,a0o,b4C];omega) l
def d7C (p:c4) (s:c8) (sw inn src dst:Int):(c1T p s sw inn src dst).1.length<=7200:=by
 rw [c1T];cases h:a1g p s&&b0q sw inn src dst with
 | false=>exact q2Q _
 | true=>
   rw [W8];rw [W3] at h;cases (a0l p s).2==0 with
   | false=>exact q2Q _
   | true=>
     rw [W8];show (c1S p s sw inn src dst).1.length<=7200;have hg:=(a2Z h.1).1;have hP:=a0G (z9 (t7 hg));have h1:=a4q (b7o h.1 h.2) a0B hP.1;have h2:=b2x (v8 (a0O (a0l p s).1 (c5M sw inn src dst)) a0B p.Rules);have h3:=a8w (a0H iLt (a2H (v8 (a0O (a0l p s).1 (c5M sw inn src dst)) a0B p.Rules)));rw [(a0X iLt _).length_eq] at h3;rw [c1S,b1S];cases a3d (a0O (a0l p s).1 (c5M sw inn src dst)) a0B p.Rules with
     | false=>exact q2Q _
     | true=>
       rw [W8];dsimp only;omega
set_option maxHeartbeats 40000000
attribute [local irreducible] RM
def a2v (p:c4) (s:c8) (sw:Int) (inn:Int) (src:Int) (dst:Int):spZ 7 [(true,[n7 p.Decls,m8 p.Rules]),(true,[j5 s.Rels]),(false,[.i .i64 sw]),(false,[.i .i64 inn]),(false,[.i .i64 src]),(false,[.i .i64 dst])] [] (.one (false,[.b true])):=by
 refine sx' true false none Tryz.func7 (q' 6 [ao (.box 2 (.t 0)),ao (.box 1 (.t 1)),ab 12 false] (q' 13 [aK 1048576] (q' 25 [ae 2 6,am 13,ac 21 [25,26],aV 13] (.seq (q' 28 [am 13,ao (.bin .lss (.t 28) (k' 0))] (.cond (.t 29) (q' 0 [ab 12 true] .ret) .skip)) (q' 30 [ae 1 7,am 13,ac 9 [30,31],aV 13] (.seq (q' 33 [am 13,ao (.bin .lss (.t 33) (k' 0))] (.cond (.t 34) (q' 0 [ab 12 true] .ret) .skip)) (.seq (rm' [(true,0,e' 36 2 6),(true,2,e' 38 1 7),(true,4,m' 40 2),(true,5,m' 41 3),(true,6,m' 42 4), (true,7,m' 43 5),(false,1,c' 37 23 [36]),(false,3,c' 39 12 [38]),(false,8,c' 44 32 [37,39,40,41,42,43]),(false,9,m' 35 44),(false,10,o' 45 (.ext (.t 35) 0)),(false,11,o' 46 (.ext (.t 35) 1)),(false,12,m' 14 45),(false,13,m' 15 46)] [[0,1,2,3,4,5,6,7,8,9,10,12,11,13],[0, 1,2,3,4,5,6,7,8,9,11,10,12,13]] [12,13,14,15]) (q' 47 [ae 2 6,ac 23 [47],ax (w' 16 [.sl a8H,.sl c1b]),aS 2 16 48] (q' 49 [ae 1 7,ac 12 [49],ax (w' 17 [.sl l4]),aS 1 17 50] (q' 52 [ae 2 16,ae 1 17,aM [2,3,4,5],ac 33 [52,53,54,55,56,57],aV 51,ao (.ext (.t 51) 0),ao (.ext (.t 51) 1),av 18 59,aV 19] (.seq (q' 61 [aM [18,14],ac 34 [61,62],ao (.not (.t 63)),am 64,au (.mov (.t 19)) 65 false,au (.mov (.t 15)) 65 false,au (.bin .neq (.t 66) (.t 67)) 65 false,ao (.pick (.t 65) (bb true) (.t 68))] (.cond (.t 69) (q' 0 [ab 12 false] .ret) .skip)) (.seq (.seq (G' 70 [ae 2 16,ae 2 6,ac 23 [71],ac 25 [70,72],ao (.not (.t 73))]) (.cond (.t 74) (q' 0 [ab 12 false] .ret) .skip)) (.seq (.seq (G' 75 [ae 1 17,ae 1 7,ac 12 [76],ac 16 [75,77],ao (.not (.t 78))]) (.cond (.t 79) (q' 0 [ab 12 false] .ret) .skip)) (q' 20 [aK 1] (q' 80 [ae 2 16,am 20,ac 28 [80,81],aV 20] (q' 83 [ae 1 17,am 20,ac 18 [83,84],aV 20] (.seq (q' 86 [am 20,ao (.bin .lss (.t 86) (k' 0)),am 87,au (.mov (.t 18)) 88 false,au (.mov (.t 14)) 88 false,au (.call 34 [.t 89,.t 90]) 88 false,au (.not (.t 91)) 88 false,ao (.pick (.t 88) (bb true) (.t 92)),am 93,au (.mov (.t 19)) 94 false,au (.mov (.t 15)) 94 false,au (.bin .neq (.t 95) (.t 96)) 94 false,ao (.pick (.t 94) (bb true) (.t 97))] (.cond (.t 98) (q' 0 [ab 12 false] .ret) .skip)) (q' 21 [aK 1] (q' 99 [aM [18,21],ac 35 [99,100],aV 21] (q' 22 [aK 1] (q' 102 [aM [18,22],ac 36 [102,103],aV 22] (.seq (q' 105 [am 22,ao (.bin .lss (.t 105) (k' 0))] (.cond (.t 106) (q' 0 [ab 12 false] .ret) .skip)) (.seq (q' 107 [aM [22,21],ao (.bin .neq (.t 107) (.t 108))] (.cond (.t 109) (q' 0 [ab 12 false] .ret) .skip)) (.seq (rm' [(true,0,e' 111 2 6),(true,2,e' 113 1 7),(true,4,m' 115 2),(true,5,m' 116 3),(true,6,m' 117 4),(true,7,m' 118 5),(false,1,c' 112 23 [111]),(false,3,c' 114 12 [113]),(false,8,c' 119 33 [112,114,115,116,117,118]),(false,9,m' 110 119),(false,10,o' 120 (.ext (.t 110) 0)),(false,11,o' 121 (.ext (.t 110) 1)),(false,12,m' 23 120),(false,13,m' 24 121)] [[0,1,2,3,4,5,6,7, 8,9,10,12,11,13],[0,1,2,3,4,5,6,7,8,9,11,10,12,13]] [12,13,14,15]) (.seq (q' 122 [aM [23,14],ac 34 [122,123],ao (.not (.t 124)),am 125,au (.mov (.t 24)) 126 false,au (.mov (.t 15)) 126 false,au (.bin .neq (.t 127) (.t 128)) 126 false,ao (.pick (.t 126) (bb true) (.t 129))] (.cond (.t 130) (q' 0 [ab 12 false] .ret) .skip)) (q' 22 [aK 1] (q' 131 [aM [18,22],ac 36 [131,132],aV 22] (.seq (q' 134 [am 22,ao (.bin .lss (.t 134) (k' 0))] (.cond (.t 135) (q' 0 [ab 12 false] .ret) .skip)) (.seq (q' 136 [aM [22,21],ao (.bin .neq (.t 136) (.t 137))] (.cond (.t 138) (q' 0 [ab 12 false] .ret) .skip)) (q' 0 [ab 12 true] .ret)))))))))))))))))))))))))))))) [.t 12] [(21,[],a5I),(9,[],a8g),(23,[],a5J),(12,[],a8l),(32,[],a8n),(33,[],a7J),(34,[],a9v),(25,[],a5E),(16,[],a8b),(28,[0],a4e),(18,[0],a5H),(35,[0],a6Q),(36,[],a6P)] ?_;intro hb hE;simp only [go_sem];(repeat' first|apply cj'|intro hc|apply a0D);(all_goals (try ((first|refine b0I (j7 0 11 (W6 rfl) rfl ?_ (j7 1 10 (W6 rfl) rfl ?_ a6l))|refine b0I (j7 0 11 (W6 rfl) rfl ?_ (j7 1 10 (W6 rfl) rfl ?_ a6l)))<;>(intro S hS B0 hB;simp only [go_sem,q0P,q1D,q0E,q0T,q0H,q0K,q0W,q1A] at hS hB;(repeat (first|replace hS:=And.right hS|replace hS:=CJ.r hS));have Rr36:=congrArg (fun s:St=>s.sl 36) hS;have Rr38:=congrArg (fun s:St=>s.sl 38) hS;have Rr40:=congrArg (fun s:St=>s.sl 40) hS;have Rr41:=congrArg (fun s:St=>s.sl 41) hS;have Rr42:=congrArg (fun s:St=>s.sl 42) hS;have Rr43:=congrArg (fun s:St=>s.sl 43) hS;have Rr37:=congrArg (fun s:St=>s.sl 37) hS;have Rr39:=congrArg (fun s:St=>s.sl 39) hS;have Rr44:=congrArg (fun s:St=>s.sl 44) hS;have Rr35:=congrArg (fun s:St=>s.sl 35) hS;have Rr45:=congrArg (fun s:St=>s.sl 45) hS;have Rr46:=congrArg (fun s:St=>s.sl 46) hS;have Rr14:=congrArg (fun s:St=>s.sl 14) hS;have Rr15:=congrArg (fun s:St=>s.sl 15) hS;have Rr111:=congrArg (fun s:St=>s.sl 111) hS;have Rr113:=congrArg (fun s:St=>s.sl 113) hS;have Rr115:=congrArg (fun s:St=>s.sl 115) hS;have Rr116:=congrArg (fun s:St=>s.sl 116) hS;have Rr117:=congrArg (fun s:St=>s.sl 117) hS;have Rr118:=congrArg (fun s:St=>s.sl 118) hS;have Rr112:=congrArg (fun s:St=>s.sl 112) hS;have Rr114:=congrArg (fun s:St=>s.sl 114) hS;have Rr119:=congrArg (fun s:St=>s.sl 119) hS;have Rr110:=congrArg (fun s:St=>s.sl 110) hS;have Rr120:=congrArg (fun s:St=>s.sl 120) hS;have Rr121:=congrArg (fun s:St=>s.sl 121) hS;have Rr23:=congrArg (fun s:St=>s.sl 23) hS;have Rr24:=congrArg (fun s:St=>s.sl 24) hS;have Rb12:=congrArg (fun s:St=>s.bx 12) hS;have Rb13:=congrArg (fun s:St=>s.bx 13) hS;have Rb14:=congrArg (fun s:St=>s.bx 14) hS;have Rb15:=congrArg (fun s:St=>s.bx 15) hS;have Ro4736:=congrArg (fun s:St=>s.ow 4736) hS;have Ro4738:=congrArg (fun s:St=>s.ow 4738) hS;have Ro4992:=congrArg (fun s:St=>s.ow 4992) hS;have Ro14336:=congrArg (fun s:St=>s.ow 14336) hS;have Ro14338:=congrArg (fun s:St=>s.ow 14338) hS;have Ro14592:=congrArg (fun s:St=>s.ow 14592) hS;have Ro15232:=congrArg (fun s:St=>s.ow 15232) hS;clear hS;simp only [go_sem] at Rr36 Rr38 Rr40 Rr41 Rr42 Rr43 Rr37 Rr39 Rr44 Rr35 Rr45 Rr46 Rr14 Rr15 Rr111 Rr113 Rr115 Rr116 Rr117 Rr118 Rr112 Rr114 Rr119 Rr110 Rr120 Rr121 Rr23 Rr24 Rb12 Rb13 Rb14 Rb15 Ro4736 Ro4738 Ro4992 Ro14336 Ro14338 Ro14592 Ro15232;(try clear hc);intro K hc;simp only [go_sem,Rr36,Rr38,Rr40,Rr41,Rr42,Rr43,Rr37,Rr39,Rr44,Rr35,Rr45,Rr46,Rr14,Rr15,Rr111,Rr113,Rr115,Rr116,Rr117,Rr118,Rr112,Rr114,Rr119,Rr110,Rr120,Rr121,Rr23,Rr24,Rb12,Rb13,Rb14,Rb15,Ro4736,Ro4738,Ro4992,Ro14336,Ro14338,Ro14592,Ro15232,hB,q0P,q1D,q0E,q0T,q0H,q0K,q0W,q1A] at hc ⊢;simp only [go_sem,Rr36,Rr38,Rr40,Rr41,Rr42,Rr43,Rr37,Rr39,Rr44,Rr35,Rr45,Rr46,Rr14,Rr15,Rr111,Rr113,Rr115,Rr116,Rr117,Rr118,Rr112,Rr114,Rr119,Rr110,Rr120,Rr121,Rr23,Rr24,Rb12,Rb13,Rb14,Rb15,Ro4736,Ro4738,Ro4992,Ro14336,Ro14338,Ro14592,Ro15232,hB,A7d,A7h,A6v,A6u,A7c,A6t,nf_put_sub,A7f,A7e,nf_put_susK,nf_put_dip,nf_put_put,A7g,A7b,A6w,o9,o7,o5,o6,o8,nf_sub_sub] at hc ⊢;simp only [hc,q2B,q0X];done))));all_goals try exact om'
 all_goals have h6:=d7C p s sw inn src dst
 all_goals have h7:=d0N p.Rules
 all_goals have h8:=c7d s.Rels
 all_goals (try rw [a0W] at hc)
 all_goals first
  | exact (hc trivial).elim
  | exact ⟨by omega,rfl⟩
  | (exfalso;simp at hc;done)
  | (exfalso;rcases hc with h|h;· omega
     exact h trivial)
  | (exfalso;rcases hc with (h|h)|h;· omega
     ·exact h trivial
     ·simp at h)
  | (exfalso;simp at hc;omega)
  | (simp only [szR,a2M,a6j,a0W] at *;omega)
  | (simp only [szR,a2M,a6j,a0W] at *;refine ⟨by omega, ?_⟩;first|trivial|rfl)
  | trace_state
def a7u:CT:=k6 (fun (x:c4×c8×Int×Int×Int×Int)=>a2v x.1 x.2.1 x.2.2.1 x.2.2.2.1 x.2.2.2.2.1 x.2.2.2.2.2)
@[go_sem] def c1O:=fun x0 x1 x2 sw x3 x4 x5=>nm' (fQ' a7u rfl (⟨x0,x1⟩,⟨x2⟩,sw,x3,x4,x5))
end
end Go.Aw
