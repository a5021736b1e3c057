/- Programs: sizes, copies, equalities. No condition. -/
import Derived.Test.YtmcaephohoicnaaGreatvaB2
namespace Go.Aw
open Go.Proofs
attribute [local irreducible] aft blk lpK retK AW A0c
set_option linter.all false
set_option maxRecDepth 100000
def a7Y (x:e8):Nat:=x.Name.length+(x.Args.length+y4 a0X x.Args)
def a1K (x:d7):Nat:=a7Y x.Atom+a0X x.A+a0X x.B
def a0H (x:c8):Nat:=a7Y x.Head+(x.Body.length+y4 a1K x.Body)
def a1J (x:d9):Nat:=x.Name.length
def a5z (x:c4):Nat:=(x.Decls.length+y4 a1J x.Decls)+(x.Rules.length+y4 a0H x.Rules)
def c0s (a:e8) (left:Int) (hpre:0<=left/\left<=1048576):A0c Tryz.prog 37 [(true,[.s a.Name,j4 a.Args]),(false,[.i .i64 left])] [] (.one (false,[.i .i64 (szR left (a7Y a:Nat))])):=by
 refine sx' false false none Tryz.func37 (q' 2 [ao (.box 2 (.t 0)),az 4 0] (q' 5 [am 1,aG 0 2,ao (.lens (.t 7)),ao (.bin .sub (.t 5) (.t 8)),aV 1] (.seq (q' 10 [am 1,ao (.bin .lss (.t 10) (k' 0))] (.cond (.t 11) (q' 4 [ao (.mov (.k (.v false [.c (.i .i64 (-1))])))] .ret) .skip)) (q' 12 [aG 1 2,am 1,ac 83 [13,14],aV 1] (.seq (q' 16 [am 1,ao (.bin .lss (.t 16) (k' 0))] (.cond (.t 17) (q' 4 [ao (.mov (.k (.v false [.c (.i .i64 (-1))])))] .ret) .skip)) (q' 18 [am 1,aV 4] .ret)))))) [.t 4] [(83,[],a7f)] ?_;intro hb hE;simp only [go_sem];repeat' first | apply cj' | intro hc | exact om' | fail
 all_goals ((repeat (simp (disch:=omega) only [a0g] at *))<;>(try simp only [szR,a7Y] at *)<;>(first | omega | (split<;>omega)))
noncomputable def a4g:CT:=k8 (fun (x:e8×Int) h=>c0s x.1 x.2 h)
@[go_sem] def d1y:=fun x0 x1 x2=>nm' (fP' a4g rfl (⟨x0,x1⟩,x2))
def c3i (a:d7) (left:Int) (hpre:0<=left/\left<=1048576):A0c Tryz.prog 84 [(true,[.i .i64 a.Kind,.s a.Atom.Name,j4 a.Atom.Args,.i .i64 a.Op,.s a.A.Var,.i .i64 a.A.Val.N,.s a.A.Val.S,.s a.B.Var,.i .i64 a.B.Val.N,.s a.B.Val.S]),(false,[.i .i64 left])] [] (.one (false,[.i .i64 (szR left (a1K a:Nat))])):=by
 refine sx' false false none Tryz.func84 (q' 2 [ao (.box 10 (.t 0)),az 4 0] (q' 5 [af 1 2,aE 2,am 1,ac 37 [6,7],aV 1] (.seq (q' 9 [am 1,ao (.bin .lss (.t 9) (k' 0))] (.cond (.t 10) (q' 4 [ao (.mov (.k (.v false [.c (.i .i64 (-1))])))] .ret) .skip)) (q' 11 [af 4 2,aE 3,am 1,ac 145 [12,13],aV 1] (.seq (q' 15 [am 1,ao (.bin .lss (.t 15) (k' 0))] (.cond (.t 16) (q' 4 [ao (.mov (.k (.v false [.c (.i .i64 (-1))])))] .ret) .skip)) (q' 17 [af 7 2,aE 3,am 1,ac 145 [18,19],aV 1] (.seq (q' 21 [am 1,ao (.bin .lss (.t 21) (k' 0))] (.cond (.t 22) (q' 4 [ao (.mov (.k (.v false [.c (.i .i64 (-1))])))] .ret) .skip)) (q' 23 [am 1,aV 4] .ret)))))))) [.t 4] [(37,[],a4g),(145,[],a4h)] ?_;intro hb hE;simp only [go_sem];repeat' first | apply cj' | intro hc | exact om' | fail
 all_goals ((repeat (simp (disch:=omega) only [a0g] at *))<;>(try simp only [szR,a1K] at *)<;>(first | omega | (split<;>omega)))
noncomputable def b0t:CT:=k8 (fun (x:d7×Int) h=>c3i x.1 x.2 h)
@[go_sem] def d3q:=fun x0 x1 x2 x3 x4 x5 x6 x7 x8 x9 x10=>nm' (fP' b0t rfl (⟨x0,⟨x1,x2⟩,x3,⟨x4,⟨x5,x6⟩⟩,⟨x7,⟨x8,x9⟩⟩⟩,x10))
def c0u (a:List d7) (left:Int) (hpre:0<=left/\left<=1048576):A0c Tryz.prog 38 [(false,[v7 a]),(false,[.i .i64 left])] [] (.one (false,[.i .i64 (szR left ((a.length+y4 a1K a):Nat))])):=by
 refine sx' false false none Tryz.func38 (q' 4 [aK 0] (q' 6 [aM [1,0],aN,ao (.bin .sub (.t 6) (.t 8)),aV 1] (.seq (q' 10 [am 1,ao (.bin .lss (.t 10) (k' 0))] (.cond (.t 11) (q' 4 [ao (.mov (.k (.v false [.c (.i .i64 (-1))])))] .ret) .skip)) (.seq (q' 5 [aK 0] (.block 0 (.loop (.seq (q' 12 [aM [5,0],aN,ar 12 14] (.cond (.t 15) .skip (.exit 0))) (.seq (.block 1 (q' 18 [aM [0,5],aI 10,aE 10,am 1,ac 84 [21,22],aV 1] (q' 24 [am 1,ao (.bin .lss (.t 24) (k' 0))] (.cond (.t 25) (q' 4 [ao (.mov (.k (.v false [.c (.i .i64 (-1))])))] .ret) .skip)))) (g' 16 [aB 5])))))) (q' 26 [am 1,aV 4] .ret))))) [.t 4] [(84,[],b0t)] ?_;intro hb hE;simp only [go_sem];repeat' first | apply cj' | intro hc | exact om' | fail
 ·all_goals ((repeat (simp (disch:=omega) only [a0g] at *))<;>(try simp only [szR,szR] at *)<;>(first | omega | (split<;>omega)))
 have hw:=a0g (l:=left) (n:=a.length) (by omega) (by omega) (by omega) (by omega);rw [hw] at hc;refine lq' false [0] [] [] (fun i:{i:Nat // i<=a.length/\(a.length:Int)+(y4 a1K (a.take i):Nat)<=left}=>[(5,slV (.i .i64 i.1)),(1,slV (.i .i64 (left - a.length - (y4 a1K (a.take i.1):Nat))))]) nl' nl' (fun i=>a.length - i.1) (⟨0,by simp only [q1E,a2s];omega⟩) ?_;intro S0 hS0 i;obtain ⟨i,hi,ht⟩:=i;simp only [go_sem,hw,hS0];repeat' first | apply cj' | intro hc | exact om' | fail
 ·have h1:=l8 a1K (default:d7) (show i < a.length by omega);have h2:=a0l a1K a (i+1);all_goals ((repeat (simp (disch:=omega) only [a0g] at *))<;>(try simp only [szR,szR] at *)<;>(first | omega | (split<;>omega)))
 ·have h1:=l8 a1K (default:d7) (show i < a.length by omega)
  (refine lpK_n2 (⟨i+1,by omega,by unfold szR at hc;split at hc<;>omega⟩) _ rfl ?_;simp only [go_sem,hw,hS0]<;>repeat' first | apply W8 | exact on' | fail)
  rw [h1];unfold szR at hc ⊢;split at hc<;>omega
 ·have h1:=a3A a1K (show ¬ i < a.length by omega);all_goals ((repeat (simp (disch:=omega) only [a0g] at *))<;>(try simp only [szR,szR] at *)<;>(first | omega | (split<;>omega)))
 all_goals all_goals ((repeat (simp (disch:=omega) only [a0g] at *))<;>(try simp only [szR,szR] at *)<;>(first | omega | (split<;>omega)))
noncomputable def a8x:CT:=k8 (fun (x:(List d7)×Int) h=>c0u x.1 x.2 h)
@[go_sem] def d1A:=fun a x0=>nm' (fP' a8x rfl (a,x0))
def c0w (a:c8) (left:Int) (hpre:0<=left/\left<=1048576):A0c Tryz.prog 8 [(true,[.i .i64 a.Kind,.s a.Head.Name,j4 a.Head.Args,v7 a.Body]),(false,[.i .i64 left])] [] (.one (false,[.i .i64 (szR left (a0H a:Nat))])):=by
 refine sx' false false none Tryz.func8 (q' 2 [ao (.box 4 (.t 0)),az 4 0] (q' 5 [af 1 2,aE 2,am 1,ac 37 [6,7],aV 1] (.seq (q' 9 [am 1,ao (.bin .lss (.t 9) (k' 0))] (.cond (.t 10) (q' 4 [ao (.mov (.k (.v false [.c (.i .i64 (-1))])))] .ret) .skip)) (q' 11 [aG 3 2,am 1,ac 38 [12,13],aV 1] (.seq (q' 15 [am 1,ao (.bin .lss (.t 15) (k' 0))] (.cond (.t 16) (q' 4 [ao (.mov (.k (.v false [.c (.i .i64 (-1))])))] .ret) .skip)) (q' 17 [am 1,aV 4] .ret)))))) [.t 4] [(37,[],a4g),(38,[],a8x)] ?_;intro hb hE;simp only [go_sem];repeat' first | apply cj' | intro hc | exact om' | fail
 all_goals ((repeat (simp (disch:=omega) only [a0g] at *))<;>(try simp only [szR,a0H] at *)<;>(first | omega | (split<;>omega)))
noncomputable def a8z:CT:=k8 (fun (x:c8×Int) h=>c0w x.1 x.2 h)
@[go_sem] def d1C:=fun x0 x1 x2 x3 x4=>nm' (fP' a8z rfl (⟨x0,⟨x1,x2⟩,x3⟩,x4))
def b7Z (a:List c8) (left:Int) (hpre:0<=left/\left<=1048576):A0c Tryz.prog 59 [(false,[j6 a]),(false,[.i .i64 left])] [] (.one (false,[.i .i64 (szR left ((a.length+y4 a0H a):Nat))])):=by
 refine sx' false false none Tryz.func59 (q' 4 [aK 0] (q' 6 [aM [1,0],aN,ao (.bin .sub (.t 6) (.t 8)),aV 1] (.seq (q' 10 [am 1,ao (.bin .lss (.t 10) (k' 0))] (.cond (.t 11) (q' 4 [ao (.mov (.k (.v false [.c (.i .i64 (-1))])))] .ret) .skip)) (.seq (q' 5 [aK 0] (.block 0 (.loop (.seq (q' 12 [aM [5,0],aN,ar 12 14] (.cond (.t 15) .skip (.exit 0))) (.seq (.block 1 (q' 18 [aM [0,5],aI 4,aE 4,am 1,ac 8 [21,22],aV 1] (q' 24 [am 1,ao (.bin .lss (.t 24) (k' 0))] (.cond (.t 25) (q' 4 [ao (.mov (.k (.v false [.c (.i .i64 (-1))])))] .ret) .skip)))) (g' 16 [aB 5])))))) (q' 26 [am 1,aV 4] .ret))))) [.t 4] [(8,[],a8z)] ?_;intro hb hE;simp only [go_sem];repeat' first | apply cj' | intro hc | exact om' | fail
 ·all_goals ((repeat (simp (disch:=omega) only [a0g] at *))<;>(try simp only [szR,szR] at *)<;>(first | omega | (split<;>omega)))
 have hw:=a0g (l:=left) (n:=a.length) (by omega) (by omega) (by omega) (by omega);rw [hw] at hc;refine lq' false [0] [] [] (fun i:{i:Nat // i<=a.length/\(a.length:Int)+(y4 a0H (a.take i):Nat)<=left}=>[(5,slV (.i .i64 i.1)),(1,slV (.i .i64 (left - a.length - (y4 a0H (a.take i.1):Nat))))]) nl' nl' (fun i=>a.length - i.1) (⟨0,by simp only [q1E,a2s];omega⟩) ?_;intro S0 hS0 i;obtain ⟨i,hi,ht⟩:=i;simp only [go_sem,hw,hS0];repeat' first | apply cj' | intro hc | exact om' | fail
 ·have h1:=l8 a0H (default:c8) (show i < a.length by omega);have h2:=a0l a0H a (i+1);all_goals ((repeat (simp (disch:=omega) only [a0g] at *))<;>(try simp only [szR,szR] at *)<;>(first | omega | (split<;>omega)))
 ·have h1:=l8 a0H (default:c8) (show i < a.length by omega)
  (refine lpK_n2 (⟨i+1,by omega,by unfold szR at hc;split at hc<;>omega⟩) _ rfl ?_;simp only [go_sem,hw,hS0]<;>repeat' first | apply W8 | exact on' | fail)
  rw [h1];unfold szR at hc ⊢;split at hc<;>omega
 ·have h1:=a3A a0H (show ¬ i < a.length by omega);all_goals ((repeat (simp (disch:=omega) only [a0g] at *))<;>(try simp only [szR,szR] at *)<;>(first | omega | (split<;>omega)))
 all_goals all_goals ((repeat (simp (disch:=omega) only [a0g] at *))<;>(try simp only [szR,szR] at *)<;>(first | omega | (split<;>omega)))
noncomputable def a7d:CT:=k8 (fun (x:(List c8)×Int) h=>b7Z x.1 x.2 h)
@[go_sem] def c9p:=fun a x0=>nm' (fP' a7d rfl (a,x0))
def c0t (a:d9) (left:Int) (hpre:0<=left/\left<=1048576):A0c Tryz.prog 117 [(true,[.i .i64 a.Kind,.s a.Name,.i .i64 a.Arity]),(false,[.i .i64 left])] [] (.one (false,[.i .i64 (szR left (a1J a:Nat))])):=by
 refine sx' false false none Tryz.func117 (q' 2 [ao (.box 3 (.t 0)),az 4 0] (q' 5 [am 1,aG 1 2,ao (.lens (.t 7)),ao (.bin .sub (.t 5) (.t 8)),aV 1] (.seq (q' 10 [am 1,ao (.bin .lss (.t 10) (k' 0))] (.cond (.t 11) (q' 4 [ao (.mov (.k (.v false [.c (.i .i64 (-1))])))] .ret) .skip)) (q' 12 [am 1,aV 4] .ret)))) [.t 4] [] ?_;intro hb hE;simp only [go_sem];repeat' first | apply cj' | intro hc | exact om' | fail
 all_goals ((repeat (simp (disch:=omega) only [a0g] at *))<;>(try simp only [szR,a1J] at *)<;>(first | omega | (split<;>omega)))
noncomputable def a8w:CT:=k8 (fun (x:d9×Int) h=>c0t x.1 x.2 h)
@[go_sem] def d1z:=fun x0 x1 x2 x3=>nm' (fP' a8w rfl (⟨x0,x1,x2⟩,x3))
def b7X (a:List d9) (left:Int) (hpre:0<=left/\left<=1048576):A0c Tryz.prog 58 [(false,[j9 a]),(false,[.i .i64 left])] [] (.one (false,[.i .i64 (szR left ((a.length+y4 a1J a):Nat))])):=by
 refine sx' false false none Tryz.func58 (q' 4 [aK 0] (q' 6 [aM [1,0],aN,ao (.bin .sub (.t 6) (.t 8)),aV 1] (.seq (q' 10 [am 1,ao (.bin .lss (.t 10) (k' 0))] (.cond (.t 11) (q' 4 [ao (.mov (.k (.v false [.c (.i .i64 (-1))])))] .ret) .skip)) (.seq (q' 5 [aK 0] (.block 0 (.loop (.seq (q' 12 [aM [5,0],aN,ar 12 14] (.cond (.t 15) .skip (.exit 0))) (.seq (.block 1 (q' 18 [aM [0,5],aI 3,aE 3,am 1,ac 117 [21,22],aV 1] (q' 24 [am 1,ao (.bin .lss (.t 24) (k' 0))] (.cond (.t 25) (q' 4 [ao (.mov (.k (.v false [.c (.i .i64 (-1))])))] .ret) .skip)))) (g' 16 [aB 5])))))) (q' 26 [am 1,aV 4] .ret))))) [.t 4] [(117,[],a8w)] ?_;intro hb hE;simp only [go_sem];repeat' first | apply cj' | intro hc | exact om' | fail
 ·all_goals ((repeat (simp (disch:=omega) only [a0g] at *))<;>(try simp only [szR,szR] at *)<;>(first | omega | (split<;>omega)))
 have hw:=a0g (l:=left) (n:=a.length) (by omega) (by omega) (by omega) (by omega);rw [hw] at hc;refine lq' false [0] [] [] (fun i:{i:Nat // i<=a.length/\(a.length:Int)+(y4 a1J (a.take i):Nat)<=left}=>[(5,slV (.i .i64 i.1)),(1,slV (.i .i64 (left - a.length - (y4 a1J (a.take i.1):Nat))))]) nl' nl' (fun i=>a.length - i.1) (⟨0,by simp only [q1E,a2s];omega⟩) ?_;intro S0 hS0 i;obtain ⟨i,hi,ht⟩:=i;simp only [go_sem,hw,hS0];repeat' first | apply cj' | intro hc | exact om' | fail
 ·have h1:=l8 a1J (default:d9) (show i < a.length by omega);have h2:=a0l a1J a (i+1);all_goals ((repeat (simp (disch:=omega) only [a0g] at *))<;>(try simp only [szR,szR] at *)<;>(first | omega | (split<;>omega)))
 ·have h1:=l8 a1J (default:d9) (show i < a.length by omega)
  (refine lpK_n2 (⟨i+1,by omega,by unfold szR at hc;split at hc<;>omega⟩) _ rfl ?_;simp only [go_sem,hw,hS0]<;>repeat' first | apply W8 | exact on' | fail)
  rw [h1];unfold szR at hc ⊢;split at hc<;>omega
 ·have h1:=a3A a1J (show ¬ i < a.length by omega);all_goals ((repeat (simp (disch:=omega) only [a0g] at *))<;>(try simp only [szR,szR] at *)<;>(first | omega | (split<;>omega)))
 all_goals all_goals ((repeat (simp (disch:=omega) only [a0g] at *))<;>(try simp only [szR,szR] at *)<;>(first | omega | (split<;>omega)))
noncomputable def a7b:CT:=k8 (fun (x:(List d9)×Int) h=>b7X x.1 x.2 h)
@[go_sem] def c9n:=fun a x0=>nm' (fP' a7b rfl (a,x0))
def b2C (a:c4) (left:Int) (hpre:0<=left/\left<=1048576):A0c Tryz.prog 21 [(true,[j9 a.Decls,j6 a.Rules]),(false,[.i .i64 left])] [] (.one (false,[.i .i64 (szR left (a5z a:Nat))])):=by
 refine sx' false false none Tryz.func21 (q' 2 [ao (.box 2 (.t 0)),az 4 0] (q' 5 [aG 0 2,am 1,ac 58 [6,7],aV 1] (.seq (q' 9 [am 1,ao (.bin .lss (.t 9) (k' 0))] (.cond (.t 10) (q' 4 [ao (.mov (.k (.v false [.c (.i .i64 (-1))])))] .ret) .skip)) (q' 11 [aG 1 2,am 1,ac 59 [12,13],aV 1] (.seq (q' 15 [am 1,ao (.bin .lss (.t 15) (k' 0))] (.cond (.t 16) (q' 4 [ao (.mov (.k (.v false [.c (.i .i64 (-1))])))] .ret) .skip)) (q' 17 [am 1,aV 4] .ret)))))) [.t 4] [(58,[],a7b),(59,[],a7d)] ?_;intro hb hE;simp only [go_sem];repeat' first | apply cj' | intro hc | exact om' | fail
 all_goals ((repeat (simp (disch:=omega) only [a0g] at *))<;>(try simp only [szR,a5z] at *)<;>(first | omega | (split<;>omega)))
noncomputable def a4G:CT:=k8 (fun (x:c4×Int) h=>b2C x.1 x.2 h)
@[go_sem] def c6l:=fun x0 x1 x2=>nm' (fP' a4G rfl (⟨x0,x1⟩,x2))
def c0y (a:e8) (hpre:(a7Y a:Int)<=1048576):A0c Tryz.prog 42 [(true,[.s a.Name,j4 a.Args])] [] (.one (true,[.s a.Name,c2M a.Args])):=by
 refine sx' true false none Tryz.func42 (q' 1 [ao (.box 2 (.t 0)),aw [.s,.sl i5]] (q' 3 [aw [.s,.sl i5]] (q' 4 [aG 0 1,af 0 3,aS 1 6 5] (q' 7 [aG 1 1,ac 92 [8],af 1 3,aS 1 10 9] (q' 11 [ae 2 3,aS 2 2 11] .ret))))) [.c 2 true 2] [(92,[],a7k)] ?_;intro hb hE;simp only [go_sem];repeat' first | apply cj' | intro hc | exact om' | fail
 all_goals (simp only [a7Y] at *;omega)
noncomputable def a4i:CT:=k8 (fun (x:e8) h=>c0y x h)
@[go_sem] def d1E:=fun x0 x1=>nm' (fP' a4i rfl ⟨x0,x1⟩)
def c3l (a:d7) (hpre:(a1K a:Int)<=1048576):A0c Tryz.prog 93 [(true,[.i .i64 a.Kind,.s a.Atom.Name,j4 a.Atom.Args,.i .i64 a.Op,.s a.A.Var,.i .i64 a.A.Val.N,.s a.A.Val.S,.s a.B.Var,.i .i64 a.B.Val.N,.s a.B.Val.S])] [] (.one (true,[.i .i64 a.Kind,.s a.Atom.Name,c2M a.Atom.Args,.i .i64 a.Op,.s a.A.Var,.i .i64 a.A.Val.N,.s a.A.Val.S,.s a.B.Var,.i .i64 a.B.Val.N,.s a.B.Val.S])):=by
 refine sx' true false none Tryz.func93 (q' 1 [ao (.box 10 (.t 0)),aw [.i .i64,.s,.sl i5,.i .i64,.s,.i .i64,.s,.s,.i .i64,.s]] (q' 3 [aw [.i .i64,.s,.sl i5,.i .i64,.s,.i .i64,.s,.s,.i .i64,.s]] (q' 4 [aG 0 1,af 0 3,aS 1 6 5] (q' 7 [af 1 1,aE 2,ac 42 [8],af 1 3,aS 2 10 9] (q' 11 [aG 3 1,af 3 3,aS 1 13 12] (q' 14 [af 4 1,aE 3,ac 163 [15],af 4 3,aS 3 17 16] (q' 18 [af 7 1,aE 3,ac 163 [19],af 7 3,aS 3 21 20] (q' 22 [ae 10 3,aS 10 2 22] .ret)))))))) [.c 2 true 10] [(42,[],a4i),(163,[],a4j)] ?_;intro hb hE;simp only [go_sem];repeat' first | apply cj' | intro hc | exact om' | fail
 all_goals (simp only [a1K] at *;omega)
noncomputable def b0w:CT:=k8 (fun (x:d7) h=>c3l x h)
@[go_sem] def d3t:=fun x0 x1 x2 x3 x4 x5 x6 x7 x8 x9=>nm' (fP' b0w rfl ⟨x0,⟨x1,x2⟩,x3,⟨x4,⟨x5,x6⟩⟩,⟨x7,⟨x8,x9⟩⟩⟩)
def c0A (a:List d7) (hpre:(((a.length+y4 a1K a):Nat):Int)<=1048576):A0c Tryz.prog 43 [(false,[v7 a])] [] (.one (false,[kDLit a])):=by
 refine sx' true false none Tryz.func43 (q' 2 [ao (.mov (.k (.v false [.nl b1t])))] (q' 5 [am 0,aN,ao (.mks 10 136 [.i .i64,.s,.sl i5,.i .i64,.s,.i .i64,.s,.s,.i .i64,.s] (.t 6) (.t 6)),aV 3] (.seq (q' 4 [aK 0] (.block 0 (.loop (.seq (q' 8 [aM [4,0],aN,ar 8 10] (.cond (.t 11) .skip (.exit 0))) (.seq (.block 1 (g' 14 [aM [3,4,0,4],aI 10,aE 10,ac 93 [19],ai 10 14 15,aS 10 21 20])) (g' 12 [aB 4])))))) (q' 22 [am 3,aV 2] .ret)))) [.t 2] [(93,[],b0w)] ?_;intro hb hE;simp only [go_sem,b5A];repeat' first | apply cj' | intro hc | exact om' | fail
 refine lq' true [0,3] [] [] (fun i:{p:Nat×(List d7) // p.1<=a.length/\p.2.length=a.length/\p.2.take p.1=a.take p.1}=>[(4,slV (.i .i64 i.1.1))]) nl' (fun i=>[(896,zTLit,i.1.2.map (d7.cells true true))]) (fun i=>a.length - i.1.1) (⟨(0,List.replicate a.length default),by simp⟩) ?_;intro S0 hS0 i;obtain ⟨⟨i,L⟩,hi,hl,ht⟩:=i;simp only at hi hl ht;have hg:=a7Z a1K a i default rfl;simp only [go_sem,b5A,hS0];repeat' first | apply cj' | intro hc | exact om' | fail
 ·(refine lpK_n2 (⟨(i+1,L.set i (a.getD i default)),by simp only;omega,by simp [hl],a0r hl ht (by omega)⟩) _ rfl ?_;simp only [go_sem,b5A,hS0]<;>repeat' first | apply W8 | exact on' | fail)
 ·obtain rfl:=p7 hl ht (by omega);rfl
noncomputable def a8B:CT:=k8 (fun (x:(List d7)) h=>c0A x h)
@[go_sem] def d1G:=fun a=>nm' (fP' a8B rfl a)
def c0C (a:c8) (hpre:(a0H a:Int)<=1048576):A0c Tryz.prog 11 [(true,[.i .i64 a.Kind,.s a.Head.Name,j4 a.Head.Args,v7 a.Body])] [] (.one (true,[.i .i64 a.Kind,.s a.Head.Name,c2M a.Head.Args,kDLit a.Body])):=by
 refine sx' true false none Tryz.func11 (q' 1 [ao (.box 4 (.t 0)),aw [.i .i64,.s,.sl i5,.sl b1t]] (q' 3 [aw [.i .i64,.s,.sl i5,.sl b1t]] (q' 4 [aG 0 1,af 0 3,aS 1 6 5] (q' 7 [af 1 1,aE 2,ac 42 [8],af 1 3,aS 2 10 9] (q' 11 [aG 3 1,ac 43 [12],af 3 3,aS 1 14 13] (q' 15 [ae 4 3,aS 4 2 15] .ret)))))) [.c 2 true 4] [(42,[],a4i),(43,[],a8B)] ?_;intro hb hE;simp only [go_sem];repeat' first | apply cj' | intro hc | exact om' | fail
 all_goals (simp only [a0H] at *;omega)
noncomputable def a8D:CT:=k8 (fun (x:c8) h=>c0C x h)
@[go_sem] def d1I:=fun x0 x1 x2 x3=>nm' (fP' a8D rfl ⟨x0,⟨x1,x2⟩,x3⟩)
def b8f (a:List c8) (hpre:(((a.length+y4 a0H a):Nat):Int)<=1048576):A0c Tryz.prog 62 [(false,[j6 a])] [] (.one (false,[d4L a])):=by
 refine sx' true false none Tryz.func62 (q' 2 [ao (.mov (.k (.v false [.nl b9b])))] (q' 5 [am 0,aN,ao (.mks 4 72 [.i .i64,.s,.sl i5,.sl b1t] (.t 6) (.t 6)),aV 3] (.seq (q' 4 [aK 0] (.block 0 (.loop (.seq (q' 8 [aM [4,0],aN,ar 8 10] (.cond (.t 11) .skip (.exit 0))) (.seq (.block 1 (g' 14 [aM [3,4,0,4],aI 4,aE 4,ac 11 [19],ai 4 14 15,aS 4 21 20])) (g' 12 [aB 4])))))) (q' 22 [am 3,aV 2] .ret)))) [.t 2] [(11,[],a8D)] ?_;intro hb hE;simp only [go_sem,b1v];repeat' first | apply cj' | intro hc | exact om' | fail
 refine lq' true [0,3] [] [] (fun i:{p:Nat×(List c8) // p.1<=a.length/\p.2.length=a.length/\p.2.take p.1=a.take p.1}=>[(4,slV (.i .i64 i.1.1))]) nl' (fun i=>[(896,d5E,i.1.2.map (c8.cells true true))]) (fun i=>a.length - i.1.1) (⟨(0,List.replicate a.length default),by simp⟩) ?_;intro S0 hS0 i;obtain ⟨⟨i,L⟩,hi,hl,ht⟩:=i;simp only at hi hl ht;have hg:=a7Z a0H a i default rfl;simp only [go_sem,b1v,hS0];repeat' first | apply cj' | intro hc | exact om' | fail
 ·(refine lpK_n2 (⟨(i+1,L.set i (a.getD i default)),by simp only;omega,by simp [hl],a0r hl ht (by omega)⟩) _ rfl ?_;simp only [go_sem,b1v,hS0]<;>repeat' first | apply W8 | exact on' | fail)
 ·obtain rfl:=p7 hl ht (by omega);rfl
noncomputable def a7i:CT:=k8 (fun (x:(List c8)) h=>b8f x h)
@[go_sem] def c9v:=fun a=>nm' (fP' a7i rfl a)
def c0z (a:d9):A0c Tryz.prog 119 [(true,[.i .i64 a.Kind,.s a.Name,.i .i64 a.Arity])] [] (.one (true,[.i .i64 a.Kind,.s a.Name,.i .i64 a.Arity])):=by
 refine sx' true false none Tryz.func119 (q' 1 [ao (.box 3 (.t 0)),aw [.i .i64,.s,.i .i64]] (q' 3 [aw [.i .i64,.s,.i .i64]] (q' 4 [aG 0 1,af 0 3,aS 1 6 5] (q' 7 [aG 1 1,af 1 3,aS 1 9 8] (q' 10 [aG 2 1,af 2 3,aS 1 12 11] (q' 13 [ae 3 3,aS 3 2 13] .ret)))))) [.c 2 true 3] [] ?_;intro hb hE;simp only [go_sem];repeat' first | apply cj' | intro hc | exact om' | fail
noncomputable def a8A:CT:=i6 (fun (x:d9)=>c0z x)
@[go_sem] def d1F:=fun x0 x1 x2=>nm' (fQ' a8A rfl ⟨x0,x1,x2⟩)
def b8d (a:List d9) (hpre:(((a.length+y4 a1J a):Nat):Int)<=1048576):A0c Tryz.prog 61 [(false,[j9 a])] [] (.one (false,[d4N a])):=by
 refine sx' true false none Tryz.func61 (q' 2 [ao (.mov (.k (.v false [.nl a9u])))] (q' 5 [am 0,aN,ao (.mks 3 32 [.i .i64,.s,.i .i64] (.t 6) (.t 6)),aV 3] (.seq (q' 4 [aK 0] (.block 0 (.loop (.seq (q' 8 [aM [4,0],aN,ar 8 10] (.cond (.t 11) .skip (.exit 0))) (.seq (.block 1 (g' 14 [aM [3,4,0,4],aI 3,aE 3,ac 119 [19],ai 3 14 15,aS 3 21 20])) (g' 12 [aB 4])))))) (q' 22 [am 3,aV 2] .ret)))) [.t 2] [(119,[],a8A)] ?_;intro hb hE;simp only [go_sem,b1u];repeat' first | apply cj' | intro hc | exact om' | fail
 refine lq' true [0,3] [] [] (fun i:{p:Nat×(List d9) // p.1<=a.length/\p.2.length=a.length/\p.2.take p.1=a.take p.1}=>[(4,slV (.i .i64 i.1.1))]) nl' (fun i=>[(896,a9u,i.1.2.map d9.cells)]) (fun i=>a.length - i.1.1) (⟨(0,List.replicate a.length default),by simp⟩) ?_;intro S0 hS0 i;obtain ⟨⟨i,L⟩,hi,hl,ht⟩:=i;simp only at hi hl ht;simp only [go_sem,b1u,hS0];repeat' first | apply cj' | intro hc | exact om' | fail
 ·(refine lpK_n2 (⟨(i+1,L.set i (a.getD i default)),by simp only;omega,by simp [hl],a0r hl ht (by omega)⟩) _ rfl ?_;simp only [go_sem,b1u,hS0]<;>repeat' first | apply W8 | exact on' | fail)
 ·obtain rfl:=p7 hl ht (by omega);rfl
noncomputable def a7g:CT:=k8 (fun (x:(List d9)) h=>b8d x h)
@[go_sem] def c9t:=fun a=>nm' (fP' a7g rfl a)
def b2D (a:c4) (hpre:(a5z a:Int)<=1048576):A0c Tryz.prog 23 [(true,[j9 a.Decls,j6 a.Rules])] [] (.one (true,[d4N a.Decls,d4L a.Rules])):=by
 refine sx' true false none Tryz.func23 (q' 1 [ao (.box 2 (.t 0)),aw [.sl a9u,.sl b9b]] (q' 3 [aw [.sl a9u,.sl b9b]] (q' 4 [aG 0 1,ac 61 [5],af 0 3,aS 1 7 6] (q' 8 [aG 1 1,ac 62 [9],af 1 3,aS 1 11 10] (q' 12 [ae 2 3,aS 2 2 12] .ret))))) [.c 2 true 2] [(61,[],a7g),(62,[],a7i)] ?_;intro hb hE;simp only [go_sem];repeat' first | apply cj' | intro hc | exact om' | fail
 all_goals (simp only [a5z] at *;omega)
noncomputable def a4H:CT:=k8 (fun (x:c4) h=>b2D x h)
@[go_sem] def c6m:=fun x0 x1=>nm' (fP' a4H rfl ⟨x0,x1⟩)
def c0m (a:e8) (b:e8):A0c Tryz.prog 50 [(true,[.s a.Name,j4 a.Args]),(true,[.s b.Name,j4 b.Args])] [] (.one (false,[.b (decide (a=b))])):=by
 refine sx' false false none Tryz.func50 (q' 2 [ao (.box 2 (.t 0)),ao (.box 2 (.t 1)),ao (.mov (bb false))] (.seq (q' 5 [aG 0 2,aG 0 3,ao (.bin .neq (.t 6) (.t 8))] (.cond (.t 9) (q' 0 [ab 4 false] .ret) .skip)) (.seq (q' 10 [aG 1 2,aG 1 3,ac 110 [11,13],ao (.not (.t 14))] (.cond (.t 15) (q' 0 [ab 4 false] .ret) .skip)) (q' 0 [ab 4 true] .ret)))) [.t 4] [(110,[],a7a)] ?_;intro hb hE;simp only [go_sem];repeat' first | apply cj' | intro hc | exact om' | fail
 all_goals (cases a;cases b;simp_all)
noncomputable def a4e:CT:=i6 (fun (x:e8×e8)=>c0m x.1 x.2)
@[go_sem] def d1s:=fun x0 x1 x2 x3=>nm' (fQ' a4e rfl (⟨x0,x1⟩,⟨x2,x3⟩))
def c3f (a:d7) (b:d7):A0c Tryz.prog 111 [(true,[.i .i64 a.Kind,.s a.Atom.Name,j4 a.Atom.Args,.i .i64 a.Op,.s a.A.Var,.i .i64 a.A.Val.N,.s a.A.Val.S,.s a.B.Var,.i .i64 a.B.Val.N,.s a.B.Val.S]),(true,[.i .i64 b.Kind,.s b.Atom.Name,j4 b.Atom.Args,.i .i64 b.Op,.s b.A.Var,.i .i64 b.A.Val.N,.s b.A.Val.S,.s b.B.Var,.i .i64 b.B.Val.N,.s b.B.Val.S])] [] (.one (false,[.b (decide (a=b))])):=by
 refine sx' false false none Tryz.func111 (q' 2 [ao (.box 10 (.t 0)),ao (.box 10 (.t 1)),ao (.mov (bb false))] (.seq (q' 5 [aG 0 2,aG 0 3,ao (.bin .neq (.t 6) (.t 8))] (.cond (.t 9) (q' 0 [ab 4 false] .ret) .skip)) (.seq (q' 10 [af 1 2,aE 2,af 1 3,aE 2,ac 50 [11,13],ao (.not (.t 14))] (.cond (.t 15) (q' 0 [ab 4 false] .ret) .skip)) (.seq (q' 16 [aG 3 2,aG 3 3,ao (.bin .neq (.t 17) (.t 19))] (.cond (.t 20) (q' 0 [ab 4 false] .ret) .skip)) (.seq (q' 21 [af 4 2,aE 3,af 4 3,aE 3,ac 192 [22,24],ao (.not (.t 25))] (.cond (.t 26) (q' 0 [ab 4 false] .ret) .skip)) (.seq (q' 27 [af 7 2,aE 3,af 7 3,aE 3,ac 192 [28,30],ao (.not (.t 31))] (.cond (.t 32) (q' 0 [ab 4 false] .ret) .skip)) (q' 0 [ab 4 true] .ret))))))) [.t 4] [(50,[],a4e),(192,[],a4f)] ?_;intro hb hE;simp only [go_sem];repeat' first | apply cj' | intro hc | exact om' | fail
 all_goals (cases a;cases b;simp_all)
noncomputable def b0q:CT:=i6 (fun (x:d7×d7)=>c3f x.1 x.2)
@[go_sem] def d3n:=fun x0 x1 x2 x3 x4 x5 x6 x7 x8 x9 x10 x11 x12 x13 x14 x15 x16 x17 x18 x19=>nm' (fQ' b0q rfl (⟨x0,⟨x1,x2⟩,x3,⟨x4,⟨x5,x6⟩⟩,⟨x7,⟨x8,x9⟩⟩⟩,⟨x10,⟨x11,x12⟩,x13,⟨x14,⟨x15,x16⟩⟩,⟨x17,⟨x18,x19⟩⟩⟩))
def c0o (a:List d7) (b:List d7):A0c Tryz.prog 51 [(false,[v7 a]),(false,[v7 b])] [] (.one (false,[.b (decide (a=b))])):=by
 refine sx' false false none Tryz.func51 (q' 0 [ab 4 false] (.seq (q' 6 [am 0,aN,am 1,aN,ao (.bin .neq (.t 7) (.t 9))] (.cond (.t 10) (q' 0 [ab 4 false] .ret) .skip)) (.seq (q' 5 [aK 0] (.block 0 (.loop (.seq (q' 11 [aM [5,0],aN,ar 11 13] (.cond (.t 14) .skip (.exit 0))) (.seq (.block 1 (.seq (G' 17 [aM [0,5],aI 10,aE 10,aM [1,5],aI 10,aE 10,ac 111 [20,24],ao (.not (.t 25))]) (.cond (.t 26) (q' 0 [ab 4 false] .ret) .skip))) (g' 15 [aB 5])))))) (q' 0 [ab 4 true] .ret)))) [.t 4] [(111,[],b0q)] ?_;intro hb hE;simp only [go_sem];repeat' first | apply cj' | intro hc | exact om' | fail
 ·symm;rw [q1A];rintro rfl;simp at hc
 have hl:a.length=b.length:=by simpa [q2P] using hc
 refine lq' false [0,1] [] [] (fun i:{i:Nat // i<=a.length/\a.take i=b.take i}=>[(5,slV (.i .i64 i.1))]) nl' nl' (fun i=>a.length - i.1) (⟨0,by simp⟩) ?_;intro S0 hS0 i;obtain ⟨i,hi,ht⟩:=i;simp only [go_sem,hS0];repeat' first | apply cj' | intro hc | exact om' | fail
 ·exact (V4 (a1j default (i:=i) (by simpa using hc))).symm
 ·exact nx0 ⟨i+1,by omega,w5 ht (by omega) (by omega) (d:=default) (by simpa using hc)⟩
 ·exact (V1 (p7 hl ht (by omega))).symm
noncomputable def a8t:CT:=i6 (fun (x:(List d7)×(List d7))=>c0o x.1 x.2)
@[go_sem] def d1u:=fun a b=>nm' (fQ' a8t rfl (a,b))
def c0q (a:c8) (b:c8):A0c Tryz.prog 15 [(true,[.i .i64 a.Kind,.s a.Head.Name,j4 a.Head.Args,v7 a.Body]),(true,[.i .i64 b.Kind,.s b.Head.Name,j4 b.Head.Args,v7 b.Body])] [] (.one (false,[.b (decide (a=b))])):=by
 refine sx' false false none Tryz.func15 (q' 2 [ao (.box 4 (.t 0)),ao (.box 4 (.t 1)),ao (.mov (bb false))] (.seq (q' 5 [aG 0 2,aG 0 3,ao (.bin .neq (.t 6) (.t 8))] (.cond (.t 9) (q' 0 [ab 4 false] .ret) .skip)) (.seq (q' 10 [af 1 2,aE 2,af 1 3,aE 2,ac 50 [11,13],ao (.not (.t 14))] (.cond (.t 15) (q' 0 [ab 4 false] .ret) .skip)) (.seq (q' 16 [aG 3 2,aG 3 3,ac 51 [17,19],ao (.not (.t 20))] (.cond (.t 21) (q' 0 [ab 4 false] .ret) .skip)) (q' 0 [ab 4 true] .ret))))) [.t 4] [(50,[],a4e),(51,[],a8t)] ?_;intro hb hE;simp only [go_sem];repeat' first | apply cj' | intro hc | exact om' | fail
 all_goals (cases a;cases b;simp_all)
noncomputable def a8v:CT:=i6 (fun (x:c8×c8)=>c0q x.1 x.2)
@[go_sem] def d1w:=fun x0 x1 x2 x3 x4 x5 x6 x7=>nm' (fQ' a8v rfl (⟨x0,⟨x1,x2⟩,x3⟩,⟨x4,⟨x5,x6⟩,x7⟩))
def b7T (a:List c8) (b:List c8):A0c Tryz.prog 65 [(false,[j6 a]),(false,[j6 b])] [] (.one (false,[.b (decide (a=b))])):=by
 refine sx' false false none Tryz.func65 (q' 0 [ab 4 false] (.seq (q' 6 [am 0,aN,am 1,aN,ao (.bin .neq (.t 7) (.t 9))] (.cond (.t 10) (q' 0 [ab 4 false] .ret) .skip)) (.seq (q' 5 [aK 0] (.block 0 (.loop (.seq (q' 11 [aM [5,0],aN,ar 11 13] (.cond (.t 14) .skip (.exit 0))) (.seq (.block 1 (.seq (G' 17 [aM [0,5],aI 4,aE 4,aM [1,5],aI 4,aE 4,ac 15 [20,24],ao (.not (.t 25))]) (.cond (.t 26) (q' 0 [ab 4 false] .ret) .skip))) (g' 15 [aB 5])))))) (q' 0 [ab 4 true] .ret)))) [.t 4] [(15,[],a8v)] ?_;intro hb hE;simp only [go_sem];repeat' first | apply cj' | intro hc | exact om' | fail
 ·symm;rw [q1A];rintro rfl;simp at hc
 have hl:a.length=b.length:=by simpa [q2P] using hc
 refine lq' false [0,1] [] [] (fun i:{i:Nat // i<=a.length/\a.take i=b.take i}=>[(5,slV (.i .i64 i.1))]) nl' nl' (fun i=>a.length - i.1) (⟨0,by simp⟩) ?_;intro S0 hS0 i;obtain ⟨i,hi,ht⟩:=i;simp only [go_sem,hS0];repeat' first | apply cj' | intro hc | exact om' | fail
 ·exact (V4 (a1j default (i:=i) (by simpa using hc))).symm
 ·exact nx0 ⟨i+1,by omega,w5 ht (by omega) (by omega) (d:=default) (by simpa using hc)⟩
 ·exact (V1 (p7 hl ht (by omega))).symm
noncomputable def a6Y:CT:=i6 (fun (x:(List c8)×(List c8))=>b7T x.1 x.2)
@[go_sem] def c9j:=fun a b=>nm' (fQ' a6Y rfl (a,b))
def c0n (a:d9) (b:d9):A0c Tryz.prog 123 [(true,[.i .i64 a.Kind,.s a.Name,.i .i64 a.Arity]),(true,[.i .i64 b.Kind,.s b.Name,.i .i64 b.Arity])] [] (.one (false,[.b (decide (a=b))])):=by
 refine sx' false false none Tryz.func123 (q' 2 [ao (.box 3 (.t 0)),ao (.box 3 (.t 1)),ao (.mov (bb false))] (.seq (q' 5 [aG 0 2,aG 0 3,ao (.bin .neq (.t 6) (.t 8))] (.cond (.t 9) (q' 0 [ab 4 false] .ret) .skip)) (.seq (q' 10 [aG 1 2,aG 1 3,ao (.bin .neq (.t 11) (.t 13))] (.cond (.t 14) (q' 0 [ab 4 false] .ret) .skip)) (.seq (q' 15 [aG 2 2,aG 2 3,ao (.bin .neq (.t 16) (.t 18))] (.cond (.t 19) (q' 0 [ab 4 false] .ret) .skip)) (q' 0 [ab 4 true] .ret))))) [.t 4] [] ?_;intro hb hE;simp only [go_sem];repeat' first | apply cj' | intro hc | exact om' | fail
 all_goals (cases a;cases b;simp_all)
noncomputable def a8s:CT:=i6 (fun (x:d9×d9)=>c0n x.1 x.2)
@[go_sem] def d1t:=fun x0 x1 x2 x3 x4 x5=>nm' (fQ' a8s rfl (⟨x0,x1,x2⟩,⟨x3,x4,x5⟩))
def b7R (a:List d9) (b:List d9):A0c Tryz.prog 64 [(false,[j9 a]),(false,[j9 b])] [] (.one (false,[.b (decide (a=b))])):=by
 refine sx' false false none Tryz.func64 (q' 0 [ab 4 false] (.seq (q' 6 [am 0,aN,am 1,aN,ao (.bin .neq (.t 7) (.t 9))] (.cond (.t 10) (q' 0 [ab 4 false] .ret) .skip)) (.seq (q' 5 [aK 0] (.block 0 (.loop (.seq (q' 11 [aM [5,0],aN,ar 11 13] (.cond (.t 14) .skip (.exit 0))) (.seq (.block 1 (.seq (G' 17 [aM [0,5],aI 3,aE 3,aM [1,5],aI 3,aE 3,ac 123 [20,24],ao (.not (.t 25))]) (.cond (.t 26) (q' 0 [ab 4 false] .ret) .skip))) (g' 15 [aB 5])))))) (q' 0 [ab 4 true] .ret)))) [.t 4] [(123,[],a8s)] ?_;intro hb hE;simp only [go_sem];repeat' first | apply cj' | intro hc | exact om' | fail
 ·symm;rw [q1A];rintro rfl;simp at hc
 have hl:a.length=b.length:=by simpa [q2P] using hc
 refine lq' false [0,1] [] [] (fun i:{i:Nat // i<=a.length/\a.take i=b.take i}=>[(5,slV (.i .i64 i.1))]) nl' nl' (fun i=>a.length - i.1) (⟨0,by simp⟩) ?_;intro S0 hS0 i;obtain ⟨i,hi,ht⟩:=i;simp only [go_sem,hS0];repeat' first | apply cj' | intro hc | exact om' | fail
 ·exact (V4 (a1j default (i:=i) (by simpa using hc))).symm
 ·exact nx0 ⟨i+1,by omega,w5 ht (by omega) (by omega) (d:=default) (by simpa using hc)⟩
 ·exact (V1 (p7 hl ht (by omega))).symm
noncomputable def a6W:CT:=i6 (fun (x:(List d9)×(List d9))=>b7R x.1 x.2)
@[go_sem] def c9h:=fun a b=>nm' (fQ' a6W rfl (a,b))
def b2B (a:c4) (b:c4):A0c Tryz.prog 25 [(true,[j9 a.Decls,j6 a.Rules]),(true,[j9 b.Decls,j6 b.Rules])] [] (.one (false,[.b (decide (a=b))])):=by
 refine sx' false false none Tryz.func25 (q' 2 [ao (.box 2 (.t 0)),ao (.box 2 (.t 1)),ao (.mov (bb false))] (.seq (q' 5 [aG 0 2,aG 0 3,ac 64 [6,8],ao (.not (.t 9))] (.cond (.t 10) (q' 0 [ab 4 false] .ret) .skip)) (.seq (q' 11 [aG 1 2,aG 1 3,ac 65 [12,14],ao (.not (.t 15))] (.cond (.t 16) (q' 0 [ab 4 false] .ret) .skip)) (q' 0 [ab 4 true] .ret)))) [.t 4] [(64,[],a6W),(65,[],a6Y)] ?_;intro hb hE;simp only [go_sem];repeat' first | apply cj' | intro hc | exact om' | fail
 all_goals (cases a;cases b;simp_all)
noncomputable def a4F:CT:=i6 (fun (x:c4×c4)=>b2B x.1 x.2)
@[go_sem] def c6k:=fun x0 x1 x2 x3=>nm' (fQ' a4F rfl (⟨x0,x1⟩,⟨x2,x3⟩))
def a1L (x:d3):Nat:=(x.V.length+y4 a0C x.V)
def b8X (x:e7):Nat:=(x.Rows.length+y4 a1L x.Rows)
def a0k (x:c9):Nat:=x.Name.length+b8X x.Rel
def b1o (x:c7):Nat:=(x.Rels.length+y4 a0k x.Rels)
def b4R (a:List d4) (left:Int) (hpre:0<=left/\left<=1048576):A0c Tryz.prog 334 [(false,[l5 a]),(false,[.i .i64 left])] [] (.one (false,[.i .i64 (szR left ((a.length+y4 a0C a):Nat))])):=by
 refine sx' false false none Tryz.func334 (q' 4 [aK 0] (q' 6 [aM [1,0],aN,ao (.bin .sub (.t 6) (.t 8)),aV 1] (.seq (q' 10 [am 1,ao (.bin .lss (.t 10) (k' 0))] (.cond (.t 11) (q' 4 [ao (.mov (.k (.v false [.c (.i .i64 (-1))])))] .ret) .skip)) (.seq (q' 5 [aK 0] (.block 0 (.loop (.seq (q' 12 [aM [5,0],aN,ar 12 14] (.cond (.t 15) .skip (.exit 0))) (.seq (.block 1 (q' 18 [aM [0,5],aI 2,aE 2,am 1,ac 210 [21,22],aV 1] (q' 24 [am 1,ao (.bin .lss (.t 24) (k' 0))] (.cond (.t 25) (q' 4 [ao (.mov (.k (.v false [.c (.i .i64 (-1))])))] .ret) .skip)))) (g' 16 [aB 5])))))) (q' 26 [am 1,aV 4] .ret))))) [.t 4] [(210,[],a3g)] ?_;intro hb hE;simp only [go_sem];repeat' first | apply cj' | intro hc | exact om' | fail
 ·all_goals ((repeat (simp (disch:=omega) only [a0g] at *))<;>(try simp only [szR,szR] at *)<;>(first | omega | (split<;>omega)))
 have hw:=a0g (l:=left) (n:=a.length) (by omega) (by omega) (by omega) (by omega);rw [hw] at hc;refine lq' false [0] [] [] (fun i:{i:Nat // i<=a.length/\(a.length:Int)+(y4 a0C (a.take i):Nat)<=left}=>[(5,slV (.i .i64 i.1)),(1,slV (.i .i64 (left - a.length - (y4 a0C (a.take i.1):Nat))))]) nl' nl' (fun i=>a.length - i.1) (⟨0,by simp only [q1E,a2s];omega⟩) ?_;intro S0 hS0 i;obtain ⟨i,hi,ht⟩:=i;simp only [go_sem,hw,hS0];repeat' first | apply cj' | intro hc | exact om' | fail
 ·have h1:=l8 a0C (default:d4) (show i < a.length by omega);have h2:=a0l a0C a (i+1);all_goals ((repeat (simp (disch:=omega) only [a0g] at *))<;>(try simp only [szR,szR] at *)<;>(first | omega | (split<;>omega)))
 ·have h1:=l8 a0C (default:d4) (show i < a.length by omega)
  (refine lpK_n2 (⟨i+1,by omega,by unfold szR at hc;split at hc<;>omega⟩) _ rfl ?_;simp only [go_sem,hw,hS0]<;>repeat' first | apply W8 | exact on' | fail)
  rw [h1];unfold szR at hc ⊢;split at hc<;>omega
 ·have h1:=a3A a0C (show ¬ i < a.length by omega);all_goals ((repeat (simp (disch:=omega) only [a0g] at *))<;>(try simp only [szR,szR] at *)<;>(first | omega | (split<;>omega)))
 all_goals all_goals ((repeat (simp (disch:=omega) only [a0g] at *))<;>(try simp only [szR,szR] at *)<;>(first | omega | (split<;>omega)))
noncomputable def a5N:CT:=k8 (fun (x:(List d4)×Int) h=>b4R x.1 x.2 h)
@[go_sem] def c7v:=fun a x0=>nm' (fP' a5N rfl (a,x0))
def c3k (a:d3) (left:Int) (hpre:0<=left/\left<=1048576):A0c Tryz.prog 277 [(true,[l5 a.V]),(false,[.i .i64 left])] [] (.one (false,[.i .i64 (szR left (a1L a:Nat))])):=by
 refine sx' false false none Tryz.func277 (q' 2 [ao (.box 1 (.t 0)),az 4 0] (q' 5 [aG 0 2,am 1,ac 334 [6,7],aV 1] (.seq (q' 9 [am 1,ao (.bin .lss (.t 9) (k' 0))] (.cond (.t 10) (q' 4 [ao (.mov (.k (.v false [.c (.i .i64 (-1))])))] .ret) .skip)) (q' 11 [am 1,aV 4] .ret)))) [.t 4] [(334,[],a5N)] ?_;intro hb hE;simp only [go_sem];repeat' first | apply cj' | intro hc | exact om' | fail
 all_goals ((repeat (simp (disch:=omega) only [a0g] at *))<;>(try simp only [szR,a1L] at *)<;>(first | omega | (split<;>omega)))
noncomputable def b0v:CT:=k8 (fun (x:d3×Int) h=>c3k x.1 x.2 h)
@[go_sem] def d3s:=fun x0 x1=>nm' (fP' b0v rfl (⟨x0⟩,x1))
def c0v (a:List d3) (left:Int) (hpre:0<=left/\left<=1048576):A0c Tryz.prog 211 [(false,[o8 a]),(false,[.i .i64 left])] [] (.one (false,[.i .i64 (szR left ((a.length+y4 a1L a):Nat))])):=by
 refine sx' false false none Tryz.func211 (q' 4 [aK 0] (q' 6 [aM [1,0],aN,ao (.bin .sub (.t 6) (.t 8)),aV 1] (.seq (q' 10 [am 1,ao (.bin .lss (.t 10) (k' 0))] (.cond (.t 11) (q' 4 [ao (.mov (.k (.v false [.c (.i .i64 (-1))])))] .ret) .skip)) (.seq (q' 5 [aK 0] (.block 0 (.loop (.seq (q' 12 [aM [5,0],aN,ar 12 14] (.cond (.t 15) .skip (.exit 0))) (.seq (.block 1 (q' 18 [aM [0,5],aI 1,aE 1,am 1,ac 277 [21,22],aV 1] (q' 24 [am 1,ao (.bin .lss (.t 24) (k' 0))] (.cond (.t 25) (q' 4 [ao (.mov (.k (.v false [.c (.i .i64 (-1))])))] .ret) .skip)))) (g' 16 [aB 5])))))) (q' 26 [am 1,aV 4] .ret))))) [.t 4] [(277,[],b0v)] ?_;intro hb hE;simp only [go_sem];repeat' first | apply cj' | intro hc | exact om' | fail
 ·all_goals ((repeat (simp (disch:=omega) only [a0g] at *))<;>(try simp only [szR,szR] at *)<;>(first | omega | (split<;>omega)))
 have hw:=a0g (l:=left) (n:=a.length) (by omega) (by omega) (by omega) (by omega);rw [hw] at hc;refine lq' false [0] [] [] (fun i:{i:Nat // i<=a.length/\(a.length:Int)+(y4 a1L (a.take i):Nat)<=left}=>[(5,slV (.i .i64 i.1)),(1,slV (.i .i64 (left - a.length - (y4 a1L (a.take i.1):Nat))))]) nl' nl' (fun i=>a.length - i.1) (⟨0,by simp only [q1E,a2s];omega⟩) ?_;intro S0 hS0 i;obtain ⟨i,hi,ht⟩:=i;simp only [go_sem,hw,hS0];repeat' first | apply cj' | intro hc | exact om' | fail
 ·have h1:=l8 a1L (default:d3) (show i < a.length by omega);have h2:=a0l a1L a (i+1);all_goals ((repeat (simp (disch:=omega) only [a0g] at *))<;>(try simp only [szR,szR] at *)<;>(first | omega | (split<;>omega)))
 ·have h1:=l8 a1L (default:d3) (show i < a.length by omega)
  (refine lpK_n2 (⟨i+1,by omega,by unfold szR at hc;split at hc<;>omega⟩) _ rfl ?_;simp only [go_sem,hw,hS0]<;>repeat' first | apply W8 | exact on' | fail)
  rw [h1];unfold szR at hc ⊢;split at hc<;>omega
 ·have h1:=a3A a1L (show ¬ i < a.length by omega);all_goals ((repeat (simp (disch:=omega) only [a0g] at *))<;>(try simp only [szR,szR] at *)<;>(first | omega | (split<;>omega)))
 all_goals all_goals ((repeat (simp (disch:=omega) only [a0g] at *))<;>(try simp only [szR,szR] at *)<;>(first | omega | (split<;>omega)))
noncomputable def a8y:CT:=k8 (fun (x:(List d3)×Int) h=>c0v x.1 x.2 h)
@[go_sem] def d1B:=fun a x0=>nm' (fP' a8y rfl (a,x0))
def c3j (a:e7) (left:Int) (hpre:0<=left/\left<=1048576):A0c Tryz.prog 146 [(true,[.i .i64 a.Arity,o8 a.Rows]),(false,[.i .i64 left])] [] (.one (false,[.i .i64 (szR left (b8X a:Nat))])):=by
 refine sx' false false none Tryz.func146 (q' 2 [ao (.box 2 (.t 0)),az 4 0] (q' 5 [aG 1 2,am 1,ac 211 [6,7],aV 1] (.seq (q' 9 [am 1,ao (.bin .lss (.t 9) (k' 0))] (.cond (.t 10) (q' 4 [ao (.mov (.k (.v false [.c (.i .i64 (-1))])))] .ret) .skip)) (q' 11 [am 1,aV 4] .ret)))) [.t 4] [(211,[],a8y)] ?_;intro hb hE;simp only [go_sem];repeat' first | apply cj' | intro hc | exact om' | fail
 all_goals ((repeat (simp (disch:=omega) only [a0g] at *))<;>(try simp only [szR,b8X] at *)<;>(first | omega | (split<;>omega)))
noncomputable def b0u:CT:=k8 (fun (x:e7×Int) h=>c3j x.1 x.2 h)
@[go_sem] def d3r:=fun x0 x1 x2=>nm' (fP' b0u rfl (⟨x0,x1⟩,x2))
def b7Y (a:c9) (left:Int) (hpre:0<=left/\left<=1048576):A0c Tryz.prog 85 [(true,[.s a.Name,.i .i64 a.Rel.Arity,o8 a.Rel.Rows]),(false,[.i .i64 left])] [] (.one (false,[.i .i64 (szR left (a0k a:Nat))])):=by
 refine sx' false false none Tryz.func85 (q' 2 [ao (.box 3 (.t 0)),az 4 0] (q' 5 [am 1,aG 0 2,ao (.lens (.t 7)),ao (.bin .sub (.t 5) (.t 8)),aV 1] (.seq (q' 10 [am 1,ao (.bin .lss (.t 10) (k' 0))] (.cond (.t 11) (q' 4 [ao (.mov (.k (.v false [.c (.i .i64 (-1))])))] .ret) .skip)) (q' 12 [af 1 2,aE 2,am 1,ac 146 [13,14],aV 1] (.seq (q' 16 [am 1,ao (.bin .lss (.t 16) (k' 0))] (.cond (.t 17) (q' 4 [ao (.mov (.k (.v false [.c (.i .i64 (-1))])))] .ret) .skip)) (q' 18 [am 1,aV 4] .ret)))))) [.t 4] [(146,[],b0u)] ?_;intro hb hE;simp only [go_sem];repeat' first | apply cj' | intro hc | exact om' | fail
 all_goals ((repeat (simp (disch:=omega) only [a0g] at *))<;>(try simp only [szR,a0k] at *)<;>(first | omega | (split<;>omega)))
noncomputable def a7c:CT:=k8 (fun (x:c9×Int) h=>b7Y x.1 x.2 h)
@[go_sem] def c9o:=fun x0 x1 x2 x3=>nm' (fP' a7c rfl (⟨x0,⟨x1,x2⟩⟩,x3))
def b4Q (a:List c9) (left:Int) (hpre:0<=left/\left<=1048576):A0c Tryz.prog 39 [(false,[f8 a]),(false,[.i .i64 left])] [] (.one (false,[.i .i64 (szR left ((a.length+y4 a0k a):Nat))])):=by
 refine sx' false false none Tryz.func39 (q' 4 [aK 0] (q' 6 [aM [1,0],aN,ao (.bin .sub (.t 6) (.t 8)),aV 1] (.seq (q' 10 [am 1,ao (.bin .lss (.t 10) (k' 0))] (.cond (.t 11) (q' 4 [ao (.mov (.k (.v false [.c (.i .i64 (-1))])))] .ret) .skip)) (.seq (q' 5 [aK 0] (.block 0 (.loop (.seq (q' 12 [aM [5,0],aN,ar 12 14] (.cond (.t 15) .skip (.exit 0))) (.seq (.block 1 (q' 18 [aM [0,5],aI 3,aE 3,am 1,ac 85 [21,22],aV 1] (q' 24 [am 1,ao (.bin .lss (.t 24) (k' 0))] (.cond (.t 25) (q' 4 [ao (.mov (.k (.v false [.c (.i .i64 (-1))])))] .ret) .skip)))) (g' 16 [aB 5])))))) (q' 26 [am 1,aV 4] .ret))))) [.t 4] [(85,[],a7c)] ?_;intro hb hE;simp only [go_sem];repeat' first | apply cj' | intro hc | exact om' | fail
 ·all_goals ((repeat (simp (disch:=omega) only [a0g] at *))<;>(try simp only [szR,szR] at *)<;>(first | omega | (split<;>omega)))
 have hw:=a0g (l:=left) (n:=a.length) (by omega) (by omega) (by omega) (by omega);rw [hw] at hc;refine lq' false [0] [] [] (fun i:{i:Nat // i<=a.length/\(a.length:Int)+(y4 a0k (a.take i):Nat)<=left}=>[(5,slV (.i .i64 i.1)),(1,slV (.i .i64 (left - a.length - (y4 a0k (a.take i.1):Nat))))]) nl' nl' (fun i=>a.length - i.1) (⟨0,by simp only [q1E,a2s];omega⟩) ?_;intro S0 hS0 i;obtain ⟨i,hi,ht⟩:=i;simp only [go_sem,hw,hS0];repeat' first | apply cj' | intro hc | exact om' | fail
 ·have h1:=l8 a0k (default:c9) (show i < a.length by omega);have h2:=a0l a0k a (i+1);all_goals ((repeat (simp (disch:=omega) only [a0g] at *))<;>(try simp only [szR,szR] at *)<;>(first | omega | (split<;>omega)))
 ·have h1:=l8 a0k (default:c9) (show i < a.length by omega)
  (refine lpK_n2 (⟨i+1,by omega,by unfold szR at hc;split at hc<;>omega⟩) _ rfl ?_;simp only [go_sem,hw,hS0]<;>repeat' first | apply W8 | exact on' | fail)
  rw [h1];unfold szR at hc ⊢;split at hc<;>omega
 ·have h1:=a3A a0k (show ¬ i < a.length by omega);all_goals ((repeat (simp (disch:=omega) only [a0g] at *))<;>(try simp only [szR,szR] at *)<;>(first | omega | (split<;>omega)))
 all_goals all_goals ((repeat (simp (disch:=omega) only [a0g] at *))<;>(try simp only [szR,szR] at *)<;>(first | omega | (split<;>omega)))
noncomputable def a5M:CT:=k8 (fun (x:(List c9)×Int) h=>b4Q x.1 x.2 h)
@[go_sem] def c7u:=fun a x0=>nm' (fP' a5M rfl (a,x0))
def b8a (a:c7) (left:Int) (hpre:0<=left/\left<=1048576):A0c Tryz.prog 9 [(true,[f8 a.Rels]),(false,[.i .i64 left])] [] (.one (false,[.i .i64 (szR left (b1o a:Nat))])):=by
 refine sx' false false none Tryz.func9 (q' 2 [ao (.box 1 (.t 0)),az 4 0] (q' 5 [aG 0 2,am 1,ac 39 [6,7],aV 1] (.seq (q' 9 [am 1,ao (.bin .lss (.t 9) (k' 0))] (.cond (.t 10) (q' 4 [ao (.mov (.k (.v false [.c (.i .i64 (-1))])))] .ret) .skip)) (q' 11 [am 1,aV 4] .ret)))) [.t 4] [(39,[],a5M)] ?_;intro hb hE;simp only [go_sem];repeat' first | apply cj' | intro hc | exact om' | fail
 all_goals ((repeat (simp (disch:=omega) only [a0g] at *))<;>(try simp only [szR,b1o] at *)<;>(first | omega | (split<;>omega)))
noncomputable def a7e:CT:=k8 (fun (x:c7×Int) h=>b8a x.1 x.2 h)
@[go_sem] def c9q:=fun x0 x1=>nm' (fP' a7e rfl (⟨x0⟩,x1))
def b4T (a:List d4) (hpre:(((a.length+y4 a0C a):Nat):Int)<=1048576):A0c Tryz.prog 336 [(false,[l5 a])] [] (.one (false,[a7M a])):=by
 refine sx' true false none Tryz.func336 (q' 2 [ao (.mov (.k (.v false [.nl k6])))] (q' 5 [am 0,aN,ao (.mks 2 24 [.i .i64,.s] (.t 6) (.t 6)),aV 3] (.seq (q' 4 [aK 0] (.block 0 (.loop (.seq (q' 8 [aM [4,0],aN,ar 8 10] (.cond (.t 11) .skip (.exit 0))) (.seq (.block 1 (g' 14 [aM [3,4,0,4],aI 2,aE 2,ac 224 [19],ai 2 14 15,aS 2 21 20])) (g' 12 [aB 4])))))) (q' 22 [am 3,aV 2] .ret)))) [.t 2] [(224,[],a3h)] ?_;intro hb hE;simp only [go_sem,a8V];repeat' first | apply cj' | intro hc | exact om' | fail
 refine lq' true [0,3] [] [] (fun i:{p:Nat×(List d4) // p.1<=a.length/\p.2.length=a.length/\p.2.take p.1=a.take p.1}=>[(4,slV (.i .i64 i.1.1))]) nl' (fun i=>[(896,k6,i.1.2.map d4.cells)]) (fun i=>a.length - i.1.1) (⟨(0,List.replicate a.length default),by simp⟩) ?_;intro S0 hS0 i;obtain ⟨⟨i,L⟩,hi,hl,ht⟩:=i;simp only at hi hl ht;simp only [go_sem,a8V,hS0];repeat' first | apply cj' | intro hc | exact om' | fail
 ·(refine lpK_n2 (⟨(i+1,L.set i (a.getD i default)),by simp only;omega,by simp [hl],a0r hl ht (by omega)⟩) _ rfl ?_;simp only [go_sem,a8V,hS0]<;>repeat' first | apply W8 | exact on' | fail)
 ·obtain rfl:=p7 hl ht (by omega);rfl
noncomputable def a5P:CT:=k8 (fun (x:(List d4)) h=>b4T x h)
@[go_sem] def c7x:=fun a=>nm' (fP' a5P rfl a)
def c3n (a:d3) (hpre:(a1L a:Int)<=1048576):A0c Tryz.prog 283 [(true,[l5 a.V])] [] (.one (true,[a7M a.V])):=by
 refine sx' true false none Tryz.func283 (q' 1 [ao (.box 1 (.t 0)),aw [.sl k6]] (q' 3 [aw [.sl k6]] (q' 4 [aG 0 1,ac 336 [5],af 0 3,aS 1 7 6] (q' 8 [ae 1 3,aS 1 2 8] .ret)))) [.c 2 true 1] [(336,[],a5P)] ?_;intro hb hE;simp only [go_sem];repeat' first | apply cj' | intro hc | exact om' | fail
 all_goals (simp only [a1L] at *;omega)
noncomputable def b0y:CT:=k8 (fun (x:d3) h=>c3n x h)
@[go_sem] def d3v:=fun x0=>nm' (fP' b0y rfl ⟨x0⟩)
def c0B (a:List d3) (hpre:(((a.length+y4 a1L a):Nat):Int)<=1048576):A0c Tryz.prog 225 [(false,[o8 a])] [] (.one (false,[c1u a])):=by
 refine sx' true false none Tryz.func225 (q' 2 [ao (.mov (.k (.v false [.nl k7])))] (q' 5 [am 0,aN,ao (.mks 1 24 [.sl k6] (.t 6) (.t 6)),aV 3] (.seq (q' 4 [aK 0] (.block 0 (.loop (.seq (q' 8 [aM [4,0],aN,ar 8 10] (.cond (.t 11) .skip (.exit 0))) (.seq (.block 1 (g' 14 [aM [3,4,0,4],aI 1,aE 1,ac 283 [19],ai 1 14 15,aS 1 21 20])) (g' 12 [aB 4])))))) (q' 22 [am 3,aV 2] .ret)))) [.t 2] [(283,[],b0y)] ?_;intro hb hE;simp only [go_sem,b5D];repeat' first | apply cj' | intro hc | exact om' | fail
 refine lq' true [0,3] [] [] (fun i:{p:Nat×(List d3) // p.1<=a.length/\p.2.length=a.length/\p.2.take p.1=a.take p.1}=>[(4,slV (.i .i64 i.1.1))]) nl' (fun i=>[(896,d0t,i.1.2.map (d3.cells true true))]) (fun i=>a.length - i.1.1) (⟨(0,List.replicate a.length default),by simp⟩) ?_;intro S0 hS0 i;obtain ⟨⟨i,L⟩,hi,hl,ht⟩:=i;simp only at hi hl ht;have hg:=a7Z a1L a i default rfl;simp only [go_sem,b5D,hS0];repeat' first | apply cj' | intro hc | exact om' | fail
 ·(refine lpK_n2 (⟨(i+1,L.set i (a.getD i default)),by simp only;omega,by simp [hl],a0r hl ht (by omega)⟩) _ rfl ?_;simp only [go_sem,b5D,hS0]<;>repeat' first | apply W8 | exact on' | fail)
 ·obtain rfl:=p7 hl ht (by omega);rfl
noncomputable def a8C:CT:=k8 (fun (x:(List d3)) h=>c0B x h)
@[go_sem] def d1H:=fun a=>nm' (fP' a8C rfl a)
def c3m (a:e7) (hpre:(b8X a:Int)<=1048576):A0c Tryz.prog 164 [(true,[.i .i64 a.Arity,o8 a.Rows])] [] (.one (true,[.i .i64 a.Arity,c1u a.Rows])):=by
 refine sx' true false none Tryz.func164 (q' 1 [ao (.box 2 (.t 0)),aw [.i .i64,.sl k7]] (q' 3 [aw [.i .i64,.sl k7]] (q' 4 [aG 0 1,af 0 3,aS 1 6 5] (q' 7 [aG 1 1,ac 225 [8],af 1 3,aS 1 10 9] (q' 11 [ae 2 3,aS 2 2 11] .ret))))) [.c 2 true 2] [(225,[],a8C)] ?_;intro hb hE;simp only [go_sem];repeat' first | apply cj' | intro hc | exact om' | fail
 all_goals (simp only [b8X] at *;omega)
noncomputable def b0x:CT:=k8 (fun (x:e7) h=>c3m x h)
@[go_sem] def d3u:=fun x0 x1=>nm' (fP' b0x rfl ⟨x0,x1⟩)
def b8e (a:c9) (hpre:(a0k a:Int)<=1048576):A0c Tryz.prog 94 [(true,[.s a.Name,.i .i64 a.Rel.Arity,o8 a.Rel.Rows])] [] (.one (true,[.s a.Name,.i .i64 a.Rel.Arity,c1u a.Rel.Rows])):=by
 refine sx' true false none Tryz.func94 (q' 1 [ao (.box 3 (.t 0)),aw [.s,.i .i64,.sl k7]] (q' 3 [aw [.s,.i .i64,.sl k7]] (q' 4 [aG 0 1,af 0 3,aS 1 6 5] (q' 7 [af 1 1,aE 2,ac 164 [8],af 1 3,aS 2 10 9] (q' 11 [ae 3 3,aS 3 2 11] .ret))))) [.c 2 true 3] [(164,[],b0x)] ?_;intro hb hE;simp only [go_sem];repeat' first | apply cj' | intro hc | exact om' | fail
 all_goals (simp only [a0k] at *;omega)
noncomputable def a7h:CT:=k8 (fun (x:c9) h=>b8e x h)
@[go_sem] def c9u:=fun x0 x1 x2=>nm' (fP' a7h rfl ⟨x0,⟨x1,x2⟩⟩)
def b4S (a:List c9) (hpre:(((a.length+y4 a0k a):Nat):Int)<=1048576):A0c Tryz.prog 44 [(false,[f8 a])] [] (.one (false,[b0L a])):=by
 refine sx' true false none Tryz.func44 (q' 2 [ao (.mov (.k (.v false [.nl i4])))] (q' 5 [am 0,aN,ao (.mks 3 48 [.s,.i .i64,.sl k7] (.t 6) (.t 6)),aV 3] (.seq (q' 4 [aK 0] (.block 0 (.loop (.seq (q' 8 [aM [4,0],aN,ar 8 10] (.cond (.t 11) .skip (.exit 0))) (.seq (.block 1 (g' 14 [aM [3,4,0,4],aI 3,aE 3,ac 94 [19],ai 3 14 15,aS 3 21 20])) (g' 12 [aB 4])))))) (q' 22 [am 3,aV 2] .ret)))) [.t 2] [(94,[],a7h)] ?_;intro hb hE;simp only [go_sem,a8T];repeat' first | apply cj' | intro hc | exact om' | fail
 refine lq' true [0,3] [] [] (fun i:{p:Nat×(List c9) // p.1<=a.length/\p.2.length=a.length/\p.2.take p.1=a.take p.1}=>[(4,slV (.i .i64 i.1.1))]) nl' (fun i=>[(896,c3J,i.1.2.map (c9.cells true true))]) (fun i=>a.length - i.1.1) (⟨(0,List.replicate a.length default),by simp⟩) ?_;intro S0 hS0 i;obtain ⟨⟨i,L⟩,hi,hl,ht⟩:=i;simp only at hi hl ht;have hg:=a7Z a0k a i default rfl;simp only [go_sem,a8T,hS0];repeat' first | apply cj' | intro hc | exact om' | fail
 ·(refine lpK_n2 (⟨(i+1,L.set i (a.getD i default)),by simp only;omega,by simp [hl],a0r hl ht (by omega)⟩) _ rfl ?_;simp only [go_sem,a8T,hS0]<;>repeat' first | apply W8 | exact on' | fail)
 ·obtain rfl:=p7 hl ht (by omega);rfl
noncomputable def a5O:CT:=k8 (fun (x:(List c9)) h=>b4S x h)
@[go_sem] def c7w:=fun a=>nm' (fP' a5O rfl a)
def b8g (a:c7) (hpre:(b1o a:Int)<=1048576):A0c Tryz.prog 12 [(true,[f8 a.Rels])] [] (.one (true,[b0L a.Rels])):=by
 refine sx' true false none Tryz.func12 (q' 1 [ao (.box 1 (.t 0)),aw [.sl i4]] (q' 3 [aw [.sl i4]] (q' 4 [aG 0 1,ac 44 [5],af 0 3,aS 1 7 6] (q' 8 [ae 1 3,aS 1 2 8] .ret)))) [.c 2 true 1] [(44,[],a5O)] ?_;intro hb hE;simp only [go_sem];repeat' first | apply cj' | intro hc | exact om' | fail
 all_goals (simp only [b1o] at *;omega)
noncomputable def a7j:CT:=k8 (fun (x:c7) h=>b8g x h)
@[go_sem] def c9w:=fun x0=>nm' (fP' a7j rfl ⟨x0⟩)
def c0p (a:List d3) (b:List d3):A0c Tryz.prog 49 [(false,[o8 a]),(false,[o8 b])] [] (.one (false,[.b (decide (a=b))])):=by
 refine sx' false false none Tryz.func49 (q' 0 [ab 4 false] (.seq (q' 6 [am 0,aN,am 1,aN,ao (.bin .neq (.t 7) (.t 9))] (.cond (.t 10) (q' 0 [ab 4 false] .ret) .skip)) (.seq (q' 5 [aK 0] (.block 0 (.loop (.seq (q' 11 [aM [5,0],aN,ar 11 13] (.cond (.t 14) .skip (.exit 0))) (.seq (.block 1 (.seq (G' 17 [aM [0,5],aI 1,aE 1,aM [1,5],aI 1,aE 1,ac 109 [20,24],ao (.not (.t 25))]) (.cond (.t 26) (q' 0 [ab 4 false] .ret) .skip))) (g' 15 [aB 5])))))) (q' 0 [ab 4 true] .ret)))) [.t 4] [(109,[],b0s)] ?_;intro hb hE;simp only [go_sem];repeat' first | apply cj' | intro hc | exact om' | fail
 ·symm;rw [q1A];rintro rfl;simp at hc
 have hl:a.length=b.length:=by simpa [q2P] using hc
 refine lq' false [0,1] [] [] (fun i:{i:Nat // i<=a.length/\a.take i=b.take i}=>[(5,slV (.i .i64 i.1))]) nl' nl' (fun i=>a.length - i.1) (⟨0,by simp⟩) ?_;intro S0 hS0 i;obtain ⟨i,hi,ht⟩:=i;simp only [go_sem,hS0];repeat' first | apply cj' | intro hc | exact om' | fail
 ·exact (V4 (a1j default (i:=i) (by simpa using hc))).symm
 ·exact nx0 ⟨i+1,by omega,w5 ht (by omega) (by omega) (d:=default) (by simpa using hc)⟩
 ·exact (V1 (p7 hl ht (by omega))).symm
noncomputable def a8u:CT:=i6 (fun (x:(List d3)×(List d3))=>c0p x.1 x.2)
@[go_sem] def d1v:=fun a b=>nm' (fQ' a8u rfl (a,b))
def c3g (a:e7) (b:e7):A0c Tryz.prog 14 [(true,[.i .i64 a.Arity,o8 a.Rows]),(true,[.i .i64 b.Arity,o8 b.Rows])] [] (.one (false,[.b (decide (a=b))])):=by
 refine sx' false false none Tryz.func14 (q' 2 [ao (.box 2 (.t 0)),ao (.box 2 (.t 1)),ao (.mov (bb false))] (.seq (q' 5 [aG 0 2,aG 0 3,ao (.bin .neq (.t 6) (.t 8))] (.cond (.t 9) (q' 0 [ab 4 false] .ret) .skip)) (.seq (q' 10 [aG 1 2,aG 1 3,ac 49 [11,13],ao (.not (.t 14))] (.cond (.t 15) (q' 0 [ab 4 false] .ret) .skip)) (q' 0 [ab 4 true] .ret)))) [.t 4] [(49,[],a8u)] ?_;intro hb hE;simp only [go_sem];repeat' first | apply cj' | intro hc | exact om' | fail
 all_goals (cases a;cases b;simp_all)
noncomputable def b0r:CT:=i6 (fun (x:e7×e7)=>c3g x.1 x.2)
@[go_sem] def d3o:=fun x0 x1 x2 x3=>nm' (fQ' b0r rfl (⟨x0,x1⟩,⟨x2,x3⟩))
def b7S (a:c9) (b:c9):A0c Tryz.prog 112 [(true,[.s a.Name,.i .i64 a.Rel.Arity,o8 a.Rel.Rows]),(true,[.s b.Name,.i .i64 b.Rel.Arity,o8 b.Rel.Rows])] [] (.one (false,[.b (decide (a=b))])):=by
 refine sx' false false none Tryz.func112 (q' 2 [ao (.box 3 (.t 0)),ao (.box 3 (.t 1)),ao (.mov (bb false))] (.seq (q' 5 [aG 0 2,aG 0 3,ao (.bin .neq (.t 6) (.t 8))] (.cond (.t 9) (q' 0 [ab 4 false] .ret) .skip)) (.seq (q' 10 [af 1 2,aE 2,af 1 3,aE 2,ac 14 [11,13],ao (.not (.t 14))] (.cond (.t 15) (q' 0 [ab 4 false] .ret) .skip)) (q' 0 [ab 4 true] .ret)))) [.t 4] [(14,[],b0r)] ?_;intro hb hE;simp only [go_sem];repeat' first | apply cj' | intro hc | exact om' | fail
 all_goals (cases a;cases b;simp_all)
noncomputable def a6X:CT:=i6 (fun (x:c9×c9)=>b7S x.1 x.2)
@[go_sem] def c9i:=fun x0 x1 x2 x3 x4 x5=>nm' (fQ' a6X rfl (⟨x0,⟨x1,x2⟩⟩,⟨x3,⟨x4,x5⟩⟩))
def b4O (a:List c9) (b:List c9):A0c Tryz.prog 52 [(false,[f8 a]),(false,[f8 b])] [] (.one (false,[.b (decide (a=b))])):=by
 refine sx' false false none Tryz.func52 (q' 0 [ab 4 false] (.seq (q' 6 [am 0,aN,am 1,aN,ao (.bin .neq (.t 7) (.t 9))] (.cond (.t 10) (q' 0 [ab 4 false] .ret) .skip)) (.seq (q' 5 [aK 0] (.block 0 (.loop (.seq (q' 11 [aM [5,0],aN,ar 11 13] (.cond (.t 14) .skip (.exit 0))) (.seq (.block 1 (.seq (G' 17 [aM [0,5],aI 3,aE 3,aM [1,5],aI 3,aE 3,ac 112 [20,24],ao (.not (.t 25))]) (.cond (.t 26) (q' 0 [ab 4 false] .ret) .skip))) (g' 15 [aB 5])))))) (q' 0 [ab 4 true] .ret)))) [.t 4] [(112,[],a6X)] ?_;intro hb hE;simp only [go_sem];repeat' first | apply cj' | intro hc | exact om' | fail
 ·symm;rw [q1A];rintro rfl;simp at hc
 have hl:a.length=b.length:=by simpa [q2P] using hc
 refine lq' false [0,1] [] [] (fun i:{i:Nat // i<=a.length/\a.take i=b.take i}=>[(5,slV (.i .i64 i.1))]) nl' nl' (fun i=>a.length - i.1) (⟨0,by simp⟩) ?_;intro S0 hS0 i;obtain ⟨i,hi,ht⟩:=i;simp only [go_sem,hS0];repeat' first | apply cj' | intro hc | exact om' | fail
 ·exact (V4 (a1j default (i:=i) (by simpa using hc))).symm
 ·exact nx0 ⟨i+1,by omega,w5 ht (by omega) (by omega) (d:=default) (by simpa using hc)⟩
 ·exact (V1 (p7 hl ht (by omega))).symm
noncomputable def a5K:CT:=i6 (fun (x:(List c9)×(List c9))=>b4O x.1 x.2)
@[go_sem] def c7s:=fun a b=>nm' (fQ' a5K rfl (a,b))
def b7U (a:c7) (b:c7):A0c Tryz.prog 16 [(true,[f8 a.Rels]),(true,[f8 b.Rels])] [] (.one (false,[.b (decide (a=b))])):=by
 refine sx' false false none Tryz.func16 (q' 2 [ao (.box 1 (.t 0)),ao (.box 1 (.t 1)),ao (.mov (bb false))] (.seq (q' 5 [aG 0 2,aG 0 3,ac 52 [6,8],ao (.not (.t 9))] (.cond (.t 10) (q' 0 [ab 4 false] .ret) .skip)) (q' 0 [ab 4 true] .ret))) [.t 4] [(52,[],a5K)] ?_;intro hb hE;simp only [go_sem];repeat' first | apply cj' | intro hc | exact om' | fail
 all_goals (cases a;cases b;simp_all)
noncomputable def a6Z:CT:=i6 (fun (x:c7×c7)=>b7U x.1 x.2)
@[go_sem] def c9k:=fun x0 x1=>nm' (fQ' a6Z rfl (⟨x0⟩,⟨x1⟩))
def a1Q (p:c4) (s:c7) (v:c7):A0c Tryz.prog 4 [(true,[j9 p.Decls,j6 p.Rules]),(true,[f8 s.Rels]),(true,[f8 v.Rels])] [] (.one (false,[.b true])):=by
 refine sx' false false none Tryz.func4 (q' 3 [ao (.box 2 (.t 0)),ao (.box 1 (.t 1)),ao (.box 1 (.t 2)),ao (.mov (bb false))] (q' 7 [aK 1048576] (q' 13 [ae 2 3,am 7,ac 21 [13,14],aV 7] (.seq (q' 16 [am 7,ao (.bin .lss (.t 16) (k' 0))] (.cond (.t 17) (q' 0 [ab 6 true] .ret) .skip)) (q' 18 [ae 1 4,am 7,ac 9 [18,19],aV 7] (.seq (q' 21 [am 7,ao (.bin .lss (.t 21) (k' 0))] (.cond (.t 22) (q' 0 [ab 6 true] .ret) .skip)) (q' 23 [ae 1 5,am 7,ac 9 [23,24],aV 7] (.seq (q' 26 [am 7,ao (.bin .lss (.t 26) (k' 0))] (.cond (.t 27) (q' 0 [ab 6 true] .ret) .skip)) (.seq (G' 28 [ae 2 3,ac 23 [28],ae 1 4,ac 12 [30],ae 1 5,ac 12 [32],ac 22 [29,31,33],aV 8]) (q' 35 [ae 2 3,ac 23 [35],ax (w' 9 [.sl a9u,.sl b9b]),aS 2 9 36] (q' 37 [ae 1 4,ac 12 [37],ax (w' 10 [.sl i4]),aS 1 10 38] (q' 39 [ae 1 5,ac 12 [39],ax (w' 11 [.sl i4]),aS 1 11 40] (q' 41 [ae 2 9,ae 1 10,ae 1 11,ac 24 [41,42,43],aV 12] (.seq (q' 45 [aM [12,8],ao (.binb .neq (.t 45) (.t 46))] (.cond (.t 47) (q' 0 [ab 6 false] .ret) .skip)) (.seq (.seq (G' 48 [ae 2 9,ae 2 3,ac 23 [49],ac 25 [48,50],ao (.not (.t 51))]) (.cond (.t 52) (q' 0 [ab 6 false] .ret) .skip)) (.seq (.seq (G' 53 [ae 1 10,ae 1 4,ac 12 [54],ac 16 [53,55],ao (.not (.t 56))]) (.cond (.t 57) (q' 0 [ab 6 false] .ret) .skip)) (.seq (.seq (G' 58 [ae 1 11,ae 1 5,ac 12 [59],ac 16 [58,60],ao (.not (.t 61))]) (.cond (.t 62) (q' 0 [ab 6 false] .ret) .skip)) (q' 0 [ab 6 true] .ret)))))))))))))))))) [.t 6] [(21,[],a4G),(9,[],a7e),(23,[],a4H),(12,[],a7j),(22,[],a7l),(24,[],a6F),(25,[],a4F),(16,[],a6Z)] ?_;intro hb hE;simp only [go_sem];repeat' first | apply cj' | intro hc | exact om' | fail
 all_goals (first | exact (hc trivial).elim | (exfalso;simp at hc;done) | ((try simp only [szR] at *)<;>omega))
noncomputable def a6n:CT:=i6 (fun (x:c4×c7×c7)=>a1Q x.1 x.2.1 x.2.2)
@[go_sem] def b9N:=fun x0 x1 x2 x3=>nm' (fQ' a6n rfl (⟨x0,x1⟩,⟨x2⟩,⟨x3⟩))
end Go.Aw
