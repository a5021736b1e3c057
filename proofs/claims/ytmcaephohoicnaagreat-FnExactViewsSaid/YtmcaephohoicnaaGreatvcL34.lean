/- Programs: sizes, copies, equalities. No condition. -/
import Derived.Test.YtmcaephohoicnaaGreatvcB2
import Derived.Test.YtmcaephohoicnaaGreatpMx2vc
namespace Go.Aw
open Go.Proofs
attribute [local irreducible] aft blk lpK retK AW A0c
set_option linter.all false
set_option maxRecDepth 100000
def a4n (x:e8):Nat:=x.Name.length+(x.Args.length+j5 a1l x.Args)
def a1f (x:d7):Nat:=a4n x.Atom+a1l x.A+a1l x.B
def a0u (x:c7):Nat:=a4n x.Head+(x.Body.length+j5 a1f x.Body)
def a1Y (x:d9):Nat:=x.Name.length
def a2q (x:c4):Nat:=(x.Decls.length+j5 a1Y x.Decls)+(x.Rules.length+j5 a0u x.Rules)
def c1v (a:e8) (left:Int) (hpre:0<=left/\left<=1048576):A0c Tryz.prog 37 [(true,[.s a.Name,j8 a.Args]),(false,[.i .i64 left])] [] (.one (false,[.i .i64 (szR left (a4n a:Nat))])):=by
 refine sx' false false none Tryz.func37 (q' 2 [ao (.box 2 (.t 0)),az 4 0] (q' 5 [am 1,aG 0 2,ao (.lens (.t 7)),ao (.bin .sub (.t 5) (.t 8)),aV 1] (.seq (q' 10 [am 1,ao (.bin .lss (.t 10) (k' 0))] (.cond (.t 11) (q' 4 [ao (.mov (.k (.v false [.c (.i .i64 (-1))])))] .ret) .skip)) (q' 12 [aG 1 2,am 1,ac 83 [13,14],aV 1] (.seq (q' 16 [am 1,ao (.bin .lss (.t 16) (k' 0))] (.cond (.t 17) (q' 4 [ao (.mov (.k (.v false [.c (.i .i64 (-1))])))] .ret) .skip)) (q' 18 [am 1,aV 4] .ret)))))) [.t 4] [(83,[],a7H)] ?_;intro hb hE;simp only [go_sem];repeat' first | apply cj' | intro hc | exact om' | fail
 all_goals ((repeat (simp (disch:=omega) only [a0q] at *))<;>(try simp only [szR,a4n] at *)<;>(first | omega | (split<;>omega)))
noncomputable def a4E:CT:=k9 (fun (x:e8×Int) h=>c1v x.1 x.2 h)
@[go_sem] def d2J:=fun x0 x1 x2=>nm' (fP' a4E rfl (⟨x0,x1⟩,x2))
def c4i (a:d7) (left:Int) (hpre:0<=left/\left<=1048576):A0c Tryz.prog 84 [(true,[.i .i64 a.Kind,.s a.Atom.Name,j8 a.Atom.Args,.i .i64 a.Op,.s a.A.Var,.i .i64 a.A.Val.N,.s a.A.Val.S,.s a.B.Var,.i .i64 a.B.Val.N,.s a.B.Val.S]),(false,[.i .i64 left])] [] (.one (false,[.i .i64 (szR left (a1f a:Nat))])):=by
 refine sx' false false none Tryz.func84 (q' 2 [ao (.box 10 (.t 0)),az 4 0] (q' 5 [af 1 2,aE 2,am 1,ac 37 [6,7],aV 1] (.seq (q' 9 [am 1,ao (.bin .lss (.t 9) (k' 0))] (.cond (.t 10) (q' 4 [ao (.mov (.k (.v false [.c (.i .i64 (-1))])))] .ret) .skip)) (q' 11 [af 4 2,aE 3,am 1,ac 145 [12,13],aV 1] (.seq (q' 15 [am 1,ao (.bin .lss (.t 15) (k' 0))] (.cond (.t 16) (q' 4 [ao (.mov (.k (.v false [.c (.i .i64 (-1))])))] .ret) .skip)) (q' 17 [af 7 2,aE 3,am 1,ac 145 [18,19],aV 1] (.seq (q' 21 [am 1,ao (.bin .lss (.t 21) (k' 0))] (.cond (.t 22) (q' 4 [ao (.mov (.k (.v false [.c (.i .i64 (-1))])))] .ret) .skip)) (q' 23 [am 1,aV 4] .ret)))))))) [.t 4] [(37,[],a4E),(145,[],a4F)] ?_;intro hb hE;simp only [go_sem];repeat' first | apply cj' | intro hc | exact om' | fail
 all_goals ((repeat (simp (disch:=omega) only [a0q] at *))<;>(try simp only [szR,a1f] at *)<;>(first | omega | (split<;>omega)))
noncomputable def b1b:CT:=k9 (fun (x:d7×Int) h=>c4i x.1 x.2 h)
@[go_sem] def d4B:=fun x0 x1 x2 x3 x4 x5 x6 x7 x8 x9 x10=>nm' (fP' b1b rfl (⟨x0,⟨x1,x2⟩,x3,⟨x4,⟨x5,x6⟩⟩,⟨x7,⟨x8,x9⟩⟩⟩,x10))
def c1x (a:List d7) (left:Int) (hpre:0<=left/\left<=1048576):A0c Tryz.prog 38 [(false,[y4 a]),(false,[.i .i64 left])] [] (.one (false,[.i .i64 (szR left ((a.length+j5 a1f a):Nat))])):=by
 refine sx' false false none Tryz.func38 (q' 4 [aK 0] (q' 6 [aM [1,0],aN,ao (.bin .sub (.t 6) (.t 8)),aV 1] (.seq (q' 10 [am 1,ao (.bin .lss (.t 10) (k' 0))] (.cond (.t 11) (q' 4 [ao (.mov (.k (.v false [.c (.i .i64 (-1))])))] .ret) .skip)) (.seq (q' 5 [aK 0] (.block 0 (.loop (.seq (q' 12 [aM [5,0],aN,ar 12 14] (.cond (.t 15) .skip (.exit 0))) (.seq (.block 1 (q' 18 [aM [0,5],aI 10,aE 10,am 1,ac 84 [21,22],aV 1] (q' 24 [am 1,ao (.bin .lss (.t 24) (k' 0))] (.cond (.t 25) (q' 4 [ao (.mov (.k (.v false [.c (.i .i64 (-1))])))] .ret) .skip)))) (g' 16 [aB 5])))))) (q' 26 [am 1,aV 4] .ret))))) [.t 4] [(84,[],b1b)] ?_;intro hb hE;simp only [go_sem];repeat' first | apply cj' | intro hc | exact om' | fail
 ·all_goals ((repeat (simp (disch:=omega) only [a0q] at *))<;>(try simp only [szR,szR] at *)<;>(first | omega | (split<;>omega)))
 have hw:=a0q (l:=left) (n:=a.length) (by omega) (by omega) (by omega) (by omega);rw [hw] at hc;refine lq' false [0] [] [] (fun i:{i:Nat // i<=a.length/\(a.length:Int)+(j5 a1f (a.take i):Nat)<=left}=>[(5,slV (.i .i64 i.1)),(1,slV (.i .i64 (left - a.length - (j5 a1f (a.take i.1):Nat))))]) nl' nl' (fun i=>a.length - i.1) (⟨0,by simp only [q1B,a2J];omega⟩) ?_;intro S0 hS0 i;obtain ⟨i,hi,ht⟩:=i;simp only [go_sem,hw,hS0];repeat' first | apply cj' | intro hc | exact om' | fail
 ·have h1:=j9 a1f (default:d7) (show i < a.length by omega);have h2:=s9 a1f a (i+1);all_goals ((repeat (simp (disch:=omega) only [a0q] at *))<;>(try simp only [szR,szR] at *)<;>(first | omega | (split<;>omega)))
 ·have h1:=j9 a1f (default:d7) (show i < a.length by omega)
  (refine lpK_n2 (⟨i+1,by omega,by unfold szR at hc;split at hc<;>omega⟩) _ rfl ?_;simp only [go_sem,hw,hS0]<;>repeat' first | apply V0 | exact on' | fail)
  rw [h1];unfold szR at hc ⊢;split at hc<;>omega
 ·have h1:=a0G a1f (show ¬ i < a.length by omega);all_goals ((repeat (simp (disch:=omega) only [a0q] at *))<;>(try simp only [szR,szR] at *)<;>(first | omega | (split<;>omega)))
 all_goals all_goals ((repeat (simp (disch:=omega) only [a0q] at *))<;>(try simp only [szR,szR] at *)<;>(first | omega | (split<;>omega)))
noncomputable def a8Z:CT:=k9 (fun (x:(List d7)×Int) h=>c1x x.1 x.2 h)
@[go_sem] def d2L:=fun a x0=>nm' (fP' a8Z rfl (a,x0))
def c1z (a:c7) (left:Int) (hpre:0<=left/\left<=1048576):A0c Tryz.prog 8 [(true,[.i .i64 a.Kind,.s a.Head.Name,j8 a.Head.Args,y4 a.Body]),(false,[.i .i64 left])] [] (.one (false,[.i .i64 (szR left (a0u a:Nat))])):=by
 refine sx' false false none Tryz.func8 (q' 2 [ao (.box 4 (.t 0)),az 4 0] (q' 5 [af 1 2,aE 2,am 1,ac 37 [6,7],aV 1] (.seq (q' 9 [am 1,ao (.bin .lss (.t 9) (k' 0))] (.cond (.t 10) (q' 4 [ao (.mov (.k (.v false [.c (.i .i64 (-1))])))] .ret) .skip)) (q' 11 [aG 3 2,am 1,ac 38 [12,13],aV 1] (.seq (q' 15 [am 1,ao (.bin .lss (.t 15) (k' 0))] (.cond (.t 16) (q' 4 [ao (.mov (.k (.v false [.c (.i .i64 (-1))])))] .ret) .skip)) (q' 17 [am 1,aV 4] .ret)))))) [.t 4] [(37,[],a4E),(38,[],a8Z)] ?_;intro hb hE;simp only [go_sem];repeat' first | apply cj' | intro hc | exact om' | fail
 all_goals ((repeat (simp (disch:=omega) only [a0q] at *))<;>(try simp only [szR,a0u] at *)<;>(first | omega | (split<;>omega)))
noncomputable def a9b:CT:=k9 (fun (x:c7×Int) h=>c1z x.1 x.2 h)
@[go_sem] def d2N:=fun x0 x1 x2 x3 x4=>nm' (fP' a9b rfl (⟨x0,⟨x1,x2⟩,x3⟩,x4))
def b9b (a:List c7) (left:Int) (hpre:0<=left/\left<=1048576):A0c Tryz.prog 59 [(false,[l3 a]),(false,[.i .i64 left])] [] (.one (false,[.i .i64 (szR left ((a.length+j5 a0u a):Nat))])):=by
 refine sx' false false none Tryz.func59 (q' 4 [aK 0] (q' 6 [aM [1,0],aN,ao (.bin .sub (.t 6) (.t 8)),aV 1] (.seq (q' 10 [am 1,ao (.bin .lss (.t 10) (k' 0))] (.cond (.t 11) (q' 4 [ao (.mov (.k (.v false [.c (.i .i64 (-1))])))] .ret) .skip)) (.seq (q' 5 [aK 0] (.block 0 (.loop (.seq (q' 12 [aM [5,0],aN,ar 12 14] (.cond (.t 15) .skip (.exit 0))) (.seq (.block 1 (q' 18 [aM [0,5],aI 4,aE 4,am 1,ac 8 [21,22],aV 1] (q' 24 [am 1,ao (.bin .lss (.t 24) (k' 0))] (.cond (.t 25) (q' 4 [ao (.mov (.k (.v false [.c (.i .i64 (-1))])))] .ret) .skip)))) (g' 16 [aB 5])))))) (q' 26 [am 1,aV 4] .ret))))) [.t 4] [(8,[],a9b)] ?_;intro hb hE;simp only [go_sem];repeat' first | apply cj' | intro hc | exact om' | fail
 ·all_goals ((repeat (simp (disch:=omega) only [a0q] at *))<;>(try simp only [szR,szR] at *)<;>(first | omega | (split<;>omega)))
 have hw:=a0q (l:=left) (n:=a.length) (by omega) (by omega) (by omega) (by omega);rw [hw] at hc;refine lq' false [0] [] [] (fun i:{i:Nat // i<=a.length/\(a.length:Int)+(j5 a0u (a.take i):Nat)<=left}=>[(5,slV (.i .i64 i.1)),(1,slV (.i .i64 (left - a.length - (j5 a0u (a.take i.1):Nat))))]) nl' nl' (fun i=>a.length - i.1) (⟨0,by simp only [q1B,a2J];omega⟩) ?_;intro S0 hS0 i;obtain ⟨i,hi,ht⟩:=i;simp only [go_sem,hw,hS0];repeat' first | apply cj' | intro hc | exact om' | fail
 ·have h1:=j9 a0u (default:c7) (show i < a.length by omega);have h2:=s9 a0u a (i+1);all_goals ((repeat (simp (disch:=omega) only [a0q] at *))<;>(try simp only [szR,szR] at *)<;>(first | omega | (split<;>omega)))
 ·have h1:=j9 a0u (default:c7) (show i < a.length by omega)
  (refine lpK_n2 (⟨i+1,by omega,by unfold szR at hc;split at hc<;>omega⟩) _ rfl ?_;simp only [go_sem,hw,hS0]<;>repeat' first | apply V0 | exact on' | fail)
  rw [h1];unfold szR at hc ⊢;split at hc<;>omega
 ·have h1:=a0G a0u (show ¬ i < a.length by omega);all_goals ((repeat (simp (disch:=omega) only [a0q] at *))<;>(try simp only [szR,szR] at *)<;>(first | omega | (split<;>omega)))
 all_goals all_goals ((repeat (simp (disch:=omega) only [a0q] at *))<;>(try simp only [szR,szR] at *)<;>(first | omega | (split<;>omega)))
noncomputable def a7F:CT:=k9 (fun (x:(List c7)×Int) h=>b9b x.1 x.2 h)
@[go_sem] def d0C:=fun a x0=>nm' (fP' a7F rfl (a,x0))
def c1w (a:d9) (left:Int) (hpre:0<=left/\left<=1048576):A0c Tryz.prog 117 [(true,[.i .i64 a.Kind,.s a.Name,.i .i64 a.Arity]),(false,[.i .i64 left])] [] (.one (false,[.i .i64 (szR left (a1Y a:Nat))])):=by
 refine sx' false false none Tryz.func117 (q' 2 [ao (.box 3 (.t 0)),az 4 0] (q' 5 [am 1,aG 1 2,ao (.lens (.t 7)),ao (.bin .sub (.t 5) (.t 8)),aV 1] (.seq (q' 10 [am 1,ao (.bin .lss (.t 10) (k' 0))] (.cond (.t 11) (q' 4 [ao (.mov (.k (.v false [.c (.i .i64 (-1))])))] .ret) .skip)) (q' 12 [am 1,aV 4] .ret)))) [.t 4] [] ?_;intro hb hE;simp only [go_sem];repeat' first | apply cj' | intro hc | exact om' | fail
 all_goals ((repeat (simp (disch:=omega) only [a0q] at *))<;>(try simp only [szR,a1Y] at *)<;>(first | omega | (split<;>omega)))
noncomputable def a8Y:CT:=k9 (fun (x:d9×Int) h=>c1w x.1 x.2 h)
@[go_sem] def d2K:=fun x0 x1 x2 x3=>nm' (fP' a8Y rfl (⟨x0,x1,x2⟩,x3))
def b8Z (a:List d9) (left:Int) (hpre:0<=left/\left<=1048576):A0c Tryz.prog 58 [(false,[l4 a]),(false,[.i .i64 left])] [] (.one (false,[.i .i64 (szR left ((a.length+j5 a1Y a):Nat))])):=by
 refine sx' false false none Tryz.func58 (q' 4 [aK 0] (q' 6 [aM [1,0],aN,ao (.bin .sub (.t 6) (.t 8)),aV 1] (.seq (q' 10 [am 1,ao (.bin .lss (.t 10) (k' 0))] (.cond (.t 11) (q' 4 [ao (.mov (.k (.v false [.c (.i .i64 (-1))])))] .ret) .skip)) (.seq (q' 5 [aK 0] (.block 0 (.loop (.seq (q' 12 [aM [5,0],aN,ar 12 14] (.cond (.t 15) .skip (.exit 0))) (.seq (.block 1 (q' 18 [aM [0,5],aI 3,aE 3,am 1,ac 117 [21,22],aV 1] (q' 24 [am 1,ao (.bin .lss (.t 24) (k' 0))] (.cond (.t 25) (q' 4 [ao (.mov (.k (.v false [.c (.i .i64 (-1))])))] .ret) .skip)))) (g' 16 [aB 5])))))) (q' 26 [am 1,aV 4] .ret))))) [.t 4] [(117,[],a8Y)] ?_;intro hb hE;simp only [go_sem];repeat' first | apply cj' | intro hc | exact om' | fail
 ·all_goals ((repeat (simp (disch:=omega) only [a0q] at *))<;>(try simp only [szR,szR] at *)<;>(first | omega | (split<;>omega)))
 have hw:=a0q (l:=left) (n:=a.length) (by omega) (by omega) (by omega) (by omega);rw [hw] at hc;refine lq' false [0] [] [] (fun i:{i:Nat // i<=a.length/\(a.length:Int)+(j5 a1Y (a.take i):Nat)<=left}=>[(5,slV (.i .i64 i.1)),(1,slV (.i .i64 (left - a.length - (j5 a1Y (a.take i.1):Nat))))]) nl' nl' (fun i=>a.length - i.1) (⟨0,by simp only [q1B,a2J];omega⟩) ?_;intro S0 hS0 i;obtain ⟨i,hi,ht⟩:=i;simp only [go_sem,hw,hS0];repeat' first | apply cj' | intro hc | exact om' | fail
 ·have h1:=j9 a1Y (default:d9) (show i < a.length by omega);have h2:=s9 a1Y a (i+1);all_goals ((repeat (simp (disch:=omega) only [a0q] at *))<;>(try simp only [szR,szR] at *)<;>(first | omega | (split<;>omega)))
 ·have h1:=j9 a1Y (default:d9) (show i < a.length by omega)
  (refine lpK_n2 (⟨i+1,by omega,by unfold szR at hc;split at hc<;>omega⟩) _ rfl ?_;simp only [go_sem,hw,hS0]<;>repeat' first | apply V0 | exact on' | fail)
  rw [h1];unfold szR at hc ⊢;split at hc<;>omega
 ·have h1:=a0G a1Y (show ¬ i < a.length by omega);all_goals ((repeat (simp (disch:=omega) only [a0q] at *))<;>(try simp only [szR,szR] at *)<;>(first | omega | (split<;>omega)))
 all_goals all_goals ((repeat (simp (disch:=omega) only [a0q] at *))<;>(try simp only [szR,szR] at *)<;>(first | omega | (split<;>omega)))
noncomputable def a7D:CT:=k9 (fun (x:(List d9)×Int) h=>b8Z x.1 x.2 h)
@[go_sem] def d0A:=fun a x0=>nm' (fP' a7D rfl (a,x0))
def b3z (a:c4) (left:Int) (hpre:0<=left/\left<=1048576):A0c Tryz.prog 21 [(true,[l4 a.Decls,l3 a.Rules]),(false,[.i .i64 left])] [] (.one (false,[.i .i64 (szR left (a2q a:Nat))])):=by
 refine sx' false false none Tryz.func21 (q' 2 [ao (.box 2 (.t 0)),az 4 0] (q' 5 [aG 0 2,am 1,ac 58 [6,7],aV 1] (.seq (q' 9 [am 1,ao (.bin .lss (.t 9) (k' 0))] (.cond (.t 10) (q' 4 [ao (.mov (.k (.v false [.c (.i .i64 (-1))])))] .ret) .skip)) (q' 11 [aG 1 2,am 1,ac 59 [12,13],aV 1] (.seq (q' 15 [am 1,ao (.bin .lss (.t 15) (k' 0))] (.cond (.t 16) (q' 4 [ao (.mov (.k (.v false [.c (.i .i64 (-1))])))] .ret) .skip)) (q' 17 [am 1,aV 4] .ret)))))) [.t 4] [(58,[],a7D),(59,[],a7F)] ?_;intro hb hE;simp only [go_sem];repeat' first | apply cj' | intro hc | exact om' | fail
 all_goals ((repeat (simp (disch:=omega) only [a0q] at *))<;>(try simp only [szR,a2q] at *)<;>(first | omega | (split<;>omega)))
noncomputable def a5j:CT:=k9 (fun (x:c4×Int) h=>b3z x.1 x.2 h)
@[go_sem] def c7y:=fun x0 x1 x2=>nm' (fP' a5j rfl (⟨x0,x1⟩,x2))
def c1B (a:e8) (hpre:(a4n a:Int)<=1048576):A0c Tryz.prog 42 [(true,[.s a.Name,j8 a.Args])] [] (.one (true,[.s a.Name,b3l a.Args])):=by
 refine sx' true false none Tryz.func42 (q' 1 [ao (.box 2 (.t 0)),aw [.s,.sl i7]] (q' 3 [aw [.s,.sl i7]] (q' 4 [aG 0 1,af 0 3,aS 1 6 5] (q' 7 [aG 1 1,ac 92 [8],af 1 3,aS 1 10 9] (q' 11 [ae 2 3,aS 2 2 11] .ret))))) [.c 2 true 2] [(92,[],a7M)] ?_;intro hb hE;simp only [go_sem];repeat' first | apply cj' | intro hc | exact om' | fail
 all_goals (simp only [a4n] at *;omega)
noncomputable def a4G:CT:=k9 (fun (x:e8) h=>c1B x h)
@[go_sem] def d2P:=fun x0 x1=>nm' (fP' a4G rfl ⟨x0,x1⟩)
def c4l (a:d7) (hpre:(a1f a:Int)<=1048576):A0c Tryz.prog 93 [(true,[.i .i64 a.Kind,.s a.Atom.Name,j8 a.Atom.Args,.i .i64 a.Op,.s a.A.Var,.i .i64 a.A.Val.N,.s a.A.Val.S,.s a.B.Var,.i .i64 a.B.Val.N,.s a.B.Val.S])] [] (.one (true,[.i .i64 a.Kind,.s a.Atom.Name,b3l a.Atom.Args,.i .i64 a.Op,.s a.A.Var,.i .i64 a.A.Val.N,.s a.A.Val.S,.s a.B.Var,.i .i64 a.B.Val.N,.s a.B.Val.S])):=by
 refine sx' true false none Tryz.func93 (q' 1 [ao (.box 10 (.t 0)),aw [.i .i64,.s,.sl i7,.i .i64,.s,.i .i64,.s,.s,.i .i64,.s]] (q' 3 [aw [.i .i64,.s,.sl i7,.i .i64,.s,.i .i64,.s,.s,.i .i64,.s]] (q' 4 [aG 0 1,af 0 3,aS 1 6 5] (q' 7 [af 1 1,aE 2,ac 42 [8],af 1 3,aS 2 10 9] (q' 11 [aG 3 1,af 3 3,aS 1 13 12] (q' 14 [af 4 1,aE 3,ac 163 [15],af 4 3,aS 3 17 16] (q' 18 [af 7 1,aE 3,ac 163 [19],af 7 3,aS 3 21 20] (q' 22 [ae 10 3,aS 10 2 22] .ret)))))))) [.c 2 true 10] [(42,[],a4G),(163,[],a4H)] ?_;intro hb hE;simp only [go_sem];repeat' first | apply cj' | intro hc | exact om' | fail
 all_goals (simp only [a1f] at *;omega)
noncomputable def b1e:CT:=k9 (fun (x:d7) h=>c4l x h)
@[go_sem] def d4E:=fun x0 x1 x2 x3 x4 x5 x6 x7 x8 x9=>nm' (fP' b1e rfl ⟨x0,⟨x1,x2⟩,x3,⟨x4,⟨x5,x6⟩⟩,⟨x7,⟨x8,x9⟩⟩⟩)
def c1D (a:List d7) (hpre:(((a.length+j5 a1f a):Nat):Int)<=1048576):A0c Tryz.prog 43 [(false,[y4 a])] [] (.one (false,[d1l a])):=by
 refine sx' true false none Tryz.func43 (q' 2 [ao (.mov (.k (.v false [.nl b2g])))] (q' 5 [am 0,aN,ao (.mks 10 136 [.i .i64,.s,.sl i7,.i .i64,.s,.i .i64,.s,.s,.i .i64,.s] (.t 6) (.t 6)),aV 3] (.seq (q' 4 [aK 0] (.block 0 (.loop (.seq (q' 8 [aM [4,0],aN,ar 8 10] (.cond (.t 11) .skip (.exit 0))) (.seq (.block 1 (g' 14 [aM [3,4,0,4],aI 10,aE 10,ac 93 [19],ai 10 14 15,aS 10 21 20])) (g' 12 [aB 4])))))) (q' 22 [am 3,aV 2] .ret)))) [.t 2] [(93,[],b1e)] ?_;intro hb hE;simp only [go_sem,b6E];repeat' first | apply cj' | intro hc | exact om' | fail
 refine lq' true [0,3] [] [] (fun i:{p:Nat×(List d7) // p.1<=a.length/\p.2.length=a.length/\p.2.take p.1=a.take p.1}=>[(4,slV (.i .i64 i.1.1))]) nl' (fun i=>[(896,c7k,i.1.2.map (d7.cells true true))]) (fun i=>a.length - i.1.1) (⟨(0,List.replicate a.length default),by simp⟩) ?_;intro S0 hS0 i;obtain ⟨⟨i,L⟩,hi,hl,ht⟩:=i;simp only at hi hl ht;have hg:=a8z a1f a i default rfl;simp only [go_sem,b6E,hS0];repeat' first | apply cj' | intro hc | exact om' | fail
 ·(refine lpK_n2 (⟨(i+1,L.set i (a.getD i default)),by simp only;omega,by simp [hl],y5 hl ht (by omega)⟩) _ rfl ?_;simp only [go_sem,b6E,hS0]<;>repeat' first | apply V0 | exact on' | fail)
 ·obtain rfl:=u3 hl ht (by omega);rfl
noncomputable def a9d:CT:=k9 (fun (x:(List d7)) h=>c1D x h)
@[go_sem] def d2R:=fun a=>nm' (fP' a9d rfl a)
def c1F (a:c7) (hpre:(a0u a:Int)<=1048576):A0c Tryz.prog 11 [(true,[.i .i64 a.Kind,.s a.Head.Name,j8 a.Head.Args,y4 a.Body])] [] (.one (true,[.i .i64 a.Kind,.s a.Head.Name,b3l a.Head.Args,d1l a.Body])):=by
 refine sx' true false none Tryz.func11 (q' 1 [ao (.box 4 (.t 0)),aw [.i .i64,.s,.sl i7,.sl b2g]] (q' 3 [aw [.i .i64,.s,.sl i7,.sl b2g]] (q' 4 [aG 0 1,af 0 3,aS 1 6 5] (q' 7 [af 1 1,aE 2,ac 42 [8],af 1 3,aS 2 10 9] (q' 11 [aG 3 1,ac 43 [12],af 3 3,aS 1 14 13] (q' 15 [ae 4 3,aS 4 2 15] .ret)))))) [.c 2 true 4] [(42,[],a4G),(43,[],a9d)] ?_;intro hb hE;simp only [go_sem];repeat' first | apply cj' | intro hc | exact om' | fail
 all_goals (simp only [a0u] at *;omega)
noncomputable def a9f:CT:=k9 (fun (x:c7) h=>c1F x h)
@[go_sem] def d2T:=fun x0 x1 x2 x3=>nm' (fP' a9f rfl ⟨x0,⟨x1,x2⟩,x3⟩)
def b9h (a:List c7) (hpre:(((a.length+j5 a0u a):Nat):Int)<=1048576):A0c Tryz.prog 62 [(false,[l3 a])] [] (.one (false,[b3j a])):=by
 refine sx' true false none Tryz.func62 (q' 2 [ao (.mov (.k (.v false [.nl c0d])))] (q' 5 [am 0,aN,ao (.mks 4 72 [.i .i64,.s,.sl i7,.sl b2g] (.t 6) (.t 6)),aV 3] (.seq (q' 4 [aK 0] (.block 0 (.loop (.seq (q' 8 [aM [4,0],aN,ar 8 10] (.cond (.t 11) .skip (.exit 0))) (.seq (.block 1 (g' 14 [aM [3,4,0,4],aI 4,aE 4,ac 11 [19],ai 4 14 15,aS 4 21 20])) (g' 12 [aB 4])))))) (q' 22 [am 3,aV 2] .ret)))) [.t 2] [(11,[],a9f)] ?_;intro hb hE;simp only [go_sem,b2i];repeat' first | apply cj' | intro hc | exact om' | fail
 refine lq' true [0,3] [] [] (fun i:{p:Nat×(List c7) // p.1<=a.length/\p.2.length=a.length/\p.2.take p.1=a.take p.1}=>[(4,slV (.i .i64 i.1.1))]) nl' (fun i=>[(896,c0f,i.1.2.map (c7.cells true true))]) (fun i=>a.length - i.1.1) (⟨(0,List.replicate a.length default),by simp⟩) ?_;intro S0 hS0 i;obtain ⟨⟨i,L⟩,hi,hl,ht⟩:=i;simp only at hi hl ht;have hg:=a8z a0u a i default rfl;simp only [go_sem,b2i,hS0];repeat' first | apply cj' | intro hc | exact om' | fail
 ·(refine lpK_n2 (⟨(i+1,L.set i (a.getD i default)),by simp only;omega,by simp [hl],y5 hl ht (by omega)⟩) _ rfl ?_;simp only [go_sem,b2i,hS0]<;>repeat' first | apply V0 | exact on' | fail)
 ·obtain rfl:=u3 hl ht (by omega);rfl
noncomputable def a7K:CT:=k9 (fun (x:(List c7)) h=>b9h x h)
@[go_sem] def d0I:=fun a=>nm' (fP' a7K rfl a)
def c1C (a:d9):A0c Tryz.prog 119 [(true,[.i .i64 a.Kind,.s a.Name,.i .i64 a.Arity])] [] (.one (true,[.i .i64 a.Kind,.s a.Name,.i .i64 a.Arity])):=by
 refine sx' true false none Tryz.func119 (q' 1 [ao (.box 3 (.t 0)),aw [.i .i64,.s,.i .i64]] (q' 3 [aw [.i .i64,.s,.i .i64]] (q' 4 [aG 0 1,af 0 3,aS 1 6 5] (q' 7 [aG 1 1,af 1 3,aS 1 9 8] (q' 10 [aG 2 1,af 2 3,aS 1 12 11] (q' 13 [ae 3 3,aS 3 2 13] .ret)))))) [.c 2 true 3] [] ?_;intro hb hE;simp only [go_sem];repeat' first | apply cj' | intro hc | exact om' | fail
noncomputable def a9c:CT:=i9 (fun (x:d9)=>c1C x)
@[go_sem] def d2Q:=fun x0 x1 x2=>nm' (fQ' a9c rfl ⟨x0,x1,x2⟩)
def b9f (a:List d9) (hpre:(((a.length+j5 a1Y a):Nat):Int)<=1048576):A0c Tryz.prog 61 [(false,[l4 a])] [] (.one (false,[b3k a])):=by
 refine sx' true false none Tryz.func61 (q' 2 [ao (.mov (.k (.v false [.nl a8f])))] (q' 5 [am 0,aN,ao (.mks 3 32 [.i .i64,.s,.i .i64] (.t 6) (.t 6)),aV 3] (.seq (q' 4 [aK 0] (.block 0 (.loop (.seq (q' 8 [aM [4,0],aN,ar 8 10] (.cond (.t 11) .skip (.exit 0))) (.seq (.block 1 (g' 14 [aM [3,4,0,4],aI 3,aE 3,ac 119 [19],ai 3 14 15,aS 3 21 20])) (g' 12 [aB 4])))))) (q' 22 [am 3,aV 2] .ret)))) [.t 2] [(119,[],a9c)] ?_;intro hb hE;simp only [go_sem,b2h];repeat' first | apply cj' | intro hc | exact om' | fail
 refine lq' true [0,3] [] [] (fun i:{p:Nat×(List d9) // p.1<=a.length/\p.2.length=a.length/\p.2.take p.1=a.take p.1}=>[(4,slV (.i .i64 i.1.1))]) nl' (fun i=>[(896,a8f,i.1.2.map d9.cells)]) (fun i=>a.length - i.1.1) (⟨(0,List.replicate a.length default),by simp⟩) ?_;intro S0 hS0 i;obtain ⟨⟨i,L⟩,hi,hl,ht⟩:=i;simp only at hi hl ht;simp only [go_sem,b2h,hS0];repeat' first | apply cj' | intro hc | exact om' | fail
 ·(refine lpK_n2 (⟨(i+1,L.set i (a.getD i default)),by simp only;omega,by simp [hl],y5 hl ht (by omega)⟩) _ rfl ?_;simp only [go_sem,b2h,hS0]<;>repeat' first | apply V0 | exact on' | fail)
 ·obtain rfl:=u3 hl ht (by omega);rfl
noncomputable def a7I:CT:=k9 (fun (x:(List d9)) h=>b9f x h)
@[go_sem] def d0G:=fun a=>nm' (fP' a7I rfl a)
def b3A (a:c4) (hpre:(a2q a:Int)<=1048576):A0c Tryz.prog 23 [(true,[l4 a.Decls,l3 a.Rules])] [] (.one (true,[b3k a.Decls,b3j a.Rules])):=by
 refine sx' true false none Tryz.func23 (q' 1 [ao (.box 2 (.t 0)),aw [.sl a8f,.sl c0d]] (q' 3 [aw [.sl a8f,.sl c0d]] (q' 4 [aG 0 1,ac 61 [5],af 0 3,aS 1 7 6] (q' 8 [aG 1 1,ac 62 [9],af 1 3,aS 1 11 10] (q' 12 [ae 2 3,aS 2 2 12] .ret))))) [.c 2 true 2] [(61,[],a7I),(62,[],a7K)] ?_;intro hb hE;simp only [go_sem];repeat' first | apply cj' | intro hc | exact om' | fail
 all_goals (simp only [a2q] at *;omega)
noncomputable def a5k:CT:=k9 (fun (x:c4) h=>b3A x h)
@[go_sem] def c7z:=fun x0 x1=>nm' (fP' a5k rfl ⟨x0,x1⟩)
def c1p (a:e8) (b:e8):A0c Tryz.prog 50 [(true,[.s a.Name,j8 a.Args]),(true,[.s b.Name,j8 b.Args])] [] (.one (false,[.b (decide (a=b))])):=by
 refine sx' false false none Tryz.func50 (q' 2 [ao (.box 2 (.t 0)),ao (.box 2 (.t 1)),ao (.mov (bb false))] (.seq (q' 5 [aG 0 2,aG 0 3,ao (.bin .neq (.t 6) (.t 8))] (.cond (.t 9) (q' 0 [ab 4 false] .ret) .skip)) (.seq (q' 10 [aG 1 2,aG 1 3,ac 110 [11,13],ao (.not (.t 14))] (.cond (.t 15) (q' 0 [ab 4 false] .ret) .skip)) (q' 0 [ab 4 true] .ret)))) [.t 4] [(110,[],a7C)] ?_;intro hb hE;simp only [go_sem];repeat' first | apply cj' | intro hc | exact om' | fail
 all_goals (cases a;cases b;simp_all)
noncomputable def a4C:CT:=i9 (fun (x:e8×e8)=>c1p x.1 x.2)
@[go_sem] def d2D:=fun x0 x1 x2 x3=>nm' (fQ' a4C rfl (⟨x0,x1⟩,⟨x2,x3⟩))
def c4f (a:d7) (b:d7):A0c Tryz.prog 111 [(true,[.i .i64 a.Kind,.s a.Atom.Name,j8 a.Atom.Args,.i .i64 a.Op,.s a.A.Var,.i .i64 a.A.Val.N,.s a.A.Val.S,.s a.B.Var,.i .i64 a.B.Val.N,.s a.B.Val.S]),(true,[.i .i64 b.Kind,.s b.Atom.Name,j8 b.Atom.Args,.i .i64 b.Op,.s b.A.Var,.i .i64 b.A.Val.N,.s b.A.Val.S,.s b.B.Var,.i .i64 b.B.Val.N,.s b.B.Val.S])] [] (.one (false,[.b (decide (a=b))])):=by
 refine sx' false false none Tryz.func111 (q' 2 [ao (.box 10 (.t 0)),ao (.box 10 (.t 1)),ao (.mov (bb false))] (.seq (q' 5 [aG 0 2,aG 0 3,ao (.bin .neq (.t 6) (.t 8))] (.cond (.t 9) (q' 0 [ab 4 false] .ret) .skip)) (.seq (q' 10 [af 1 2,aE 2,af 1 3,aE 2,ac 50 [11,13],ao (.not (.t 14))] (.cond (.t 15) (q' 0 [ab 4 false] .ret) .skip)) (.seq (q' 16 [aG 3 2,aG 3 3,ao (.bin .neq (.t 17) (.t 19))] (.cond (.t 20) (q' 0 [ab 4 false] .ret) .skip)) (.seq (q' 21 [af 4 2,aE 3,af 4 3,aE 3,ac 192 [22,24],ao (.not (.t 25))] (.cond (.t 26) (q' 0 [ab 4 false] .ret) .skip)) (.seq (q' 27 [af 7 2,aE 3,af 7 3,aE 3,ac 192 [28,30],ao (.not (.t 31))] (.cond (.t 32) (q' 0 [ab 4 false] .ret) .skip)) (q' 0 [ab 4 true] .ret))))))) [.t 4] [(50,[],a4C),(192,[],a4D)] ?_;intro hb hE;simp only [go_sem];repeat' first | apply cj' | intro hc | exact om' | fail
 all_goals (cases a;cases b;simp_all)
noncomputable def b0Y:CT:=i9 (fun (x:d7×d7)=>c4f x.1 x.2)
@[go_sem] def d4y:=fun x0 x1 x2 x3 x4 x5 x6 x7 x8 x9 x10 x11 x12 x13 x14 x15 x16 x17 x18 x19=>nm' (fQ' b0Y rfl (⟨x0,⟨x1,x2⟩,x3,⟨x4,⟨x5,x6⟩⟩,⟨x7,⟨x8,x9⟩⟩⟩,⟨x10,⟨x11,x12⟩,x13,⟨x14,⟨x15,x16⟩⟩,⟨x17,⟨x18,x19⟩⟩⟩))
def c1r (a:List d7) (b:List d7):A0c Tryz.prog 51 [(false,[y4 a]),(false,[y4 b])] [] (.one (false,[.b (decide (a=b))])):=by
 refine sx' false false none Tryz.func51 (q' 0 [ab 4 false] (.seq (q' 6 [am 0,aN,am 1,aN,ao (.bin .neq (.t 7) (.t 9))] (.cond (.t 10) (q' 0 [ab 4 false] .ret) .skip)) (.seq (q' 5 [aK 0] (.block 0 (.loop (.seq (q' 11 [aM [5,0],aN,ar 11 13] (.cond (.t 14) .skip (.exit 0))) (.seq (.block 1 (.seq (G' 17 [aM [0,5],aI 10,aE 10,aM [1,5],aI 10,aE 10,ac 111 [20,24],ao (.not (.t 25))]) (.cond (.t 26) (q' 0 [ab 4 false] .ret) .skip))) (g' 15 [aB 5])))))) (q' 0 [ab 4 true] .ret)))) [.t 4] [(111,[],b0Y)] ?_;intro hb hE;simp only [go_sem];repeat' first | apply cj' | intro hc | exact om' | fail
 ·symm;rw [q1J];rintro rfl;simp at hc
 have hl:a.length=b.length:=by simpa [q3I] using hc
 refine lq' false [0,1] [] [] (fun i:{i:Nat // i<=a.length/\a.take i=b.take i}=>[(5,slV (.i .i64 i.1))]) nl' nl' (fun i=>a.length - i.1) (⟨0,by simp⟩) ?_;intro S0 hS0 i;obtain ⟨i,hi,ht⟩:=i;simp only [go_sem,hS0];repeat' first | apply cj' | intro hc | exact om' | fail
 ·exact (V7 (a1x default (i:=i) (by simpa using hc))).symm
 ·exact nx0 ⟨i+1,by omega,a0J ht (by omega) (by omega) (d:=default) (by simpa using hc)⟩
 ·exact (V5 (u3 hl ht (by omega))).symm
noncomputable def a8V:CT:=i9 (fun (x:(List d7)×(List d7))=>c1r x.1 x.2)
@[go_sem] def d2F:=fun a b=>nm' (fQ' a8V rfl (a,b))
def c1t (a:c7) (b:c7):A0c Tryz.prog 15 [(true,[.i .i64 a.Kind,.s a.Head.Name,j8 a.Head.Args,y4 a.Body]),(true,[.i .i64 b.Kind,.s b.Head.Name,j8 b.Head.Args,y4 b.Body])] [] (.one (false,[.b (decide (a=b))])):=by
 refine sx' false false none Tryz.func15 (q' 2 [ao (.box 4 (.t 0)),ao (.box 4 (.t 1)),ao (.mov (bb false))] (.seq (q' 5 [aG 0 2,aG 0 3,ao (.bin .neq (.t 6) (.t 8))] (.cond (.t 9) (q' 0 [ab 4 false] .ret) .skip)) (.seq (q' 10 [af 1 2,aE 2,af 1 3,aE 2,ac 50 [11,13],ao (.not (.t 14))] (.cond (.t 15) (q' 0 [ab 4 false] .ret) .skip)) (.seq (q' 16 [aG 3 2,aG 3 3,ac 51 [17,19],ao (.not (.t 20))] (.cond (.t 21) (q' 0 [ab 4 false] .ret) .skip)) (q' 0 [ab 4 true] .ret))))) [.t 4] [(50,[],a4C),(51,[],a8V)] ?_;intro hb hE;simp only [go_sem];repeat' first | apply cj' | intro hc | exact om' | fail
 all_goals (cases a;cases b;simp_all)
noncomputable def a8X:CT:=i9 (fun (x:c7×c7)=>c1t x.1 x.2)
@[go_sem] def d2H:=fun x0 x1 x2 x3 x4 x5 x6 x7=>nm' (fQ' a8X rfl (⟨x0,⟨x1,x2⟩,x3⟩,⟨x4,⟨x5,x6⟩,x7⟩))
def b8V (a:List c7) (b:List c7):A0c Tryz.prog 65 [(false,[l3 a]),(false,[l3 b])] [] (.one (false,[.b (decide (a=b))])):=by
 refine sx' false false none Tryz.func65 (q' 0 [ab 4 false] (.seq (q' 6 [am 0,aN,am 1,aN,ao (.bin .neq (.t 7) (.t 9))] (.cond (.t 10) (q' 0 [ab 4 false] .ret) .skip)) (.seq (q' 5 [aK 0] (.block 0 (.loop (.seq (q' 11 [aM [5,0],aN,ar 11 13] (.cond (.t 14) .skip (.exit 0))) (.seq (.block 1 (.seq (G' 17 [aM [0,5],aI 4,aE 4,aM [1,5],aI 4,aE 4,ac 15 [20,24],ao (.not (.t 25))]) (.cond (.t 26) (q' 0 [ab 4 false] .ret) .skip))) (g' 15 [aB 5])))))) (q' 0 [ab 4 true] .ret)))) [.t 4] [(15,[],a8X)] ?_;intro hb hE;simp only [go_sem];repeat' first | apply cj' | intro hc | exact om' | fail
 ·symm;rw [q1J];rintro rfl;simp at hc
 have hl:a.length=b.length:=by simpa [q3I] using hc
 refine lq' false [0,1] [] [] (fun i:{i:Nat // i<=a.length/\a.take i=b.take i}=>[(5,slV (.i .i64 i.1))]) nl' nl' (fun i=>a.length - i.1) (⟨0,by simp⟩) ?_;intro S0 hS0 i;obtain ⟨i,hi,ht⟩:=i;simp only [go_sem,hS0];repeat' first | apply cj' | intro hc | exact om' | fail
 ·exact (V7 (a1x default (i:=i) (by simpa using hc))).symm
 ·exact nx0 ⟨i+1,by omega,a0J ht (by omega) (by omega) (d:=default) (by simpa using hc)⟩
 ·exact (V5 (u3 hl ht (by omega))).symm
noncomputable def a7A:CT:=i9 (fun (x:(List c7)×(List c7))=>b8V x.1 x.2)
@[go_sem] def d0w:=fun a b=>nm' (fQ' a7A rfl (a,b))
def c1q (a:d9) (b:d9):A0c Tryz.prog 123 [(true,[.i .i64 a.Kind,.s a.Name,.i .i64 a.Arity]),(true,[.i .i64 b.Kind,.s b.Name,.i .i64 b.Arity])] [] (.one (false,[.b (decide (a=b))])):=by
 refine sx' false false none Tryz.func123 (q' 2 [ao (.box 3 (.t 0)),ao (.box 3 (.t 1)),ao (.mov (bb false))] (.seq (q' 5 [aG 0 2,aG 0 3,ao (.bin .neq (.t 6) (.t 8))] (.cond (.t 9) (q' 0 [ab 4 false] .ret) .skip)) (.seq (q' 10 [aG 1 2,aG 1 3,ao (.bin .neq (.t 11) (.t 13))] (.cond (.t 14) (q' 0 [ab 4 false] .ret) .skip)) (.seq (q' 15 [aG 2 2,aG 2 3,ao (.bin .neq (.t 16) (.t 18))] (.cond (.t 19) (q' 0 [ab 4 false] .ret) .skip)) (q' 0 [ab 4 true] .ret))))) [.t 4] [] ?_;intro hb hE;simp only [go_sem];repeat' first | apply cj' | intro hc | exact om' | fail
 all_goals (cases a;cases b;simp_all)
noncomputable def a8U:CT:=i9 (fun (x:d9×d9)=>c1q x.1 x.2)
@[go_sem] def d2E:=fun x0 x1 x2 x3 x4 x5=>nm' (fQ' a8U rfl (⟨x0,x1,x2⟩,⟨x3,x4,x5⟩))
def b8T (a:List d9) (b:List d9):A0c Tryz.prog 64 [(false,[l4 a]),(false,[l4 b])] [] (.one (false,[.b (decide (a=b))])):=by
 refine sx' false false none Tryz.func64 (q' 0 [ab 4 false] (.seq (q' 6 [am 0,aN,am 1,aN,ao (.bin .neq (.t 7) (.t 9))] (.cond (.t 10) (q' 0 [ab 4 false] .ret) .skip)) (.seq (q' 5 [aK 0] (.block 0 (.loop (.seq (q' 11 [aM [5,0],aN,ar 11 13] (.cond (.t 14) .skip (.exit 0))) (.seq (.block 1 (.seq (G' 17 [aM [0,5],aI 3,aE 3,aM [1,5],aI 3,aE 3,ac 123 [20,24],ao (.not (.t 25))]) (.cond (.t 26) (q' 0 [ab 4 false] .ret) .skip))) (g' 15 [aB 5])))))) (q' 0 [ab 4 true] .ret)))) [.t 4] [(123,[],a8U)] ?_;intro hb hE;simp only [go_sem];repeat' first | apply cj' | intro hc | exact om' | fail
 ·symm;rw [q1J];rintro rfl;simp at hc
 have hl:a.length=b.length:=by simpa [q3I] using hc
 refine lq' false [0,1] [] [] (fun i:{i:Nat // i<=a.length/\a.take i=b.take i}=>[(5,slV (.i .i64 i.1))]) nl' nl' (fun i=>a.length - i.1) (⟨0,by simp⟩) ?_;intro S0 hS0 i;obtain ⟨i,hi,ht⟩:=i;simp only [go_sem,hS0];repeat' first | apply cj' | intro hc | exact om' | fail
 ·exact (V7 (a1x default (i:=i) (by simpa using hc))).symm
 ·exact nx0 ⟨i+1,by omega,a0J ht (by omega) (by omega) (d:=default) (by simpa using hc)⟩
 ·exact (V5 (u3 hl ht (by omega))).symm
noncomputable def a7y:CT:=i9 (fun (x:(List d9)×(List d9))=>b8T x.1 x.2)
@[go_sem] def d0u:=fun a b=>nm' (fQ' a7y rfl (a,b))
def b3t (a:c4) (b:c4):A0c Tryz.prog 25 [(true,[l4 a.Decls,l3 a.Rules]),(true,[l4 b.Decls,l3 b.Rules])] [] (.one (false,[.b (decide (a=b))])):=by
 refine sx' false false none Tryz.func25 (q' 2 [ao (.box 2 (.t 0)),ao (.box 2 (.t 1)),ao (.mov (bb false))] (.seq (q' 5 [aG 0 2,aG 0 3,ac 64 [6,8],ao (.not (.t 9))] (.cond (.t 10) (q' 0 [ab 4 false] .ret) .skip)) (.seq (q' 11 [aG 1 2,aG 1 3,ac 65 [12,14],ao (.not (.t 15))] (.cond (.t 16) (q' 0 [ab 4 false] .ret) .skip)) (q' 0 [ab 4 true] .ret)))) [.t 4] [(64,[],a7y),(65,[],a7A)] ?_;intro hb hE;simp only [go_sem];repeat' first | apply cj' | intro hc | exact om' | fail
 all_goals (cases a;cases b;simp_all)
noncomputable def a5e:CT:=i9 (fun (x:c4×c4)=>b3t x.1 x.2)
@[go_sem] def c7s:=fun x0 x1 x2 x3=>nm' (fQ' a5e rfl (⟨x0,x1⟩,⟨x2,x3⟩))
def a1g (x:d3):Nat:=(x.V.length+j5 a0N x.V)
def b3W (x:e7):Nat:=(x.Rows.length+j5 a1g x.Rows)
def a0d (x:c9):Nat:=x.Name.length+b3W x.Rel
def a5I (x:c8):Nat:=(x.Rels.length+j5 a0d x.Rels)
def b5S (a:List d4) (left:Int) (hpre:0<=left/\left<=1048576):A0c Tryz.prog 334 [(false,[l8 a]),(false,[.i .i64 left])] [] (.one (false,[.i .i64 (szR left ((a.length+j5 a0N a):Nat))])):=by
 refine sx' false false none Tryz.func334 (q' 4 [aK 0] (q' 6 [aM [1,0],aN,ao (.bin .sub (.t 6) (.t 8)),aV 1] (.seq (q' 10 [am 1,ao (.bin .lss (.t 10) (k' 0))] (.cond (.t 11) (q' 4 [ao (.mov (.k (.v false [.c (.i .i64 (-1))])))] .ret) .skip)) (.seq (q' 5 [aK 0] (.block 0 (.loop (.seq (q' 12 [aM [5,0],aN,ar 12 14] (.cond (.t 15) .skip (.exit 0))) (.seq (.block 1 (q' 18 [aM [0,5],aI 2,aE 2,am 1,ac 210 [21,22],aV 1] (q' 24 [am 1,ao (.bin .lss (.t 24) (k' 0))] (.cond (.t 25) (q' 4 [ao (.mov (.k (.v false [.c (.i .i64 (-1))])))] .ret) .skip)))) (g' 16 [aB 5])))))) (q' 26 [am 1,aV 4] .ret))))) [.t 4] [(210,[],a3x)] ?_;intro hb hE;simp only [go_sem];repeat' first | apply cj' | intro hc | exact om' | fail
 ·all_goals ((repeat (simp (disch:=omega) only [a0q] at *))<;>(try simp only [szR,szR] at *)<;>(first | omega | (split<;>omega)))
 have hw:=a0q (l:=left) (n:=a.length) (by omega) (by omega) (by omega) (by omega);rw [hw] at hc;refine lq' false [0] [] [] (fun i:{i:Nat // i<=a.length/\(a.length:Int)+(j5 a0N (a.take i):Nat)<=left}=>[(5,slV (.i .i64 i.1)),(1,slV (.i .i64 (left - a.length - (j5 a0N (a.take i.1):Nat))))]) nl' nl' (fun i=>a.length - i.1) (⟨0,by simp only [q1B,a2J];omega⟩) ?_;intro S0 hS0 i;obtain ⟨i,hi,ht⟩:=i;simp only [go_sem,hw,hS0];repeat' first | apply cj' | intro hc | exact om' | fail
 ·have h1:=j9 a0N (default:d4) (show i < a.length by omega);have h2:=s9 a0N a (i+1);all_goals ((repeat (simp (disch:=omega) only [a0q] at *))<;>(try simp only [szR,szR] at *)<;>(first | omega | (split<;>omega)))
 ·have h1:=j9 a0N (default:d4) (show i < a.length by omega)
  (refine lpK_n2 (⟨i+1,by omega,by unfold szR at hc;split at hc<;>omega⟩) _ rfl ?_;simp only [go_sem,hw,hS0]<;>repeat' first | apply V0 | exact on' | fail)
  rw [h1];unfold szR at hc ⊢;split at hc<;>omega
 ·have h1:=a0G a0N (show ¬ i < a.length by omega);all_goals ((repeat (simp (disch:=omega) only [a0q] at *))<;>(try simp only [szR,szR] at *)<;>(first | omega | (split<;>omega)))
 all_goals all_goals ((repeat (simp (disch:=omega) only [a0q] at *))<;>(try simp only [szR,szR] at *)<;>(first | omega | (split<;>omega)))
noncomputable def a6r:CT:=k9 (fun (x:(List d4)×Int) h=>b5S x.1 x.2 h)
@[go_sem] def c8L:=fun a x0=>nm' (fP' a6r rfl (a,x0))
def c4k (a:d3) (left:Int) (hpre:0<=left/\left<=1048576):A0c Tryz.prog 277 [(true,[l8 a.V]),(false,[.i .i64 left])] [] (.one (false,[.i .i64 (szR left (a1g a:Nat))])):=by
 refine sx' false false none Tryz.func277 (q' 2 [ao (.box 1 (.t 0)),az 4 0] (q' 5 [aG 0 2,am 1,ac 334 [6,7],aV 1] (.seq (q' 9 [am 1,ao (.bin .lss (.t 9) (k' 0))] (.cond (.t 10) (q' 4 [ao (.mov (.k (.v false [.c (.i .i64 (-1))])))] .ret) .skip)) (q' 11 [am 1,aV 4] .ret)))) [.t 4] [(334,[],a6r)] ?_;intro hb hE;simp only [go_sem];repeat' first | apply cj' | intro hc | exact om' | fail
 all_goals ((repeat (simp (disch:=omega) only [a0q] at *))<;>(try simp only [szR,a1g] at *)<;>(first | omega | (split<;>omega)))
noncomputable def b1d:CT:=k9 (fun (x:d3×Int) h=>c4k x.1 x.2 h)
@[go_sem] def d4D:=fun x0 x1=>nm' (fP' b1d rfl (⟨x0⟩,x1))
def c1y (a:List d3) (left:Int) (hpre:0<=left/\left<=1048576):A0c Tryz.prog 211 [(false,[w4 a]),(false,[.i .i64 left])] [] (.one (false,[.i .i64 (szR left ((a.length+j5 a1g a):Nat))])):=by
 refine sx' false false none Tryz.func211 (q' 4 [aK 0] (q' 6 [aM [1,0],aN,ao (.bin .sub (.t 6) (.t 8)),aV 1] (.seq (q' 10 [am 1,ao (.bin .lss (.t 10) (k' 0))] (.cond (.t 11) (q' 4 [ao (.mov (.k (.v false [.c (.i .i64 (-1))])))] .ret) .skip)) (.seq (q' 5 [aK 0] (.block 0 (.loop (.seq (q' 12 [aM [5,0],aN,ar 12 14] (.cond (.t 15) .skip (.exit 0))) (.seq (.block 1 (q' 18 [aM [0,5],aI 1,aE 1,am 1,ac 277 [21,22],aV 1] (q' 24 [am 1,ao (.bin .lss (.t 24) (k' 0))] (.cond (.t 25) (q' 4 [ao (.mov (.k (.v false [.c (.i .i64 (-1))])))] .ret) .skip)))) (g' 16 [aB 5])))))) (q' 26 [am 1,aV 4] .ret))))) [.t 4] [(277,[],b1d)] ?_;intro hb hE;simp only [go_sem];repeat' first | apply cj' | intro hc | exact om' | fail
 ·all_goals ((repeat (simp (disch:=omega) only [a0q] at *))<;>(try simp only [szR,szR] at *)<;>(first | omega | (split<;>omega)))
 have hw:=a0q (l:=left) (n:=a.length) (by omega) (by omega) (by omega) (by omega);rw [hw] at hc;refine lq' false [0] [] [] (fun i:{i:Nat // i<=a.length/\(a.length:Int)+(j5 a1g (a.take i):Nat)<=left}=>[(5,slV (.i .i64 i.1)),(1,slV (.i .i64 (left - a.length - (j5 a1g (a.take i.1):Nat))))]) nl' nl' (fun i=>a.length - i.1) (⟨0,by simp only [q1B,a2J];omega⟩) ?_;intro S0 hS0 i;obtain ⟨i,hi,ht⟩:=i;simp only [go_sem,hw,hS0];repeat' first | apply cj' | intro hc | exact om' | fail
 ·have h1:=j9 a1g (default:d3) (show i < a.length by omega);have h2:=s9 a1g a (i+1);all_goals ((repeat (simp (disch:=omega) only [a0q] at *))<;>(try simp only [szR,szR] at *)<;>(first | omega | (split<;>omega)))
 ·have h1:=j9 a1g (default:d3) (show i < a.length by omega)
  (refine lpK_n2 (⟨i+1,by omega,by unfold szR at hc;split at hc<;>omega⟩) _ rfl ?_;simp only [go_sem,hw,hS0]<;>repeat' first | apply V0 | exact on' | fail)
  rw [h1];unfold szR at hc ⊢;split at hc<;>omega
 ·have h1:=a0G a1g (show ¬ i < a.length by omega);all_goals ((repeat (simp (disch:=omega) only [a0q] at *))<;>(try simp only [szR,szR] at *)<;>(first | omega | (split<;>omega)))
 all_goals all_goals ((repeat (simp (disch:=omega) only [a0q] at *))<;>(try simp only [szR,szR] at *)<;>(first | omega | (split<;>omega)))
noncomputable def a9a:CT:=k9 (fun (x:(List d3)×Int) h=>c1y x.1 x.2 h)
@[go_sem] def d2M:=fun a x0=>nm' (fP' a9a rfl (a,x0))
def c4j (a:e7) (left:Int) (hpre:0<=left/\left<=1048576):A0c Tryz.prog 146 [(true,[.i .i64 a.Arity,w4 a.Rows]),(false,[.i .i64 left])] [] (.one (false,[.i .i64 (szR left (b3W a:Nat))])):=by
 refine sx' false false none Tryz.func146 (q' 2 [ao (.box 2 (.t 0)),az 4 0] (q' 5 [aG 1 2,am 1,ac 211 [6,7],aV 1] (.seq (q' 9 [am 1,ao (.bin .lss (.t 9) (k' 0))] (.cond (.t 10) (q' 4 [ao (.mov (.k (.v false [.c (.i .i64 (-1))])))] .ret) .skip)) (q' 11 [am 1,aV 4] .ret)))) [.t 4] [(211,[],a9a)] ?_;intro hb hE;simp only [go_sem];repeat' first | apply cj' | intro hc | exact om' | fail
 all_goals ((repeat (simp (disch:=omega) only [a0q] at *))<;>(try simp only [szR,b3W] at *)<;>(first | omega | (split<;>omega)))
noncomputable def b1c:CT:=k9 (fun (x:e7×Int) h=>c4j x.1 x.2 h)
@[go_sem] def d4C:=fun x0 x1 x2=>nm' (fP' b1c rfl (⟨x0,x1⟩,x2))
def b9a (a:c9) (left:Int) (hpre:0<=left/\left<=1048576):A0c Tryz.prog 85 [(true,[.s a.Name,.i .i64 a.Rel.Arity,w4 a.Rel.Rows]),(false,[.i .i64 left])] [] (.one (false,[.i .i64 (szR left (a0d a:Nat))])):=by
 refine sx' false false none Tryz.func85 (q' 2 [ao (.box 3 (.t 0)),az 4 0] (q' 5 [am 1,aG 0 2,ao (.lens (.t 7)),ao (.bin .sub (.t 5) (.t 8)),aV 1] (.seq (q' 10 [am 1,ao (.bin .lss (.t 10) (k' 0))] (.cond (.t 11) (q' 4 [ao (.mov (.k (.v false [.c (.i .i64 (-1))])))] .ret) .skip)) (q' 12 [af 1 2,aE 2,am 1,ac 146 [13,14],aV 1] (.seq (q' 16 [am 1,ao (.bin .lss (.t 16) (k' 0))] (.cond (.t 17) (q' 4 [ao (.mov (.k (.v false [.c (.i .i64 (-1))])))] .ret) .skip)) (q' 18 [am 1,aV 4] .ret)))))) [.t 4] [(146,[],b1c)] ?_;intro hb hE;simp only [go_sem];repeat' first | apply cj' | intro hc | exact om' | fail
 all_goals ((repeat (simp (disch:=omega) only [a0q] at *))<;>(try simp only [szR,a0d] at *)<;>(first | omega | (split<;>omega)))
noncomputable def a7E:CT:=k9 (fun (x:c9×Int) h=>b9a x.1 x.2 h)
@[go_sem] def d0B:=fun x0 x1 x2 x3=>nm' (fP' a7E rfl (⟨x0,⟨x1,x2⟩⟩,x3))
def b5R (a:List c9) (left:Int) (hpre:0<=left/\left<=1048576):A0c Tryz.prog 39 [(false,[i5 a]),(false,[.i .i64 left])] [] (.one (false,[.i .i64 (szR left ((a.length+j5 a0d a):Nat))])):=by
 refine sx' false false none Tryz.func39 (q' 4 [aK 0] (q' 6 [aM [1,0],aN,ao (.bin .sub (.t 6) (.t 8)),aV 1] (.seq (q' 10 [am 1,ao (.bin .lss (.t 10) (k' 0))] (.cond (.t 11) (q' 4 [ao (.mov (.k (.v false [.c (.i .i64 (-1))])))] .ret) .skip)) (.seq (q' 5 [aK 0] (.block 0 (.loop (.seq (q' 12 [aM [5,0],aN,ar 12 14] (.cond (.t 15) .skip (.exit 0))) (.seq (.block 1 (q' 18 [aM [0,5],aI 3,aE 3,am 1,ac 85 [21,22],aV 1] (q' 24 [am 1,ao (.bin .lss (.t 24) (k' 0))] (.cond (.t 25) (q' 4 [ao (.mov (.k (.v false [.c (.i .i64 (-1))])))] .ret) .skip)))) (g' 16 [aB 5])))))) (q' 26 [am 1,aV 4] .ret))))) [.t 4] [(85,[],a7E)] ?_;intro hb hE;simp only [go_sem];repeat' first | apply cj' | intro hc | exact om' | fail
 ·all_goals ((repeat (simp (disch:=omega) only [a0q] at *))<;>(try simp only [szR,szR] at *)<;>(first | omega | (split<;>omega)))
 have hw:=a0q (l:=left) (n:=a.length) (by omega) (by omega) (by omega) (by omega);rw [hw] at hc;refine lq' false [0] [] [] (fun i:{i:Nat // i<=a.length/\(a.length:Int)+(j5 a0d (a.take i):Nat)<=left}=>[(5,slV (.i .i64 i.1)),(1,slV (.i .i64 (left - a.length - (j5 a0d (a.take i.1):Nat))))]) nl' nl' (fun i=>a.length - i.1) (⟨0,by simp only [q1B,a2J];omega⟩) ?_;intro S0 hS0 i;obtain ⟨i,hi,ht⟩:=i;simp only [go_sem,hw,hS0];repeat' first | apply cj' | intro hc | exact om' | fail
 ·have h1:=j9 a0d (default:c9) (show i < a.length by omega);have h2:=s9 a0d a (i+1);all_goals ((repeat (simp (disch:=omega) only [a0q] at *))<;>(try simp only [szR,szR] at *)<;>(first | omega | (split<;>omega)))
 ·have h1:=j9 a0d (default:c9) (show i < a.length by omega)
  (refine lpK_n2 (⟨i+1,by omega,by unfold szR at hc;split at hc<;>omega⟩) _ rfl ?_;simp only [go_sem,hw,hS0]<;>repeat' first | apply V0 | exact on' | fail)
  rw [h1];unfold szR at hc ⊢;split at hc<;>omega
 ·have h1:=a0G a0d (show ¬ i < a.length by omega);all_goals ((repeat (simp (disch:=omega) only [a0q] at *))<;>(try simp only [szR,szR] at *)<;>(first | omega | (split<;>omega)))
 all_goals all_goals ((repeat (simp (disch:=omega) only [a0q] at *))<;>(try simp only [szR,szR] at *)<;>(first | omega | (split<;>omega)))
noncomputable def a6q:CT:=k9 (fun (x:(List c9)×Int) h=>b5R x.1 x.2 h)
@[go_sem] def c8K:=fun a x0=>nm' (fP' a6q rfl (a,x0))
def b9c (a:c8) (left:Int) (hpre:0<=left/\left<=1048576):A0c Tryz.prog 9 [(true,[i5 a.Rels]),(false,[.i .i64 left])] [] (.one (false,[.i .i64 (szR left (a5I a:Nat))])):=by
 refine sx' false false none Tryz.func9 (q' 2 [ao (.box 1 (.t 0)),az 4 0] (q' 5 [aG 0 2,am 1,ac 39 [6,7],aV 1] (.seq (q' 9 [am 1,ao (.bin .lss (.t 9) (k' 0))] (.cond (.t 10) (q' 4 [ao (.mov (.k (.v false [.c (.i .i64 (-1))])))] .ret) .skip)) (q' 11 [am 1,aV 4] .ret)))) [.t 4] [(39,[],a6q)] ?_;intro hb hE;simp only [go_sem];repeat' first | apply cj' | intro hc | exact om' | fail
 all_goals ((repeat (simp (disch:=omega) only [a0q] at *))<;>(try simp only [szR,a5I] at *)<;>(first | omega | (split<;>omega)))
noncomputable def a7G:CT:=k9 (fun (x:c8×Int) h=>b9c x.1 x.2 h)
@[go_sem] def d0D:=fun x0 x1=>nm' (fP' a7G rfl (⟨x0⟩,x1))
def b5U (a:List d4) (hpre:(((a.length+j5 a0N a):Nat):Int)<=1048576):A0c Tryz.prog 336 [(false,[l8 a])] [] (.one (false,[a4i a])):=by
 refine sx' true false none Tryz.func336 (q' 2 [ao (.mov (.k (.v false [.nl l5])))] (q' 5 [am 0,aN,ao (.mks 2 24 [.i .i64,.s] (.t 6) (.t 6)),aV 3] (.seq (q' 4 [aK 0] (.block 0 (.loop (.seq (q' 8 [aM [4,0],aN,ar 8 10] (.cond (.t 11) .skip (.exit 0))) (.seq (.block 1 (g' 14 [aM [3,4,0,4],aI 2,aE 2,ac 224 [19],ai 2 14 15,aS 2 21 20])) (g' 12 [aB 4])))))) (q' 22 [am 3,aV 2] .ret)))) [.t 2] [(224,[],a3y)] ?_;intro hb hE;simp only [go_sem,a9w];repeat' first | apply cj' | intro hc | exact om' | fail
 refine lq' true [0,3] [] [] (fun i:{p:Nat×(List d4) // p.1<=a.length/\p.2.length=a.length/\p.2.take p.1=a.take p.1}=>[(4,slV (.i .i64 i.1.1))]) nl' (fun i=>[(896,l5,i.1.2.map d4.cells)]) (fun i=>a.length - i.1.1) (⟨(0,List.replicate a.length default),by simp⟩) ?_;intro S0 hS0 i;obtain ⟨⟨i,L⟩,hi,hl,ht⟩:=i;simp only at hi hl ht;simp only [go_sem,a9w,hS0];repeat' first | apply cj' | intro hc | exact om' | fail
 ·(refine lpK_n2 (⟨(i+1,L.set i (a.getD i default)),by simp only;omega,by simp [hl],y5 hl ht (by omega)⟩) _ rfl ?_;simp only [go_sem,a9w,hS0]<;>repeat' first | apply V0 | exact on' | fail)
 ·obtain rfl:=u3 hl ht (by omega);rfl
noncomputable def a6t:CT:=k9 (fun (x:(List d4)) h=>b5U x h)
@[go_sem] def c8N:=fun a=>nm' (fP' a6t rfl a)
def c4n (a:d3) (hpre:(a1g a:Int)<=1048576):A0c Tryz.prog 283 [(true,[l8 a.V])] [] (.one (true,[a4i a.V])):=by
 refine sx' true false none Tryz.func283 (q' 1 [ao (.box 1 (.t 0)),aw [.sl l5]] (q' 3 [aw [.sl l5]] (q' 4 [aG 0 1,ac 336 [5],af 0 3,aS 1 7 6] (q' 8 [ae 1 3,aS 1 2 8] .ret)))) [.c 2 true 1] [(336,[],a6t)] ?_;intro hb hE;simp only [go_sem];repeat' first | apply cj' | intro hc | exact om' | fail
 all_goals (simp only [a1g] at *;omega)
noncomputable def b1g:CT:=k9 (fun (x:d3) h=>c4n x h)
@[go_sem] def d4G:=fun x0=>nm' (fP' b1g rfl ⟨x0⟩)
def c1E (a:List d3) (hpre:(((a.length+j5 a1g a):Nat):Int)<=1048576):A0c Tryz.prog 225 [(false,[w4 a])] [] (.one (false,[b4u a])):=by
 refine sx' true false none Tryz.func225 (q' 2 [ao (.mov (.k (.v false [.nl l6])))] (q' 5 [am 0,aN,ao (.mks 1 24 [.sl l5] (.t 6) (.t 6)),aV 3] (.seq (q' 4 [aK 0] (.block 0 (.loop (.seq (q' 8 [aM [4,0],aN,ar 8 10] (.cond (.t 11) .skip (.exit 0))) (.seq (.block 1 (g' 14 [aM [3,4,0,4],aI 1,aE 1,ac 283 [19],ai 1 14 15,aS 1 21 20])) (g' 12 [aB 4])))))) (q' 22 [am 3,aV 2] .ret)))) [.t 2] [(283,[],b1g)] ?_;intro hb hE;simp only [go_sem,b6H];repeat' first | apply cj' | intro hc | exact om' | fail
 refine lq' true [0,3] [] [] (fun i:{p:Nat×(List d3) // p.1<=a.length/\p.2.length=a.length/\p.2.take p.1=a.take p.1}=>[(4,slV (.i .i64 i.1.1))]) nl' (fun i=>[(896,c0e,i.1.2.map (d3.cells true true))]) (fun i=>a.length - i.1.1) (⟨(0,List.replicate a.length default),by simp⟩) ?_;intro S0 hS0 i;obtain ⟨⟨i,L⟩,hi,hl,ht⟩:=i;simp only at hi hl ht;have hg:=a8z a1g a i default rfl;simp only [go_sem,b6H,hS0];repeat' first | apply cj' | intro hc | exact om' | fail
 ·(refine lpK_n2 (⟨(i+1,L.set i (a.getD i default)),by simp only;omega,by simp [hl],y5 hl ht (by omega)⟩) _ rfl ?_;simp only [go_sem,b6H,hS0]<;>repeat' first | apply V0 | exact on' | fail)
 ·obtain rfl:=u3 hl ht (by omega);rfl
noncomputable def a9e:CT:=k9 (fun (x:(List d3)) h=>c1E x h)
@[go_sem] def d2S:=fun a=>nm' (fP' a9e rfl a)
def c4m (a:e7) (hpre:(b3W a:Int)<=1048576):A0c Tryz.prog 164 [(true,[.i .i64 a.Arity,w4 a.Rows])] [] (.one (true,[.i .i64 a.Arity,b4u a.Rows])):=by
 refine sx' true false none Tryz.func164 (q' 1 [ao (.box 2 (.t 0)),aw [.i .i64,.sl l6]] (q' 3 [aw [.i .i64,.sl l6]] (q' 4 [aG 0 1,af 0 3,aS 1 6 5] (q' 7 [aG 1 1,ac 225 [8],af 1 3,aS 1 10 9] (q' 11 [ae 2 3,aS 2 2 11] .ret))))) [.c 2 true 2] [(225,[],a9e)] ?_;intro hb hE;simp only [go_sem];repeat' first | apply cj' | intro hc | exact om' | fail
 all_goals (simp only [b3W] at *;omega)
noncomputable def b1f:CT:=k9 (fun (x:e7) h=>c4m x h)
@[go_sem] def d4F:=fun x0 x1=>nm' (fP' b1f rfl ⟨x0,x1⟩)
def b9g (a:c9) (hpre:(a0d a:Int)<=1048576):A0c Tryz.prog 94 [(true,[.s a.Name,.i .i64 a.Rel.Arity,w4 a.Rel.Rows])] [] (.one (true,[.s a.Name,.i .i64 a.Rel.Arity,b4u a.Rel.Rows])):=by
 refine sx' true false none Tryz.func94 (q' 1 [ao (.box 3 (.t 0)),aw [.s,.i .i64,.sl l6]] (q' 3 [aw [.s,.i .i64,.sl l6]] (q' 4 [aG 0 1,af 0 3,aS 1 6 5] (q' 7 [af 1 1,aE 2,ac 164 [8],af 1 3,aS 2 10 9] (q' 11 [ae 3 3,aS 3 2 11] .ret))))) [.c 2 true 3] [(164,[],b1f)] ?_;intro hb hE;simp only [go_sem];repeat' first | apply cj' | intro hc | exact om' | fail
 all_goals (simp only [a0d] at *;omega)
noncomputable def a7J:CT:=k9 (fun (x:c9) h=>b9g x h)
@[go_sem] def d0H:=fun x0 x1 x2=>nm' (fP' a7J rfl ⟨x0,⟨x1,x2⟩⟩)
def b5T (a:List c9) (hpre:(((a.length+j5 a0d a):Nat):Int)<=1048576):A0c Tryz.prog 44 [(false,[i5 a])] [] (.one (false,[a3g a])):=by
 refine sx' true false none Tryz.func44 (q' 2 [ao (.mov (.k (.v false [.nl i6])))] (q' 5 [am 0,aN,ao (.mks 3 48 [.s,.i .i64,.sl l6] (.t 6) (.t 6)),aV 3] (.seq (q' 4 [aK 0] (.block 0 (.loop (.seq (q' 8 [aM [4,0],aN,ar 8 10] (.cond (.t 11) .skip (.exit 0))) (.seq (.block 1 (g' 14 [aM [3,4,0,4],aI 3,aE 3,ac 94 [19],ai 3 14 15,aS 3 21 20])) (g' 12 [aB 4])))))) (q' 22 [am 3,aV 2] .ret)))) [.t 2] [(94,[],a7J)] ?_;intro hb hE;simp only [go_sem,a9u];repeat' first | apply cj' | intro hc | exact om' | fail
 refine lq' true [0,3] [] [] (fun i:{p:Nat×(List c9) // p.1<=a.length/\p.2.length=a.length/\p.2.take p.1=a.take p.1}=>[(4,slV (.i .i64 i.1.1))]) nl' (fun i=>[(896,a8C,i.1.2.map (c9.cells true true))]) (fun i=>a.length - i.1.1) (⟨(0,List.replicate a.length default),by simp⟩) ?_;intro S0 hS0 i;obtain ⟨⟨i,L⟩,hi,hl,ht⟩:=i;simp only at hi hl ht;have hg:=a8z a0d a i default rfl;simp only [go_sem,a9u,hS0];repeat' first | apply cj' | intro hc | exact om' | fail
 ·(refine lpK_n2 (⟨(i+1,L.set i (a.getD i default)),by simp only;omega,by simp [hl],y5 hl ht (by omega)⟩) _ rfl ?_;simp only [go_sem,a9u,hS0]<;>repeat' first | apply V0 | exact on' | fail)
 ·obtain rfl:=u3 hl ht (by omega);rfl
noncomputable def a6s:CT:=k9 (fun (x:(List c9)) h=>b5T x h)
@[go_sem] def c8M:=fun a=>nm' (fP' a6s rfl a)
def b9i (a:c8) (hpre:(a5I a:Int)<=1048576):A0c Tryz.prog 12 [(true,[i5 a.Rels])] [] (.one (true,[a3g a.Rels])):=by
 refine sx' true false none Tryz.func12 (q' 1 [ao (.box 1 (.t 0)),aw [.sl i6]] (q' 3 [aw [.sl i6]] (q' 4 [aG 0 1,ac 44 [5],af 0 3,aS 1 7 6] (q' 8 [ae 1 3,aS 1 2 8] .ret)))) [.c 2 true 1] [(44,[],a6s)] ?_;intro hb hE;simp only [go_sem];repeat' first | apply cj' | intro hc | exact om' | fail
 all_goals (simp only [a5I] at *;omega)
noncomputable def a7L:CT:=k9 (fun (x:c8) h=>b9i x h)
@[go_sem] def d0J:=fun x0=>nm' (fP' a7L rfl ⟨x0⟩)
def c1s (a:List d3) (b:List d3):A0c Tryz.prog 49 [(false,[w4 a]),(false,[w4 b])] [] (.one (false,[.b (decide (a=b))])):=by
 refine sx' false false none Tryz.func49 (q' 0 [ab 4 false] (.seq (q' 6 [am 0,aN,am 1,aN,ao (.bin .neq (.t 7) (.t 9))] (.cond (.t 10) (q' 0 [ab 4 false] .ret) .skip)) (.seq (q' 5 [aK 0] (.block 0 (.loop (.seq (q' 11 [aM [5,0],aN,ar 11 13] (.cond (.t 14) .skip (.exit 0))) (.seq (.block 1 (.seq (G' 17 [aM [0,5],aI 1,aE 1,aM [1,5],aI 1,aE 1,ac 109 [20,24],ao (.not (.t 25))]) (.cond (.t 26) (q' 0 [ab 4 false] .ret) .skip))) (g' 15 [aB 5])))))) (q' 0 [ab 4 true] .ret)))) [.t 4] [(109,[],b1a)] ?_;intro hb hE;simp only [go_sem];repeat' first | apply cj' | intro hc | exact om' | fail
 ·symm;rw [q1J];rintro rfl;simp at hc
 have hl:a.length=b.length:=by simpa [q3I] using hc
 refine lq' false [0,1] [] [] (fun i:{i:Nat // i<=a.length/\a.take i=b.take i}=>[(5,slV (.i .i64 i.1))]) nl' nl' (fun i=>a.length - i.1) (⟨0,by simp⟩) ?_;intro S0 hS0 i;obtain ⟨i,hi,ht⟩:=i;simp only [go_sem,hS0];repeat' first | apply cj' | intro hc | exact om' | fail
 ·exact (V7 (a1x default (i:=i) (by simpa using hc))).symm
 ·exact nx0 ⟨i+1,by omega,a0J ht (by omega) (by omega) (d:=default) (by simpa using hc)⟩
 ·exact (V5 (u3 hl ht (by omega))).symm
noncomputable def a8W:CT:=i9 (fun (x:(List d3)×(List d3))=>c1s x.1 x.2)
@[go_sem] def d2G:=fun a b=>nm' (fQ' a8W rfl (a,b))
def c4g (a:e7) (b:e7):A0c Tryz.prog 14 [(true,[.i .i64 a.Arity,w4 a.Rows]),(true,[.i .i64 b.Arity,w4 b.Rows])] [] (.one (false,[.b (decide (a=b))])):=by
 refine sx' false false none Tryz.func14 (q' 2 [ao (.box 2 (.t 0)),ao (.box 2 (.t 1)),ao (.mov (bb false))] (.seq (q' 5 [aG 0 2,aG 0 3,ao (.bin .neq (.t 6) (.t 8))] (.cond (.t 9) (q' 0 [ab 4 false] .ret) .skip)) (.seq (q' 10 [aG 1 2,aG 1 3,ac 49 [11,13],ao (.not (.t 14))] (.cond (.t 15) (q' 0 [ab 4 false] .ret) .skip)) (q' 0 [ab 4 true] .ret)))) [.t 4] [(49,[],a8W)] ?_;intro hb hE;simp only [go_sem];repeat' first | apply cj' | intro hc | exact om' | fail
 all_goals (cases a;cases b;simp_all)
noncomputable def b0Z:CT:=i9 (fun (x:e7×e7)=>c4g x.1 x.2)
@[go_sem] def d4z:=fun x0 x1 x2 x3=>nm' (fQ' b0Z rfl (⟨x0,x1⟩,⟨x2,x3⟩))
def b8U (a:c9) (b:c9):A0c Tryz.prog 112 [(true,[.s a.Name,.i .i64 a.Rel.Arity,w4 a.Rel.Rows]),(true,[.s b.Name,.i .i64 b.Rel.Arity,w4 b.Rel.Rows])] [] (.one (false,[.b (decide (a=b))])):=by
 refine sx' false false none Tryz.func112 (q' 2 [ao (.box 3 (.t 0)),ao (.box 3 (.t 1)),ao (.mov (bb false))] (.seq (q' 5 [aG 0 2,aG 0 3,ao (.bin .neq (.t 6) (.t 8))] (.cond (.t 9) (q' 0 [ab 4 false] .ret) .skip)) (.seq (q' 10 [af 1 2,aE 2,af 1 3,aE 2,ac 14 [11,13],ao (.not (.t 14))] (.cond (.t 15) (q' 0 [ab 4 false] .ret) .skip)) (q' 0 [ab 4 true] .ret)))) [.t 4] [(14,[],b0Z)] ?_;intro hb hE;simp only [go_sem];repeat' first | apply cj' | intro hc | exact om' | fail
 all_goals (cases a;cases b;simp_all)
noncomputable def a7z:CT:=i9 (fun (x:c9×c9)=>b8U x.1 x.2)
@[go_sem] def d0v:=fun x0 x1 x2 x3 x4 x5=>nm' (fQ' a7z rfl (⟨x0,⟨x1,x2⟩⟩,⟨x3,⟨x4,x5⟩⟩))
def b5L (a:List c9) (b:List c9):A0c Tryz.prog 52 [(false,[i5 a]),(false,[i5 b])] [] (.one (false,[.b (decide (a=b))])):=by
 refine sx' false false none Tryz.func52 (q' 0 [ab 4 false] (.seq (q' 6 [am 0,aN,am 1,aN,ao (.bin .neq (.t 7) (.t 9))] (.cond (.t 10) (q' 0 [ab 4 false] .ret) .skip)) (.seq (q' 5 [aK 0] (.block 0 (.loop (.seq (q' 11 [aM [5,0],aN,ar 11 13] (.cond (.t 14) .skip (.exit 0))) (.seq (.block 1 (.seq (G' 17 [aM [0,5],aI 3,aE 3,aM [1,5],aI 3,aE 3,ac 112 [20,24],ao (.not (.t 25))]) (.cond (.t 26) (q' 0 [ab 4 false] .ret) .skip))) (g' 15 [aB 5])))))) (q' 0 [ab 4 true] .ret)))) [.t 4] [(112,[],a7z)] ?_;intro hb hE;simp only [go_sem];repeat' first | apply cj' | intro hc | exact om' | fail
 ·symm;rw [q1J];rintro rfl;simp at hc
 have hl:a.length=b.length:=by simpa [q3I] using hc
 refine lq' false [0,1] [] [] (fun i:{i:Nat // i<=a.length/\a.take i=b.take i}=>[(5,slV (.i .i64 i.1))]) nl' nl' (fun i=>a.length - i.1) (⟨0,by simp⟩) ?_;intro S0 hS0 i;obtain ⟨i,hi,ht⟩:=i;simp only [go_sem,hS0];repeat' first | apply cj' | intro hc | exact om' | fail
 ·exact (V7 (a1x default (i:=i) (by simpa using hc))).symm
 ·exact nx0 ⟨i+1,by omega,a0J ht (by omega) (by omega) (d:=default) (by simpa using hc)⟩
 ·exact (V5 (u3 hl ht (by omega))).symm
noncomputable def a6l:CT:=i9 (fun (x:(List c9)×(List c9))=>b5L x.1 x.2)
@[go_sem] def c8E:=fun a b=>nm' (fQ' a6l rfl (a,b))
def b8W (a:c8) (b:c8):A0c Tryz.prog 16 [(true,[i5 a.Rels]),(true,[i5 b.Rels])] [] (.one (false,[.b (decide (a=b))])):=by
 refine sx' false false none Tryz.func16 (q' 2 [ao (.box 1 (.t 0)),ao (.box 1 (.t 1)),ao (.mov (bb false))] (.seq (q' 5 [aG 0 2,aG 0 3,ac 52 [6,8],ao (.not (.t 9))] (.cond (.t 10) (q' 0 [ab 4 false] .ret) .skip)) (q' 0 [ab 4 true] .ret))) [.t 4] [(52,[],a6l)] ?_;intro hb hE;simp only [go_sem];repeat' first | apply cj' | intro hc | exact om' | fail
 all_goals (cases a;cases b;simp_all)
noncomputable def a7B:CT:=i9 (fun (x:c8×c8)=>b8W x.1 x.2)
@[go_sem] def d0x:=fun x0 x1=>nm' (fQ' a7B rfl (⟨x0⟩,⟨x1⟩))
def digN (n:Nat) (acc:List UInt8):List UInt8:=if h:n=0 then acc else digN (n / 10) (UInt8.ofNat (48+n % 10)::acc)
termination_by n
decreasing_by omega
def a3M (k:Int):List UInt8:=if k<=0 then [109,48] else 109::digN k.toNat []
def b5Q (k:Int) (hpre:k<=4611686018427387904):A0c Tryz.prog 114 [(false,[.i .i64 k])] [] (.one (false,[.s (a3M k)])):=by
 refine sx' false false none Tryz.func114 (q' 2 [ao (.mov (.k (.v false [.c (.s [])])))] (.seq (q' 4 [am 0,ao (.bin .leq (.t 4) (k' 0))] (.cond (.t 5) (q' 2 [ao (.mov (.k (.v false [.c (.s [109, 48])])))] .ret) .skip)) (q' 3 [ao (.mov (.k (.v false [.c (.s [])])))] (.seq (.block 0 (.loop (.seq (q' 6 [am 0,ao (.bin .gtr (.t 6) (k' 0))] (.cond (.t 7) .skip (.exit 0))) (.block 1 (q' 8 [am 0,ao (.bin .rem (.t 8) (k' 10)),ao (.bin .add (k' 48) (.t 9)),ao (.cv .u8 (.t 10)),ao (.bsl 1 1 [.i .u8] [(0,.t 11)]),ao (.bs2s (.t 12)),am 3,ao (.bin .add (.t 13) (.t 14)),aV 3] (g' 16 [am 0,ao (.bin .quo (.t 16) (k' 10)),aV 0])))))) (q' 18 [am 3,ao (.bin .add (.k (.v false [.c (.s [109])])) (.t 18)),aV 2] .ret))))) [.t 2] [] ?_;intro hb hE;simp only [go_sem];repeat' first | apply cj' | intro hc | exact om' | fail
 ·rw [a3M,if_pos hc]
 have hk:=hc;refine lq' false [] [] [] (fun i:{p:Nat×List UInt8 // digN p.1 p.2=digN k.toNat []/\p.2.length+p.1<=k.toNat}=>[(0,slV (.i .i64 i.1.1)),(3,slV (.s i.1.2))]) nl' nl' (fun i=>i.1.1) (⟨(k.toNat,[]),by simp⟩) ?_;intro S0 hS0 i;obtain ⟨⟨n,acc⟩,hd,hl⟩:=i;simp only at hd hl;have hq:IntKind.i64.wrap ((n:Int).tdiv 10)=((n / 10:Nat):Int):=by rw [IntWalk.i64_quo _ _ (by omega)];omega
 have hr:(IntKind.u8.wrap (IntKind.i64.wrap (48+(n:Int).tmod 10))).toNat=48+n % 10:=by
  have e:(n:Int).tmod 10=((n % 10:Nat):Int):=by rw [Int.tmod_eq_emod_of_nonneg (by omega)];omega
  rw [e,IntWalk.i64_in _ (by omega),IntWalk.u8_in _ (by omega)];omega
 simp only [go_sem,hq,hr];repeat' first | apply cj' | intro hc | exact om' | fail
 ·have hn:n≠0:=by omega
  (refine lpK_n2 (⟨(n / 10,UInt8.ofNat (48+n % 10)::acc),by rw [<- hd];conv=>rhs;rw [digN];rw [dif_neg hn],by simp only [V8];omega⟩) _ rfl ?_;simp only [go_sem,hq,hr]<;>repeat' first | apply V0 | exact on' | fail)
 ·have hn:n=0:=by omega
  subst hn;rw [a3M,if_neg hk,<- hd,digN];rfl
noncomputable def w7:CT:=k9 (fun (x:Int) h=>b5Q x h)
@[go_sem] def c8J:=fun k=>nm' (fP' w7 rfl k)
def a2n (k:Int):d4:=(d4.mk k (a3M (k+1)))
def a1b (n:Nat) (k:Int):List d4:=(List.range n).map fun i:Nat=>a2n (k+2 * (i:Int))
def a0E (n:Nat) (k:Int):(a1b n k).length=n:=by simp [a1b]
def a6L (n:Nat) (k:Int) {i:Nat} (h:i < n):(a1b n k).getD i default=a2n (k+2 * (i:Int)):=by
 rw [W7,a1b,q3P,List.getElem?_range h];rfl
def b3S (k:Int):d5:=(d5.mk (a3M k) (d4.mk (k+1) (a3M (k+2))))
def a1F (n:Nat) (k:Int):List d5:=(List.range n).map fun i:Nat=>b3S (k+3 * (i:Int))
def a2x (n:Nat) (k:Int):(a1F n k).length=n:=by simp [a1F]
def b9C (n:Nat) (k:Int) {i:Nat} (h:i < n):(a1F n k).getD i default=b3S (k+3 * (i:Int)):=by
 rw [W7,a1F,q3P,List.getElem?_range h];rfl
def b1K (a:List d4) (k:Int) (hpre:0<=k/\k+2 * (a.length:Nat)<=4611686018427387904):A0c Tryz.prog 115 [(false,[a4i a]),(false,[.i .i64 k])] [(0,(false,[a4i (a1b a.length k)]))] (.one (false,[.i .i64 (k+2 * (a.length:Nat))])):=by
 refine sx' true false (some 0) Tryz.func115 (q' 4 [aK 0] (.seq (q' 5 [aK 0] (.block 0 (.loop (.seq (q' 6 [aM [5,0],aN,ar 6 8] (.cond (.t 9) .skip (.exit 0))) (.seq (.block 1 (q' 12 [aM [0,5,1],ai 2 12 13,aF 0,aS 1 16 14] (q' 17 [aB 1] (q' 19 [aM [0,5,1],ac 114 [21],ai 2 19 20,aF 1,aS 1 24 22] (g' 25 [aB 1]))))) (g' 10 [aB 5])))))) (q' 27 [am 1,aV 4] .ret))) [.t 4] [(114,[],w7)] ?_;intro hb hE;simp only [go_sem];repeat' first | apply cj' | intro hc | exact om' | fail
 refine lq' true [0] [] [] (fun i:{p:Nat×(List d4) // p.1<=a.length/\p.2.length=a.length/\p.2.take p.1=(a1b a.length k).take p.1}=>[(5,slV (.i .i64 i.1.1)),(1,slV (.i .i64 (k+2 * (i.1.1:Int))))]) nl' (fun i=>[(1,l5,i.1.2.map d4.cells)]) (fun i=>a.length - i.1.1) (⟨(0,a),by simp⟩) ?_;intro S0 hS0 i;obtain ⟨⟨i,L⟩,hi,hl,ht⟩:=i;simp only at hi hl ht;by_cases hil:(i:Int) < L.length
 ·have hgs:∀ x,(L.set i x).getD i default=x:=fun x=>by rw [W7,q1C (by omega)];rfl
  have hss:∀ x y,(L.set i x).set i y=L.set i y:=fun x y=>q3F ..
  have hw0:IntKind.i64.wrap (k+2 * (i:Int)+1)=k+2 * (i:Int)+1:=w64 (by omega) (by omega) (by omega);have hw1:IntKind.i64.wrap (k+2 * (i:Int)+1+1)=k+2 * (i:Int)+2:=w64 (by omega) (by omega) (by omega);simp only [go_sem,hS0,hgs,hss,hil,hw0,hw1];repeat' first | apply cj' | intro hc | exact om' | fail
  (refine lpK_n2 (⟨(i+1,L.set i (a2n (k+2 * (i:Int)))),by simp only;omega,by simp [hl],by rw [<- a6L a.length k (show i < a.length by omega)];exact y5 (by rw [hl,a0E]) ht (by rw [a0E];omega)⟩) _ rfl ?_;simp only [go_sem,hS0,hgs,hss,hil,hw0,hw1]<;>repeat' first | apply V0 | exact on' | fail)
  ·exact (hc trivial).elim
 ·simp only [go_sem,hS0,hil];repeat' first | apply cj' | intro hc | exact om' | fail
  obtain rfl:i=a.length:=by omega
  obtain rfl:=u3 (by rw [hl,a0E]) ht (by rw [a0E];omega);exact ⟨rfl,rfl⟩
noncomputable def a4f:CT:=k9 (fun (x:(List d4)×Int) h=>b1K x.1 x.2 h)
@[go_sem] def c5F:=fun a k=>nm' (fP' a4f rfl (a,k))
def b3y (a:List d5) (k:Int) (hpre:0<=k/\k+3 * (a.length:Nat)<=4611686018427387904):A0c Tryz.prog 113 [(false,[b3l a]),(false,[.i .i64 k])] [(0,(false,[b3l (a1F a.length k)]))] (.one (false,[.i .i64 (k+3 * (a.length:Nat))])):=by
 refine sx' true false (some 0) Tryz.func113 (q' 4 [aK 0] (.seq (q' 5 [aK 0] (.block 0 (.loop (.seq (q' 6 [aM [5,0],aN,ar 6 8] (.cond (.t 9) .skip (.exit 0))) (.seq (.block 1 (q' 12 [aM [0,5,1],ac 114 [14],ai 3 12 13,aF 0,aS 1 17 15] (q' 18 [aB 1] (q' 20 [aM [0,5,1],ai 3 20 21,aF 1,aF 0,aS 1 25 22] (q' 26 [aB 1] (q' 28 [aM [0,5,1],ac 114 [30],ai 3 28 29,aF 1,aF 1,aS 1 34 31] (g' 35 [aB 1]))))))) (g' 10 [aB 5])))))) (q' 37 [am 1,aV 4] .ret))) [.t 4] [(114,[],w7)] ?_;intro hb hE;simp only [go_sem];repeat' first | apply cj' | intro hc | exact om' | fail
 refine lq' true [0] [] [] (fun i:{p:Nat×(List d5) // p.1<=a.length/\p.2.length=a.length/\p.2.take p.1=(a1F a.length k).take p.1}=>[(5,slV (.i .i64 i.1.1)),(1,slV (.i .i64 (k+3 * (i.1.1:Int))))]) nl' (fun i=>[(1,i7,i.1.2.map d5.cells)]) (fun i=>a.length - i.1.1) (⟨(0,a),by simp⟩) ?_;intro S0 hS0 i;obtain ⟨⟨i,L⟩,hi,hl,ht⟩:=i;simp only at hi hl ht;by_cases hil:(i:Int) < L.length
 ·have hgs:∀ x,(L.set i x).getD i default=x:=fun x=>by rw [W7,q1C (by omega)];rfl
  have hss:∀ x y,(L.set i x).set i y=L.set i y:=fun x y=>q3F ..
  have hw0:IntKind.i64.wrap (k+3 * (i:Int)+1)=k+3 * (i:Int)+1:=w64 (by omega) (by omega) (by omega);have hw1:IntKind.i64.wrap (k+3 * (i:Int)+1+1)=k+3 * (i:Int)+2:=w64 (by omega) (by omega) (by omega);have hw2:IntKind.i64.wrap (k+3 * (i:Int)+2+1)=k+3 * (i:Int)+3:=w64 (by omega) (by omega) (by omega);simp only [go_sem,hS0,hgs,hss,hil,hw0,hw1,hw2];repeat' first | apply cj' | intro hc | exact om' | fail
  (refine lpK_n2 (⟨(i+1,L.set i (b3S (k+3 * (i:Int)))),by simp only;omega,by simp [hl],by rw [<- b9C a.length k (show i < a.length by omega)];exact y5 (by rw [hl,a2x]) ht (by rw [a2x];omega)⟩) _ rfl ?_;simp only [go_sem,hS0,hgs,hss,hil,hw0,hw1,hw2]<;>repeat' first | apply V0 | exact on' | fail)
  ·exact (hc trivial).elim
 ·simp only [go_sem,hS0,hil];repeat' first | apply cj' | intro hc | exact om' | fail
  obtain rfl:i=a.length:=by omega
  obtain rfl:=u3 (by rw [hl,a2x]) ht (by rw [a2x];omega);exact ⟨rfl,rfl⟩
noncomputable def a2e:CT:=k9 (fun (x:(List d5)×Int) h=>b3y x.1 x.2 h)
@[go_sem] def c7x:=fun a k=>nm' (fP' a2e rfl (a,k))
def b1I (a:List d4) (k:Int) (hpre:(0<=k/\k+2 * (a.length:Nat)<=4611686018427387904)/\a=a1b a.length k):A0c Tryz.prog 116 [(false,[l8 a]),(false,[.i .i64 k])] [] (.one (false,[.i .i64 (k+2 * (a.length:Nat))])):=by
 refine sx' false false none Tryz.func116 (q' 4 [aK 0] (.seq (q' 5 [aK 0] (.block 0 (.loop (.seq (q' 6 [aM [5,0],aN,ar 6 8] (.cond (.t 9) .skip (.exit 0))) (.seq (.block 1 (.seq (q' 12 [aM [0,5],aI 2,aG 0 14,am 1,ao (.bin .neq (.t 16) (.t 17))] (.cond (.t 18) (q' 4 [ao (.mov (.k (.v false [.c (.i .i64 (-1))])))] .ret) .skip)) (q' 19 [aB 1] (.seq (.seq (G' 21 [aM [0,5],aI 2,aG 1 23,am 1,ac 114 [26],ao (.bin .neq (.t 25) (.t 27))]) (.cond (.t 28) (q' 4 [ao (.mov (.k (.v false [.c (.i .i64 (-1))])))] .ret) .skip)) (g' 29 [aB 1]))))) (g' 10 [aB 5])))))) (q' 31 [am 1,aV 4] .ret))) [.t 4] [(114,[],w7)] ?_;intro hb hE;simp only [go_sem];repeat' first | apply cj' | intro hc | exact om' | fail
 refine lq' false [0] [] [] (fun i:{i:Nat // i<=a.length}=>[(5,slV (.i .i64 i.1)),(1,slV (.i .i64 (k+2 * (i.1:Int))))]) nl' nl' (fun i=>a.length - i.1) (⟨0,by omega⟩) ?_;intro S0 hS0 i;obtain ⟨i,hi⟩:=i;by_cases hil:(i:Int) < a.length
 ·have hx:a.getD i default=a2n (k+2 * (i:Int)):=by rw [hpre.2];exact a6L _ _ (by omega)
  have hw0:IntKind.i64.wrap (k+2 * (i:Int)+1)=k+2 * (i:Int)+1:=w64 (by omega) (by omega) (by omega);have hw1:IntKind.i64.wrap (k+2 * (i:Int)+1+1)=k+2 * (i:Int)+2:=w64 (by omega) (by omega) (by omega);simp only [go_sem,hS0,hil,hx,a2n,hw0,hw1];repeat' first | apply cj' | intro hc | exact om' | fail
  all_goals first
   | (exfalso;simp at hc;done)
   | ((refine lpK_n2 (⟨i+1,by omega⟩) _ rfl ?_;simp only [go_sem,hS0,hil,hx,a2n,hw0,hw1]<;>repeat' first | apply V0 | exact on' | fail);done)
   | trace_state
 ·simp only [go_sem,hS0,hil];repeat' first | apply cj' | intro hc | exact om' | fail
  all_goals (obtain rfl:i=a.length:=by omega)
  all_goals rfl
noncomputable def a4d:CT:=k9 (fun (x:(List d4)×Int) h=>b1I x.1 x.2 h)
@[go_sem] def c5D:=fun a k=>nm' (fP' a4d rfl (a,k))
set_option maxHeartbeats 4000000
def t5 (x:d7):Nat:=9+3 * x.Atom.Args.length
def a3J (x:d7) (k:Int):d7:=d7.mk k (e8.mk (a3M (k+1)) (a1F x.Atom.Args.length (k+2))) ((k+2)+3 * (x.Atom.Args.length:Nat)) (d5.mk (a3M (((k+2)+3 * (x.Atom.Args.length:Nat))+1)) (d4.mk (((k+2)+3 * (x.Atom.Args.length:Nat))+2) (a3M (((k+2)+3 * (x.Atom.Args.length:Nat))+3)))) (d5.mk (a3M (((k+2)+3 * (x.Atom.Args.length:Nat))+4)) (d4.mk (((k+2)+3 * (x.Atom.Args.length:Nat))+5) (a3M (((k+2)+3 * (x.Atom.Args.length:Nat))+6))))
def b5O (a:List d7) (k:Int) (hpre:0<=k/\k+(j5 t5 a:Nat)<=4611686018427387904):A0c Tryz.prog 54 [(false,[d1l a]),(false,[.i .i64 k])] [(0,(false,[d1l (mkL a3J t5 a k)]))] (.one (false,[.i .i64 (k+(j5 t5 a:Nat))])):=by
 refine sx' true false (some 0) Tryz.func54 (q' 4 [aK 0] (.seq (q' 5 [aK 0] (.block 0 (.loop (.seq (q' 6 [aM [5,0],aN,ar 6 8] (.cond (.t 9) .skip (.exit 0))) (.seq (.block 1 (q' 12 [aM [0,5,1],ai 10 12 13,aF 0,aS 1 16 14] (q' 17 [aB 1] (q' 19 [aM [0,5,1],ac 114 [21],ai 10 19 20,aF 1,aF 0,aS 1 25 22] (q' 26 [aB 1] (q' 28 [aM [0,5],aI 10,aF 1,aG 1 31,am 1,ac 113 [33,34],aV 1] (q' 36 [aM [0,5,1],ai 10 36 37,aF 3,aS 1 40 38] (q' 41 [aB 1] (q' 43 [aM [0,5,1],ac 114 [45],ai 10 43 44,aF 4,aF 0,aS 1 49 46] (q' 50 [aB 1] (q' 52 [aM [0,5,1],ai 10 52 53,aF 4,aF 1,aF 0,aS 1 58 54] (q' 59 [aB 1] (q' 61 [aM [0,5,1],ac 114 [63],ai 10 61 62,aF 4,aF 1,aF 1,aS 1 68 64] (q' 69 [aB 1] (q' 71 [aM [0,5,1],ac 114 [73],ai 10 71 72,aF 7,aF 0,aS 1 77 74] (q' 78 [aB 1] (q' 80 [aM [0,5,1],ai 10 80 81,aF 7,aF 1,aF 0,aS 1 86 82] (q' 87 [aB 1] (q' 89 [aM [0,5,1],ac 114 [91],ai 10 89 90,aF 7,aF 1,aF 1,aS 1 96 92] (g' 97 [aB 1])))))))))))))))))))) (g' 10 [aB 5])))))) (q' 99 [am 1,aV 4] .ret))) [.t 4] [(114,[],w7),(113,[0],a2e)] ?_;intro hb hE;simp only [go_sem];repeat' first | apply cj' | intro hc | exact om' | fail
 refine lq' true [0] [] [] (fun i:{p:Nat×List d7 // p.1<=a.length/\p.2=mkL a3J t5 (a.take p.1) k++a.drop p.1}=>[(5,slV (.i .i64 i.1.1)),(1,slV (.i .i64 (k+(j5 t5 (a.take i.1.1):Nat))))]) nl' (fun i=>[(1,c7k,i.1.2.map (d7.cells true true))]) (fun i=>a.length - i.1.1) (⟨(0,a),by simp [mkL]⟩) ?_;intro S0 hS0 i;obtain ⟨⟨i,L⟩,hi,hL⟩:=i;simp only at hi hL;have hl:L.length=a.length:=by rw [hL];exact b6z a3J t5 a k i
 by_cases hil:(i:Int) < L.length
 ·have hgs:∀ x,(L.set i x).getD i default=x:=fun x=>by rw [W7,q1C (by omega)];rfl
  have hss:∀ x y,(L.set i x).set i y=L.set i y:=fun x y=>q3F ..
  have hg2:∀ x,((L.map (d7.cells true true)).set i x).getD i c7k=x:=fun x=>by rw [W7,q1C (by rw [q0E];omega)];rfl
  have hs2:∀ x z,((L.map (d7.cells true true)).set i x).set i z=(L.map (d7.cells true true)).set i z:=fun x z=>q3F ..
  have hg3:∀ y x,(((L.set i y).map (d7.cells true true)).set i x).getD i c7k=x:=fun y x=>by rw [W7,q1C (by rw [q0E,q5W];omega)];rfl
  have hs3:∀ y x z,(((L.set i y).map (d7.cells true true)).set i x).set i z=((L.set i y).map (d7.cells true true)).set i z:=fun y x z=>q3F ..
  have hx:L.getD i default=a.getD i default:=by rw [hL];exact b6y a3J t5 default k (by omega)
  have ht:=j9 t5 default (show i < a.length by omega);have ht2:=s9 t5 a (i+1);simp only [t5] at ht;have hw0:IntKind.i64.wrap ((k+(j5 t5 (a.take i):Nat))+1)=((k+(j5 t5 (a.take i):Nat))+1):=w64 (by omega) (by omega) (by omega);have hw1:IntKind.i64.wrap (((k+(j5 t5 (a.take i):Nat))+1)+1)=((k+(j5 t5 (a.take i):Nat))+2):=w64 (by omega) (by omega) (by omega);have hw2:IntKind.i64.wrap ((((k+(j5 t5 (a.take i):Nat))+2)+3 * ((a.getD i default).Atom.Args.length:Nat))+1)=((((k+(j5 t5 (a.take i):Nat))+2)+3 * ((a.getD i default).Atom.Args.length:Nat))+1):=w64 (by omega) (by omega) (by omega);have hw3:IntKind.i64.wrap (((((k+(j5 t5 (a.take i):Nat))+2)+3 * ((a.getD i default).Atom.Args.length:Nat))+1)+1)=((((k+(j5 t5 (a.take i):Nat))+2)+3 * ((a.getD i default).Atom.Args.length:Nat))+2):=w64 (by omega) (by omega) (by omega);have hw4:IntKind.i64.wrap (((((k+(j5 t5 (a.take i):Nat))+2)+3 * ((a.getD i default).Atom.Args.length:Nat))+2)+1)=((((k+(j5 t5 (a.take i):Nat))+2)+3 * ((a.getD i default).Atom.Args.length:Nat))+3):=w64 (by omega) (by omega) (by omega);have hw5:IntKind.i64.wrap (((((k+(j5 t5 (a.take i):Nat))+2)+3 * ((a.getD i default).Atom.Args.length:Nat))+3)+1)=((((k+(j5 t5 (a.take i):Nat))+2)+3 * ((a.getD i default).Atom.Args.length:Nat))+4):=w64 (by omega) (by omega) (by omega);have hw6:IntKind.i64.wrap (((((k+(j5 t5 (a.take i):Nat))+2)+3 * ((a.getD i default).Atom.Args.length:Nat))+4)+1)=((((k+(j5 t5 (a.take i):Nat))+2)+3 * ((a.getD i default).Atom.Args.length:Nat))+5):=w64 (by omega) (by omega) (by omega);have hw7:IntKind.i64.wrap (((((k+(j5 t5 (a.take i):Nat))+2)+3 * ((a.getD i default).Atom.Args.length:Nat))+5)+1)=((((k+(j5 t5 (a.take i):Nat))+2)+3 * ((a.getD i default).Atom.Args.length:Nat))+6):=w64 (by omega) (by omega) (by omega);have hw8:IntKind.i64.wrap (((((k+(j5 t5 (a.take i):Nat))+2)+3 * ((a.getD i default).Atom.Args.length:Nat))+6)+1)=((((k+(j5 t5 (a.take i):Nat))+2)+3 * ((a.getD i default).Atom.Args.length:Nat))+7):=w64 (by omega) (by omega) (by omega);simp only [go_sem,hS0,hgs,hss,hx,hil,hg2,hs2,hg3,hs3,hw0,hw1,hw2,hw3,hw4,hw5,hw6,hw7,hw8];repeat' first | apply cj' | intro hc | exact om' | fail
  all_goals first
   | omega
   | (exact (hc trivial).elim)
   | ((refine lpK_n2 (⟨(i+1,L.set i (a3J (a.getD i default) (k+(j5 t5 (a.take i):Nat)))),by simp only;omega,by rw [hL];exact b6A a3J t5 default k (by omega)⟩) _ rfl ?_;simp only [go_sem,hS0,hgs,hss,hx,hil,hg2,hs2,hg3,hs3,hw0,hw1,hw2,hw3,hw4,hw5,hw6,hw7,hw8]<;>repeat' first | apply V0 | exact on' | fail);first | done | (simp only [ht];omega))
   | trace_state
 ·simp only [go_sem,hS0,hil];repeat' first | apply cj' | intro hc | exact om' | fail
  have h1:=a0G t5 (show ¬ i < a.length by omega);rw [q0S (by omega),q3R (by omega),q0D] at hL;all_goals first | exact ⟨by rw [h1],by rw [hL]⟩ | trace_state
noncomputable def a6o:CT:=k9 (fun (x:(List d7)×Int) h=>b5O x.1 x.2 h)
@[go_sem] def c8H:=fun a k=>nm' (fP' a6o rfl (a,k))
def b3R (k:Int):d9:=(d9.mk k (a3M (k+1)) (k+2))
def a1E (n:Nat) (k:Int):List d9:=(List.range n).map fun i:Nat=>b3R (k+3 * (i:Int))
def a2w (n:Nat) (k:Int):(a1E n k).length=n:=by simp [a1E]
def b9B (n:Nat) (k:Int) {i:Nat} (h:i < n):(a1E n k).getD i default=b3R (k+3 * (i:Int)):=by
 rw [W7,a1E,q3P,List.getElem?_range h];rfl
def y3 (x:c7):Nat:=2+3 * x.Head.Args.length+j5 t5 x.Body
def a1D (x:c7) (k:Int):c7:=c7.mk k (e8.mk (a3M (k+1)) (a1F x.Head.Args.length (k+2))) (mkL a3J t5 x.Body ((k+2)+3 * (x.Head.Args.length:Nat)))
def t6 (x:d3):Nat:=2 * x.V.length
def a0a (x:d3) (k:Int):d3:=d3.mk (a1b x.V.length k)
def j3 (x:c9):Nat:=2+j5 t6 x.Rel.Rows
def p6 (x:c9) (k:Int):c9:=c9.mk (a3M k) (e7.mk (k+1) (mkL a0a t6 x.Rel.Rows (k+2)))
def b3v (a:List d9) (k:Int) (hpre:0<=k/\k+3 * (a.length:Nat)<=4611686018427387904):A0c Tryz.prog 71 [(false,[b3k a]),(false,[.i .i64 k])] [(0,(false,[b3k (a1E a.length k)]))] (.one (false,[.i .i64 (k+3 * (a.length:Nat))])):=by
 refine sx' true false (some 0) Tryz.func71 (q' 4 [aK 0] (.seq (q' 5 [aK 0] (.block 0 (.loop (.seq (q' 6 [aM [5,0],aN,ar 6 8] (.cond (.t 9) .skip (.exit 0))) (.seq (.block 1 (q' 12 [aM [0,5,1],ai 3 12 13,aF 0,aS 1 16 14] (q' 17 [aB 1] (q' 19 [aM [0,5,1],ac 114 [21],ai 3 19 20,aF 1,aS 1 24 22] (q' 25 [aB 1] (q' 27 [aM [0,5,1],ai 3 27 28,aF 2,aS 1 31 29] (g' 32 [aB 1]))))))) (g' 10 [aB 5])))))) (q' 34 [am 1,aV 4] .ret))) [.t 4] [(114,[],w7)] ?_;intro hb hE;simp only [go_sem];repeat' first | apply cj' | intro hc | exact om' | fail
 refine lq' true [0] [] [] (fun i:{p:Nat×(List d9) // p.1<=a.length/\p.2.length=a.length/\p.2.take p.1=(a1E a.length k).take p.1}=>[(5,slV (.i .i64 i.1.1)),(1,slV (.i .i64 (k+3 * (i.1.1:Int))))]) nl' (fun i=>[(1,a8f,i.1.2.map d9.cells)]) (fun i=>a.length - i.1.1) (⟨(0,a),by simp⟩) ?_;intro S0 hS0 i;obtain ⟨⟨i,L⟩,hi,hl,ht⟩:=i;simp only at hi hl ht;by_cases hil:(i:Int) < L.length
 ·have hgs:∀ x,(L.set i x).getD i default=x:=fun x=>by rw [W7,q1C (by omega)];rfl
  have hss:∀ x y,(L.set i x).set i y=L.set i y:=fun x y=>q3F ..
  have hw0:IntKind.i64.wrap (k+3 * (i:Int)+1)=k+3 * (i:Int)+1:=w64 (by omega) (by omega) (by omega);have hw1:IntKind.i64.wrap (k+3 * (i:Int)+1+1)=k+3 * (i:Int)+2:=w64 (by omega) (by omega) (by omega);have hw2:IntKind.i64.wrap (k+3 * (i:Int)+2+1)=k+3 * (i:Int)+3:=w64 (by omega) (by omega) (by omega);simp only [go_sem,hS0,hgs,hss,hil,hw0,hw1,hw2];repeat' first | apply cj' | intro hc | exact om' | fail
  (refine lpK_n2 (⟨(i+1,L.set i (b3R (k+3 * (i:Int)))),by simp only;omega,by simp [hl],by rw [<- b9B a.length k (show i < a.length by omega)];exact y5 (by rw [hl,a2w]) ht (by rw [a2w];omega)⟩) _ rfl ?_;simp only [go_sem,hS0,hgs,hss,hil,hw0,hw1,hw2]<;>repeat' first | apply V0 | exact on' | fail)
  ·exact (hc trivial).elim
 ·simp only [go_sem,hS0,hil];repeat' first | apply cj' | intro hc | exact om' | fail
  obtain rfl:i=a.length:=by omega
  obtain rfl:=u3 (by rw [hl,a2w]) ht (by rw [a2w];omega);exact ⟨rfl,rfl⟩
noncomputable def a5g:CT:=k9 (fun (x:(List d9)×Int) h=>b3v x.1 x.2 h)
@[go_sem] def c7u:=fun a k=>nm' (fP' a5g rfl (a,k))
def b3w (a:List c7) (k:Int) (hpre:0<=k/\k+(j5 y3 a:Nat)<=4611686018427387904):A0c Tryz.prog 72 [(false,[b3j a]),(false,[.i .i64 k])] [(0,(false,[b3j (mkL a1D y3 a k)]))] (.one (false,[.i .i64 (k+(j5 y3 a:Nat))])):=by
 refine sx' true false (some 0) Tryz.func72 (q' 4 [aK 0] (.seq (q' 5 [aK 0] (.block 0 (.loop (.seq (q' 6 [aM [5,0],aN,ar 6 8] (.cond (.t 9) .skip (.exit 0))) (.seq (.block 1 (q' 12 [aM [0,5,1],ai 4 12 13,aF 0,aS 1 16 14] (q' 17 [aB 1] (q' 19 [aM [0,5,1],ac 114 [21],ai 4 19 20,aF 1,aF 0,aS 1 25 22] (q' 26 [aB 1] (q' 28 [aM [0,5],aI 4,aF 1,aG 1 31,am 1,ac 113 [33,34],aV 1] (g' 36 [aM [0,5],aI 4,aG 3 38,am 1,ac 54 [40,41],aV 1]))))))) (g' 10 [aB 5])))))) (q' 43 [am 1,aV 4] .ret))) [.t 4] [(114,[],w7),(113,[0],a2e),(54,[0],a6o)] ?_;intro hb hE;simp only [go_sem];repeat' first | apply cj' | intro hc | exact om' | fail
 refine lq' true [0] [] [] (fun i:{p:Nat×List c7 // p.1<=a.length/\p.2=mkL a1D y3 (a.take p.1) k++a.drop p.1}=>[(5,slV (.i .i64 i.1.1)),(1,slV (.i .i64 (k+(j5 y3 (a.take i.1.1):Nat))))]) nl' (fun i=>[(1,c0f,i.1.2.map (c7.cells true true))]) (fun i=>a.length - i.1.1) (⟨(0,a),by simp [mkL]⟩) ?_;intro S0 hS0 i;obtain ⟨⟨i,L⟩,hi,hL⟩:=i;simp only at hi hL;have hl:L.length=a.length:=by rw [hL];exact b6z a1D y3 a k i
 by_cases hil:(i:Int) < L.length
 ·have hgs:∀ x,(L.set i x).getD i default=x:=fun x=>by rw [W7,q1C (by omega)];rfl
  have hss:∀ x y,(L.set i x).set i y=L.set i y:=fun x y=>q3F ..
  have hg2:∀ x,((L.map (c7.cells true true)).set i x).getD i c0f=x:=fun x=>by rw [W7,q1C (by rw [q0E];omega)];rfl
  have hs2:∀ x z,((L.map (c7.cells true true)).set i x).set i z=(L.map (c7.cells true true)).set i z:=fun x z=>q3F ..
  have hg3:∀ y x,(((L.set i y).map (c7.cells true true)).set i x).getD i c0f=x:=fun y x=>by rw [W7,q1C (by rw [q0E,q5W];omega)];rfl
  have hs3:∀ y x z,(((L.set i y).map (c7.cells true true)).set i x).set i z=((L.set i y).map (c7.cells true true)).set i z:=fun y x z=>q3F ..
  have hx:L.getD i default=a.getD i default:=by rw [hL];exact b6y a1D y3 default k (by omega)
  have ht:=j9 y3 default (show i < a.length by omega);have ht2:=s9 y3 a (i+1);simp only [y3] at ht;have hw0:IntKind.i64.wrap ((k+(j5 y3 (a.take i):Nat))+1)=((k+(j5 y3 (a.take i):Nat))+1):=w64 (by omega) (by omega) (by omega);have hw1:IntKind.i64.wrap (((k+(j5 y3 (a.take i):Nat))+1)+1)=((k+(j5 y3 (a.take i):Nat))+2):=w64 (by omega) (by omega) (by omega);simp only [go_sem,hS0,hgs,hss,hx,hil,hg2,hs2,hg3,hs3,hw0,hw1];repeat' first | apply cj' | intro hc | exact om' | fail
  all_goals first
   | omega
   | (exact (hc trivial).elim)
   | ((refine lpK_n2 (⟨(i+1,L.set i (a1D (a.getD i default) (k+(j5 y3 (a.take i):Nat)))),by simp only;omega,by rw [hL];exact b6A a1D y3 default k (by omega)⟩) _ rfl ?_;simp only [go_sem,hS0,hgs,hss,hx,hil,hg2,hs2,hg3,hs3,hw0,hw1]<;>repeat' first | apply V0 | exact on' | fail);first | done | (simp only [ht];omega))
   | trace_state
 ·simp only [go_sem,hS0,hil];repeat' first | apply cj' | intro hc | exact om' | fail
  have h1:=a0G y3 (show ¬ i < a.length by omega);rw [q0S (by omega),q3R (by omega),q0D] at hL;all_goals first | exact ⟨by rw [h1],by rw [hL]⟩ | trace_state
noncomputable def a5h:CT:=k9 (fun (x:(List c7)×Int) h=>b3w x.1 x.2 h)
@[go_sem] def c7v:=fun a k=>nm' (fP' a5h rfl (a,k))
def a9W (a:c4) (k:Int) (hpre:0<=k/\((k+3 * (a.Decls.length:Nat))+(j5 y3 a.Rules:Nat))<=4611686018427387904):A0c Tryz.prog 28 [(true,[b3k a.Decls,b3j a.Rules]),(false,[.i .i64 k])] [(0,(true,[b3k ((c4.mk (a1E a.Decls.length k) (mkL a1D y3 a.Rules (k+3 * (a.Decls.length:Nat)))).Decls),b3j ((c4.mk (a1E a.Decls.length k) (mkL a1D y3 a.Rules (k+3 * (a.Decls.length:Nat)))).Rules)]))] (.one (false,[.i .i64 ((k+3 * (a.Decls.length:Nat))+(j5 y3 a.Rules:Nat))])):=by
 refine sx' true false (some 0) Tryz.func28 (q' 2 [ao (.box 2 (.t 0)),az 4 0] (q' 5 [aG 0 2,am 1,ac 71 [6,7],aV 1] (q' 9 [aG 1 2,am 1,ac 72 [10,11],aV 1] (q' 13 [am 1,aV 4] .ret)))) [.t 4] [(71,[0],a5g),(72,[0],a5h)] ?_;intro hb hE;simp only [go_sem];repeat' first | apply cj' | intro hc | exact om' | fail
 all_goals first | omega | trace_state
noncomputable def a3w:CT:=k9 (fun (x:c4×Int) h=>a9W x.1 x.2 h)
@[go_sem] def c4R:=fun x0 x1 k=>nm' (fP' a3w rfl (⟨x0,x1⟩,k))
def b5P (a:List d3) (k:Int) (hpre:0<=k/\k+(j5 t6 a:Nat)<=4611686018427387904):A0c Tryz.prog 56 [(false,[b4u a]),(false,[.i .i64 k])] [(0,(false,[b4u (mkL a0a t6 a k)]))] (.one (false,[.i .i64 (k+(j5 t6 a:Nat))])):=by
 refine sx' true false (some 0) Tryz.func56 (q' 4 [aK 0] (.seq (q' 5 [aK 0] (.block 0 (.loop (.seq (q' 6 [aM [5,0],aN,ar 6 8] (.cond (.t 9) .skip (.exit 0))) (.seq (.block 1 (g' 12 [aM [0,5],aI 1,aG 0 14,am 1,ac 115 [16,17],aV 1])) (g' 10 [aB 5])))))) (q' 19 [am 1,aV 4] .ret))) [.t 4] [(115,[0],a4f)] ?_;intro hb hE;simp only [go_sem];repeat' first | apply cj' | intro hc | exact om' | fail
 refine lq' true [0] [] [] (fun i:{p:Nat×List d3 // p.1<=a.length/\p.2=mkL a0a t6 (a.take p.1) k++a.drop p.1}=>[(5,slV (.i .i64 i.1.1)),(1,slV (.i .i64 (k+(j5 t6 (a.take i.1.1):Nat))))]) nl' (fun i=>[(1,c0e,i.1.2.map (d3.cells true true))]) (fun i=>a.length - i.1.1) (⟨(0,a),by simp [mkL]⟩) ?_;intro S0 hS0 i;obtain ⟨⟨i,L⟩,hi,hL⟩:=i;simp only at hi hL;have hl:L.length=a.length:=by rw [hL];exact b6z a0a t6 a k i
 by_cases hil:(i:Int) < L.length
 ·have hgs:∀ x,(L.set i x).getD i default=x:=fun x=>by rw [W7,q1C (by omega)];rfl
  have hss:∀ x y,(L.set i x).set i y=L.set i y:=fun x y=>q3F ..
  have hg2:∀ x,((L.map (d3.cells true true)).set i x).getD i c0e=x:=fun x=>by rw [W7,q1C (by rw [q0E];omega)];rfl
  have hs2:∀ x z,((L.map (d3.cells true true)).set i x).set i z=(L.map (d3.cells true true)).set i z:=fun x z=>q3F ..
  have hg3:∀ y x,(((L.set i y).map (d3.cells true true)).set i x).getD i c0e=x:=fun y x=>by rw [W7,q1C (by rw [q0E,q5W];omega)];rfl
  have hs3:∀ y x z,(((L.set i y).map (d3.cells true true)).set i x).set i z=((L.set i y).map (d3.cells true true)).set i z:=fun y x z=>q3F ..
  have hx:L.getD i default=a.getD i default:=by rw [hL];exact b6y a0a t6 default k (by omega)
  have ht:=j9 t6 default (show i < a.length by omega);have ht2:=s9 t6 a (i+1);simp only [t6] at ht;simp only [go_sem,hS0,hgs,hss,hx,hil,hg2,hs2,hg3,hs3];repeat' first | apply cj' | intro hc | exact om' | fail
  all_goals first
   | omega
   | (exact (hc trivial).elim)
   | ((refine lpK_n2 (⟨(i+1,L.set i (a0a (a.getD i default) (k+(j5 t6 (a.take i):Nat)))),by simp only;omega,by rw [hL];exact b6A a0a t6 default k (by omega)⟩) _ rfl ?_;simp only [go_sem,hS0,hgs,hss,hx,hil,hg2,hs2,hg3,hs3]<;>repeat' first | apply V0 | exact on' | fail);first | done | (simp only [ht];omega))
   | trace_state
 ·simp only [go_sem,hS0,hil];repeat' first | apply cj' | intro hc | exact om' | fail
  have h1:=a0G t6 (show ¬ i < a.length by omega);rw [q0S (by omega),q3R (by omega),q0D] at hL;all_goals first | exact ⟨by rw [h1],by rw [hL]⟩ | trace_state
noncomputable def a6p:CT:=k9 (fun (x:(List d3)×Int) h=>b5P x.1 x.2 h)
@[go_sem] def c8I:=fun a k=>nm' (fP' a6p rfl (a,k))
def b1J (a:List c9) (k:Int) (hpre:0<=k/\k+(j5 j3 a:Nat)<=4611686018427387904):A0c Tryz.prog 55 [(false,[a3g a]),(false,[.i .i64 k])] [(0,(false,[a3g (mkL p6 j3 a k)]))] (.one (false,[.i .i64 (k+(j5 j3 a:Nat))])):=by
 refine sx' true false (some 0) Tryz.func55 (q' 4 [aK 0] (.seq (q' 5 [aK 0] (.block 0 (.loop (.seq (q' 6 [aM [5,0],aN,ar 6 8] (.cond (.t 9) .skip (.exit 0))) (.seq (.block 1 (q' 12 [aM [0,5,1],ac 114 [14],ai 3 12 13,aF 0,aS 1 17 15] (q' 18 [aB 1] (q' 20 [aM [0,5,1],ai 3 20 21,aF 1,aF 0,aS 1 25 22] (q' 26 [aB 1] (g' 28 [aM [0,5],aI 3,aF 1,aG 1 31,am 1,ac 56 [33,34],aV 1])))))) (g' 10 [aB 5])))))) (q' 36 [am 1,aV 4] .ret))) [.t 4] [(114,[],w7),(56,[0],a6p)] ?_;intro hb hE;simp only [go_sem];repeat' first | apply cj' | intro hc | exact om' | fail
 refine lq' true [0] [] [] (fun i:{p:Nat×List c9 // p.1<=a.length/\p.2=mkL p6 j3 (a.take p.1) k++a.drop p.1}=>[(5,slV (.i .i64 i.1.1)),(1,slV (.i .i64 (k+(j5 j3 (a.take i.1.1):Nat))))]) nl' (fun i=>[(1,a8C,i.1.2.map (c9.cells true true))]) (fun i=>a.length - i.1.1) (⟨(0,a),by simp [mkL]⟩) ?_;intro S0 hS0 i;obtain ⟨⟨i,L⟩,hi,hL⟩:=i;simp only at hi hL;have hl:L.length=a.length:=by rw [hL];exact b6z p6 j3 a k i
 by_cases hil:(i:Int) < L.length
 ·have hgs:∀ x,(L.set i x).getD i default=x:=fun x=>by rw [W7,q1C (by omega)];rfl
  have hss:∀ x y,(L.set i x).set i y=L.set i y:=fun x y=>q3F ..
  have hg2:∀ x,((L.map (c9.cells true true)).set i x).getD i a8C=x:=fun x=>by rw [W7,q1C (by rw [q0E];omega)];rfl
  have hs2:∀ x z,((L.map (c9.cells true true)).set i x).set i z=(L.map (c9.cells true true)).set i z:=fun x z=>q3F ..
  have hg3:∀ y x,(((L.set i y).map (c9.cells true true)).set i x).getD i a8C=x:=fun y x=>by rw [W7,q1C (by rw [q0E,q5W];omega)];rfl
  have hs3:∀ y x z,(((L.set i y).map (c9.cells true true)).set i x).set i z=((L.set i y).map (c9.cells true true)).set i z:=fun y x z=>q3F ..
  have hx:L.getD i default=a.getD i default:=by rw [hL];exact b6y p6 j3 default k (by omega)
  have ht:=j9 j3 default (show i < a.length by omega);have ht2:=s9 j3 a (i+1);simp only [j3] at ht;have hw0:IntKind.i64.wrap ((k+(j5 j3 (a.take i):Nat))+1)=((k+(j5 j3 (a.take i):Nat))+1):=w64 (by omega) (by omega) (by omega);have hw1:IntKind.i64.wrap (((k+(j5 j3 (a.take i):Nat))+1)+1)=((k+(j5 j3 (a.take i):Nat))+2):=w64 (by omega) (by omega) (by omega);simp only [go_sem,hS0,hgs,hss,hx,hil,hg2,hs2,hg3,hs3,hw0,hw1];repeat' first | apply cj' | intro hc | exact om' | fail
  all_goals first
   | omega
   | (exact (hc trivial).elim)
   | ((refine lpK_n2 (⟨(i+1,L.set i (p6 (a.getD i default) (k+(j5 j3 (a.take i):Nat)))),by simp only;omega,by rw [hL];exact b6A p6 j3 default k (by omega)⟩) _ rfl ?_;simp only [go_sem,hS0,hgs,hss,hx,hil,hg2,hs2,hg3,hs3,hw0,hw1]<;>repeat' first | apply V0 | exact on' | fail);first | done | (simp only [ht];omega))
   | trace_state
 ·simp only [go_sem,hS0,hil];repeat' first | apply cj' | intro hc | exact om' | fail
  have h1:=a0G j3 (show ¬ i < a.length by omega);rw [q0S (by omega),q3R (by omega),q0D] at hL;all_goals first | exact ⟨by rw [h1],by rw [hL]⟩ | trace_state
noncomputable def a4e:CT:=k9 (fun (x:(List c9)×Int) h=>b1J x.1 x.2 h)
@[go_sem] def c5E:=fun a k=>nm' (fP' a4e rfl (a,k))
def b3x (a:c8) (k:Int) (hpre:0<=k/\(k+(j5 j3 a.Rels:Nat))<=4611686018427387904):A0c Tryz.prog 18 [(true,[a3g a.Rels]),(false,[.i .i64 k])] [(0,(true,[a3g ((c8.mk (mkL p6 j3 a.Rels k)).Rels)]))] (.one (false,[.i .i64 (k+(j5 j3 a.Rels:Nat))])):=by
 refine sx' true false (some 0) Tryz.func18 (q' 2 [ao (.box 1 (.t 0)),az 4 0] (q' 5 [aG 0 2,am 1,ac 55 [6,7],aV 1] (q' 9 [am 1,aV 4] .ret))) [.t 4] [(55,[0],a4e)] ?_;intro hb hE;simp only [go_sem];repeat' first | apply cj' | intro hc | exact om' | fail
 all_goals first | omega | trace_state
noncomputable def a5i:CT:=k9 (fun (x:c8×Int) h=>b3x x.1 x.2 h)
@[go_sem] def c7w:=fun x0 k=>nm' (fP' a5i rfl (⟨x0⟩,k))
def d3m (x:d7):t5 x<=12+12 * a1f x:=by simp only [t5,a1f,a4n];omega
def c9m (l:List c7):j5 y3 l<=12 * (l.length+j5 a0u l):=b2b y3 a0u 12 (fun x=>by
 have:=b2b t5 a1f 12 d3m x.Body;simp only [y3,a0u,a4n];omega) l
def d3n (l:List d3):j5 t6 l<=2 * (l.length+j5 a1g l):=b2b t6 a1g 2 (fun x=>by simp only [t6,a1g];omega) l
def c5N (l:List c9):j5 j3 l<=2 * (l.length+j5 a0d l):=b2b j3 a0d 2 (fun x=>by
 have:=d3n x.Rel.Rows;simp only [j3,a0d,b3W];omega) l
def b5N (a:List d3) (k:Int) (hpre:(0<=k/\k+(j5 t6 a:Nat)<=4611686018427387904)/\a=mkL a0a t6 a k):A0c Tryz.prog 57 [(false,[w4 a]),(false,[.i .i64 k])] [] (.one (false,[.i .i64 (k+(j5 t6 a:Nat))])):=by
 refine sx' false false none Tryz.func57 (q' 4 [aK 0] (.seq (q' 5 [aK 0] (.block 0 (.loop (.seq (q' 6 [aM [5,0],aN,ar 6 8] (.cond (.t 9) .skip (.exit 0))) (.seq (.block 1 (q' 12 [aM [0,5],aI 1,aG 0 14,am 1,ac 116 [16,17],aV 1] (q' 19 [am 1,ao (.bin .lss (.t 19) (k' 0))] (.cond (.t 20) (q' 4 [ao (.mov (.k (.v false [.c (.i .i64 (-1))])))] .ret) .skip)))) (g' 10 [aB 5])))))) (q' 21 [am 1,aV 4] .ret))) [.t 4] [(116,[],a4d)] ?_;intro hb hE;simp only [go_sem];repeat' first | apply cj' | intro hc | exact om' | fail
 refine lq' false [0] [] [] (fun i:{i:Nat // i<=a.length}=>[(5,slV (.i .i64 i.1)),(1,slV (.i .i64 (k+(j5 t6 (a.take i.1):Nat))))]) nl' nl' (fun i=>a.length - i.1) (⟨0,by omega⟩) ?_;intro S0 hS0 i;obtain ⟨i,hi⟩:=i;by_cases hil:(i:Int) < a.length
 ·have hx:a.getD i default=a0a (a.getD i default) (k+(j5 t6 (a.take i):Nat)):=by
   have h1:=c6M a0a t6 default a k (show i < a.length by omega);rw [<- hpre.2] at h1;exact h1
  have ht:=j9 t6 default (show i < a.length by omega);have ht2:=s9 t6 a (i+1);simp only [t6] at ht;have hq0:=congrArg (fun z:d3=>z.V) hx;simp only [go_sem,hS0,hil];repeat' first | apply cj' | intro hc | exact om' | fail
  all_goals first
   | omega
   | (exfalso;simp at hc;done)
   | (exfalso;omega)
   | exact ⟨by omega,hq0⟩
   | ((refine lpK_n2 (⟨i+1,by omega⟩) _ rfl ?_;simp only [go_sem,hS0,hil]<;>repeat' first | apply V0 | exact on' | fail);first | done | (simp only [ht];omega))
   | trace_state
 ·simp only [go_sem,hS0,hil];repeat' first | apply cj' | intro hc | exact om' | fail
  have h1:=a0G t6 (show ¬ i < a.length by omega);all_goals first | rw [h1] | trace_state
noncomputable def a6n:CT:=k9 (fun (x:(List d3)×Int) h=>b5N x.1 x.2 h)
@[go_sem] def c8G:=fun a k=>nm' (fP' a6n rfl (a,k))
def b1H (a:List c9) (k:Int) (hpre:(0<=k/\k+(j5 j3 a:Nat)<=4611686018427387904)/\a=mkL p6 j3 a k):A0c Tryz.prog 73 [(false,[i5 a]),(false,[.i .i64 k])] [] (.one (false,[.i .i64 (k+(j5 j3 a:Nat))])):=by
 refine sx' false false none Tryz.func73 (q' 4 [aK 0] (.seq (q' 5 [aK 0] (.block 0 (.loop (.seq (q' 6 [aM [5,0],aN,ar 6 8] (.cond (.t 9) .skip (.exit 0))) (.seq (.block 1 (.seq (.seq (G' 12 [aM [0,5],aI 3,aG 0 14,am 1,ac 114 [17],ao (.bin .neq (.t 16) (.t 18))]) (.cond (.t 19) (q' 4 [ao (.mov (.k (.v false [.c (.i .i64 (-1))])))] .ret) .skip)) (q' 20 [aB 1] (.seq (q' 22 [aM [0,5],aI 3,aF 1,aG 0 25,am 1,ao (.bin .neq (.t 27) (.t 28))] (.cond (.t 29) (q' 4 [ao (.mov (.k (.v false [.c (.i .i64 (-1))])))] .ret) .skip)) (q' 30 [aB 1] (q' 32 [aM [0,5],aI 3,aF 1,aG 1 35,am 1,ac 57 [37,38],aV 1] (q' 40 [am 1,ao (.bin .lss (.t 40) (k' 0))] (.cond (.t 41) (q' 4 [ao (.mov (.k (.v false [.c (.i .i64 (-1))])))] .ret) .skip)))))))) (g' 10 [aB 5])))))) (q' 42 [am 1,aV 4] .ret))) [.t 4] [(114,[],w7),(57,[],a6n)] ?_;intro hb hE;simp only [go_sem];repeat' first | apply cj' | intro hc | exact om' | fail
 refine lq' false [0] [] [] (fun i:{i:Nat // i<=a.length}=>[(5,slV (.i .i64 i.1)),(1,slV (.i .i64 (k+(j5 j3 (a.take i.1):Nat))))]) nl' nl' (fun i=>a.length - i.1) (⟨0,by omega⟩) ?_;intro S0 hS0 i;obtain ⟨i,hi⟩:=i;by_cases hil:(i:Int) < a.length
 ·have hx:a.getD i default=p6 (a.getD i default) (k+(j5 j3 (a.take i):Nat)):=by
   have h1:=c6M p6 j3 default a k (show i < a.length by omega);rw [<- hpre.2] at h1;exact h1
  have ht:=j9 j3 default (show i < a.length by omega);have ht2:=s9 j3 a (i+1);simp only [j3] at ht;have hw0:IntKind.i64.wrap ((k+(j5 j3 (a.take i):Nat))+1)=((k+(j5 j3 (a.take i):Nat))+1):=w64 (by omega) (by omega) (by omega);have hw1:IntKind.i64.wrap (((k+(j5 j3 (a.take i):Nat))+1)+1)=((k+(j5 j3 (a.take i):Nat))+2):=w64 (by omega) (by omega) (by omega);have hp0:(a.getD i default).Name=(a3M (k+(j5 j3 (a.take i):Nat))):=congrArg (fun z:c9=>z.Name) hx;have hp1:(a.getD i default).Rel.Arity=((k+(j5 j3 (a.take i):Nat))+1):=congrArg (fun z:c9=>z.Rel.Arity) hx;have hq2:=congrArg (fun z:c9=>z.Rel.Rows) hx;simp only [go_sem,hS0,hil,hw0,hw1,hp0,hp1];repeat' first | apply cj' | intro hc | exact om' | fail
  all_goals first
   | omega
   | (exfalso;simp at hc;done)
   | (exfalso;omega)
   | exact ⟨by omega,hq2⟩
   | ((refine lpK_n2 (⟨i+1,by omega⟩) _ rfl ?_;simp only [go_sem,hS0,hil,hw0,hw1,hp0,hp1]<;>repeat' first | apply V0 | exact on' | fail);first | done | (simp only [ht];omega))
   | trace_state
 ·simp only [go_sem,hS0,hil];repeat' first | apply cj' | intro hc | exact om' | fail
  have h1:=a0G j3 (show ¬ i < a.length by omega);all_goals first | rw [h1] | trace_state
noncomputable def a4c:CT:=k9 (fun (x:(List c9)×Int) h=>b1H x.1 x.2 h)
@[go_sem] def c5C:=fun a k=>nm' (fP' a4c rfl (a,k))
def b3u (a:c8) (k:Int) (hpre:(0<=k/\(k+(j5 j3 a.Rels:Nat))<=4611686018427387904)/\a=(c8.mk (mkL p6 j3 a.Rels k))):A0c Tryz.prog 29 [(true,[i5 a.Rels]),(false,[.i .i64 k])] [] (.one (false,[.i .i64 (k+(j5 j3 a.Rels:Nat))])):=by
 refine sx' false false none Tryz.func29 (q' 2 [ao (.box 1 (.t 0)),az 4 0] (q' 5 [aG 0 2,am 1,ac 73 [6,7],aV 1] (.seq (q' 9 [am 1,ao (.bin .lss (.t 9) (k' 0))] (.cond (.t 10) (q' 4 [ao (.mov (.k (.v false [.c (.i .i64 (-1))])))] .ret) .skip)) (q' 11 [am 1,aV 4] .ret)))) [.t 4] [(73,[],a4c)] ?_;intro hb hE;simp only [go_sem];repeat' first | apply cj' | intro hc | exact om' | fail
 all_goals first | exact hpre | (simp only at *;omega) | (exfalso;omega) | (refine ⟨by omega, ?_⟩;have h1:=hpre.2;first | exact congrArg c8.Rels h1 | (cases a;simp_all)) | trace_state
noncomputable def a5f:CT:=k9 (fun (x:c8×Int) h=>b3u x.1 x.2 h)
@[go_sem] def c7t:=fun x0 k=>nm' (fP' a5f rfl (⟨x0⟩,k))
def b4o (x:d3) (k:Int):t6 (a0a x k)=t6 x:=by simp only [t6,a0a,a0E]
def c4w (x:d3) (k j:Int):a0a (a0a x k) j=a0a x j:=by simp only [a0a,a0E]
def a4N (x:c9) (k:Int):j3 (p6 x k)=j3 x:=by simp only [j3,p6,b1U a0a t6 b4o]
def b9D (x:c9) (k j:Int):p6 (p6 x k) j=p6 x j:=by simp only [p6,b9E a0a t6 b4o c4w]
def b7Z:∀ {l:List d3},(∀ x∈l,x.V.length < 1000)->j5 t6 l<=2000 * l.length
 | [],_=>q0C _
 | x::l,h=>by
   have h1:=h x q2K;have h2:=b7Z fun e he=>h e (q1U _ he)
   simp only [j5,t6,V8] at *;omega
def b1n:∀ {l:List c9},(∀ x∈l,j5 t6 x.Rel.Rows<=600000)->j5 j3 l<=600002 * l.length
 | [],_=>q0C _
 | x::l,h=>by
   have h1:=h x q2K;have h2:=b1n fun e he=>h e (q1U _ he)
   simp only [j5,j3,V8] at *;omega
def c5O {s:c8} (h:j4 s=true):j5 j3 s.Rels<=15000000:=by
 have h1:=a1e h;have h2:=b1n (l:=s.Rels) fun x hx=>by
  have h3:=a2H (a1G h x hx);have h4:=b7Z fun y hy=>(h3.2 y hy).2
  omega
 omega
set_option maxHeartbeats 40000000
attribute [local irreducible] RM
def a2W (p:c4) (s:c8):A0c Tryz.prog 6 [(true,[l4 p.Decls,l3 p.Rules]),(true,[i5 s.Rels])] [] (.one (false,[.b true])):=by
 refine sx' true false none Tryz.func6 (q' 2 [ao (.box 2 (.t 0)),ao (.box 1 (.t 1)),ao (.mov (bb false))] (q' 5 [aK 1048576] (q' 17 [ae 2 2,am 5,ac 21 [17,18],aV 5] (.seq (q' 20 [am 5,ao (.bin .lss (.t 20) (k' 0))] (.cond (.t 21) (q' 0 [ab 4 true] .ret) .skip)) (q' 22 [ae 1 3,am 5,ac 9 [22,23],aV 5] (.seq (q' 25 [am 5,ao (.bin .lss (.t 25) (k' 0))] (.cond (.t 26) (q' 0 [ab 4 true] .ret) .skip)) (.seq (rm' [(true,0,e' 28 2 2),(true,2,e' 30 1 3),(false,1,c' 29 23 [28]),(false,3,c' 31 12 [30]), (false,4,c' 32 30 [29,31]),(false,5,m' 27 32),(false,6,o' 33 (.ext (.t 27) 0)),(false,7,o' 34 (.ext (.t 27) 1)),(false,8,w' 6 [.sl i6]),(false,9,s' 1 6 33),(false,10,m' 7 34)] [[0,1,2,3,4,5,6,8,7,9,10],[0,1,2,3,4, 5,6,8,9,7,10],[0,1,2,3,4,5,7,6,8,9,10],[0,1,2,3,4,5,7,8,6,9,10],[0,1,2,3,4,5,8,6,7,9,10],[0,1,2,3,4,5,8,6,9,7, 10],[0,1,2,3,4,5,8,7,6,9,10],[0,1,2,3,4,8,5,6,7,9,10],[0,1,2,3,4,8,5,6,9,7,10],[0,1,2,3,4,8,5,7,6,9,10],[0,1,2, 3,8,4,5,6,7,9,10],[0,1,2,3,8,4,5,6,9,7,10],[0,1,2,3,8,4,5,7,6,9,10],[0,1,2,8,3,4,5,6,7,9,10],[0,1,2,8,3,4,5,6, 9,7,10],[0,1,2,8,3,4,5,7,6,9,10],[0,1,8,2,3,4,5,6,7,9,10],[0,1,8,2,3,4,5,6,9,7,10],[0,1,8,2,3,4,5,7,6,9,10]] [4, 5,6,7]) (q' 35 [ae 2 2,ac 23 [35],ax (w' 8 [.sl a8f,.sl c0d]),aS 2 8 36] (q' 37 [ae 1 3,ac 12 [37],ax (w' 9 [.sl i6]),aS 1 9 38] (q' 40 [ae 2 8,ae 1 9,ac 31 [40,41],aV 39,ao (.ext (.t 39) 0),ao (.ext (.t 39) 1),ax (w' 10 [.sl i6]),aS 1 10 43,aV 11] (.seq (q' 45 [ae 1 10,ae 1 6,ac 16 [45,46],ao (.not (.t 47)),am 48,au (.mov (.t 11)) 49 false,au (.mov (.t 7)) 49 false,au (.bin .neq (.t 50) (.t 51)) 49 false,ao (.pick (.t 49) (bb true) (.t 52))] (.cond (.t 53) (q' 0 [ab 4 false] .ret) .skip)) (.seq (.seq (G' 54 [ae 2 8,ae 2 2,ac 23 [55],ac 25 [54,56],ao (.not (.t 57))]) (.cond (.t 58) (q' 0 [ab 4 false] .ret) .skip)) (.seq (.seq (G' 59 [ae 1 9,ae 1 3,ac 12 [60],ac 16 [59,61],ao (.not (.t 62))]) (.cond (.t 63) (q' 0 [ab 4 false] .ret) .skip)) (q' 12 [aK 1] (q' 64 [ae 2 8,am 12,ac 28 [64,65],aV 12] (q' 67 [ae 1 9,am 12,ac 18 [67,68],aV 12] (.seq (q' 70 [am 12,ao (.bin .lss (.t 70) (k' 0)),am 71,au (.ld true 1 (.t 10)) 72 false,au (.ld true 1 (.t 6)) 72 false,au (.call 16 [.t 73,.t 74]) 72 false,au (.not (.t 75)) 72 false,ao (.pick (.t 72) (bb true) (.t 76)),am 77,au (.mov (.t 11)) 78 false,au (.mov (.t 7)) 78 false,au (.bin .neq (.t 79) (.t 80)) 78 false,ao (.pick (.t 78) (bb true) (.t 81))] (.cond (.t 82) (q' 0 [ab 4 false] .ret) .skip)) (q' 13 [aK 1] (q' 83 [ae 1 10,am 13,ac 18 [83,84],aV 13] (q' 14 [aK 1] (q' 86 [ae 1 10,am 14,ac 29 [86,87],aV 14] (.seq (q' 89 [am 14,ao (.bin .lss (.t 89) (k' 0))] (.cond (.t 90) (q' 0 [ab 4 false] .ret) .skip)) (.seq (q' 91 [aM [14,13],ao (.bin .neq (.t 91) (.t 92))] (.cond (.t 93) (q' 0 [ab 4 false] .ret) .skip)) (.seq (rm' [(true,0,e' 95 2 2),(true,2,e' 97 1 3),(false,1,c' 96 23 [95]),(false,3,c' 98 12 [97]),(false,4, c' 99 31 [96,98]),(false,5,m' 94 99),(false,6,o' 100 (.ext (.t 94) 0)),(false,7,o' 101 (.ext (.t 94) 1)),(false,8,w' 15 [.sl i6]),(false,9,s' 1 15 100),(false,10,m' 16 101)] [[0,1,2,3,4,5,6,8,7,9,10],[0,1,2,3,4,5,6, 8,9,7,10],[0,1,2,3,4,5,7,6,8,9,10],[0,1,2,3,4,5,7,8,6,9,10],[0,1,2,3,4,5,8,6,7,9,10],[0,1,2,3,4,5,8,6,9,7,10], [0,1,2,3,4,5,8,7,6,9,10],[0,1,2,3,4,8,5,6,7,9,10],[0,1,2,3,4,8,5,6,9,7,10],[0,1,2,3,4,8,5,7,6,9,10],[0,1,2,3, 8,4,5,6,7,9,10],[0,1,2,3,8,4,5,6,9,7,10],[0,1,2,3,8,4,5,7,6,9,10],[0,1,2,8,3,4,5,6,7,9,10],[0,1,2,8,3,4,5,6,9, 7,10],[0,1,2,8,3,4,5,7,6,9,10],[0,1,8,2,3,4,5,6,7,9,10],[0,1,8,2,3,4,5,6,9,7,10],[0,1,8,2,3,4,5,7,6,9,10]] [4,5, 6,7]) (.seq (q' 102 [ae 1 15,ae 1 6,ac 16 [102,103],ao (.not (.t 104)),am 105,au (.mov (.t 16)) 106 false,au (.mov (.t 7)) 106 false,au (.bin .neq (.t 107) (.t 108)) 106 false,ao (.pick (.t 106) (bb true) (.t 109))] (.cond (.t 110) (q' 0 [ab 4 false] .ret) .skip)) (q' 14 [aK 1] (q' 111 [ae 1 10,am 14,ac 29 [111,112],aV 14] (.seq (q' 114 [am 14,ao (.bin .lss (.t 114) (k' 0))] (.cond (.t 115) (q' 0 [ab 4 false] .ret) .skip)) (.seq (q' 116 [aM [14,13],ao (.bin .neq (.t 116) (.t 117))] (.cond (.t 118) (q' 0 [ab 4 false] .ret) .skip)) (q' 0 [ab 4 true] .ret)))))))))))))))))))))))))))))) [.t 4] [(21,[],a5j),(9,[],a7G),(23,[],a5k),(12,[],a7L),(30,[],b1j),(31,[],b0P),(16,[],a7B),(25,[],a5e),(28,[0],a3w),(18,[0],a5i),(29,[],a5f)] ?_;intro hb hE;simp only [go_sem];(repeat' first | apply cj' | intro hc | apply a0B);(all_goals (try ((first | refine c5d (i4 0 7 (W5 rfl) rfl ?_ (i4 0 8 (W5 rfl) rfl ?_ (i4 2 6 (W5 rfl) rfl ?_ (i4 0 7 (W5 rfl) rfl ?_ (i4 3 6 (W5 rfl) rfl ?_ (i4 0 8 (W5 rfl) rfl ?_ (i4 1 7 (W5 rfl) rfl ?_ (i4 2 5 (W5 rfl) rfl ?_ (i4 0 8 (W5 rfl) rfl ?_ (i4 1 7 (W5 rfl) rfl ?_ (i4 2 4 (W5 rfl) rfl ?_ (i4 0 8 (W5 rfl) rfl ?_ (i4 1 7 (W5 rfl) rfl ?_ (i4 2 3 (W5 rfl) rfl ?_ (i4 0 8 (W5 rfl) rfl ?_ (i4 1 7 (W5 rfl) rfl ?_ (i4 2 2 (W5 rfl) rfl ?_ (i4 0 8 (W5 rfl) rfl ?_ (i4 1 7 (W5 rfl) rfl ?_ b6J))))))))))))))))))) | refine c5d (i4 0 7 (W5 rfl) rfl ?_ (i4 0 8 (W5 rfl) rfl ?_ (i4 2 6 (W5 rfl) rfl ?_ (i4 0 7 (W5 rfl) rfl ?_ (i4 3 6 (W5 rfl) rfl ?_ (i4 0 8 (W5 rfl) rfl ?_ (i4 1 7 (W5 rfl) rfl ?_ (i4 2 5 (W5 rfl) rfl ?_ (i4 0 8 (W5 rfl) rfl ?_ (i4 1 7 (W5 rfl) rfl ?_ (i4 2 4 (W5 rfl) rfl ?_ (i4 0 8 (W5 rfl) rfl ?_ (i4 1 7 (W5 rfl) rfl ?_ (i4 2 3 (W5 rfl) rfl ?_ (i4 0 8 (W5 rfl) rfl ?_ (i4 1 7 (W5 rfl) rfl ?_ (i4 2 2 (W5 rfl) rfl ?_ (i4 0 8 (W5 rfl) rfl ?_ (i4 1 7 (W5 rfl) rfl ?_ b6J))))))))))))))))))))<;>(intro S hS B0 hB;simp only [go_sem,q1G,q1X,q0G,q1B,q0I,q0T,q1I,q1K] at hS hB;(repeat (first | replace hS:=And.right hS | replace hS:=CJ.r hS));have Rr28:=congrArg (fun s:St=>s.sl 28) hS;have Rr30:=congrArg (fun s:St=>s.sl 30) hS;have Rr29:=congrArg (fun s:St=>s.sl 29) hS;have Rr31:=congrArg (fun s:St=>s.sl 31) hS;have Rr32:=congrArg (fun s:St=>s.sl 32) hS;have Rr27:=congrArg (fun s:St=>s.sl 27) hS;have Rr33:=congrArg (fun s:St=>s.sl 33) hS;have Rr34:=congrArg (fun s:St=>s.sl 34) hS;have Rr6:=congrArg (fun s:St=>s.sl 6) hS;have Rr95:=congrArg (fun s:St=>s.sl 95) hS;have Rr97:=congrArg (fun s:St=>s.sl 97) hS;have Rr96:=congrArg (fun s:St=>s.sl 96) hS;have Rr98:=congrArg (fun s:St=>s.sl 98) hS;have Rr99:=congrArg (fun s:St=>s.sl 99) hS;have Rr94:=congrArg (fun s:St=>s.sl 94) hS;have Rr100:=congrArg (fun s:St=>s.sl 100) hS;have Rr101:=congrArg (fun s:St=>s.sl 101) hS;have Rr15:=congrArg (fun s:St=>s.sl 15) hS;have Rb4:=congrArg (fun s:St=>s.bx 4) hS;have Rb5:=congrArg (fun s:St=>s.bx 5) hS;have Rb6:=congrArg (fun s:St=>s.bx 6) hS;have Rb7:=congrArg (fun s:St=>s.bx 7) hS;have Rb12:=congrArg (fun s:St=>s.bx 12) hS;have Rb30:=congrArg (fun s:St=>s.bx 30) hS;have Ro3712:=congrArg (fun s:St=>s.ow 3712) hS;have Ro3714:=congrArg (fun s:St=>s.ow 3714) hS;have Ro3968:=congrArg (fun s:St=>s.ow 3968) hS;have Ro12288:=congrArg (fun s:St=>s.ow 12288) hS;have Ro12290:=congrArg (fun s:St=>s.ow 12290) hS;have Ro12544:=congrArg (fun s:St=>s.ow 12544) hS;have Ro12672:=congrArg (fun s:St=>s.ow 12672) hS;clear hS;simp only [go_sem] at Rr28 Rr30 Rr29 Rr31 Rr32 Rr27 Rr33 Rr34 Rr6 Rr95 Rr97 Rr96 Rr98 Rr99 Rr94 Rr100 Rr101 Rr15 Rb4 Rb5 Rb6 Rb7 Rb12 Rb30 Ro3712 Ro3714 Ro3968 Ro12288 Ro12290 Ro12544 Ro12672;(try clear hc);intro K hc;simp only [go_sem,Rr28,Rr30,Rr29,Rr31,Rr32,Rr27,Rr33,Rr34,Rr6,Rr95,Rr97,Rr96,Rr98,Rr99,Rr94,Rr100,Rr101,Rr15,Rb4,Rb5,Rb6,Rb7,Rb12,Rb30,Ro3712,Ro3714,Ro3968,Ro12288,Ro12290,Ro12544,Ro12672,hB,q1G,q1X,q0G,q1B,q0I,q0T,q1I,q1K] at hc ⊢;simp only [go_sem,Rr28,Rr30,Rr29,Rr31,Rr32,Rr27,Rr33,Rr34,Rr6,Rr95,Rr97,Rr96,Rr98,Rr99,Rr94,Rr100,Rr101,Rr15,Rb4,Rb5,Rb6,Rb7,Rb12,Rb30,Ro3712,Ro3714,Ro3968,Ro12288,Ro12290,Ro12544,Ro12672,hB,A7d,A7h,A6v,A6u,A7c,A6t,nf_put_sub,A7f,A7e,nf_put_susK,nf_put_dip,nf_put_put,A7g,A7b,A6w,n9,n7,m9,n0,n8,nf_sub_sub] at hc ⊢;simp only [hc,q2E,q0W];done))));all_goals try exact om'
 all_goals have h6:=c5O (d6O p s)
 all_goals have h7:=c9m p.Rules
 all_goals have h8:=c5N s.Rels
 all_goals (try rw [b1U p6 j3 a4N] at hc)
 all_goals (try rw [b1U p6 j3 a4N])
 all_goals (try rw [b9E p6 j3 a4N b9D])
 all_goals first
  | exact (hc trivial).elim
  | exact ⟨by omega,rfl⟩
  | (exfalso;simp at hc;done)
  | (exfalso;rcases hc with h | h;· omega
     exact h trivial)
  | (exfalso;rcases hc with (h | h) | h;· omega
     ·exact h trivial
     ·simp at h)
  | (exfalso;simp at hc;omega)
  | (simp only [szR,a2q,a5I] at *;omega)
  | (simp only [szR,a2q,a5I] at *;refine ⟨by omega,rfl⟩)
  | trace_state
noncomputable def a8H:CT:=i9 (fun (x:c4×c8)=>a2W x.1 x.2)
@[go_sem] def c3r:=fun x0 x1 x2=>nm' (fQ' a8H rfl (⟨x0,x1⟩,⟨x2⟩))
end Go.Aw
