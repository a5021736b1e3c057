/- Programs: sizes, copies, equalities. No condition. -/
import Derived.Test.YtdfnhhecaaaoaaaGreatybB2
namespace Go.Aw
open Go.Proofs
attribute [local irreducible] aft blk lpK retK AW Z9
set_option linter.all false
set_option maxRecDepth 100000
def a5w (x:f5):Nat:=x.Name.length+(x.Args.length+n0 a0e x.Args)
def a0P (x:d5):Nat:=a5w x.Atom+a0e x.A+a0e x.B
def y5 (x:c6):Nat:=a5w x.Head+(x.Body.length+n0 a0P x.Body)
def a0O (x:d7):Nat:=x.Name.length
def a3A (x:c4):Nat:=(x.Decls.length+n0 a0O x.Decls)+(x.Rules.length+n0 y5 x.Rules)
@[go_sem] def b2u:ACode:=q' 2 [ao (.box 2 (.t 0)),az 4 0] (q' 5 [am 1,aG 0 2,ao (.lens (.t 7)),ao (.bin .sub (.t 5) (.t 8)),aV 1] (.seq (q' 10 [am 1,ao (.bin .lss (.t 10) (k' 0))]
 (.cond (.t 11) (q' 4 [ao (.mov (.k (.v false [.c (.i .i64 (-1))])))] .ret) .skip)) (q' 12 [aG 1 2,am 1,ac 142 [13,14],aV 1] (.seq (q' 16 [am 1,ao (.bin .lss
 (.t 16) (k' 0))] (.cond (.t 17) (q' 4 [ao (.mov (.k (.v false [.c (.i .i64 (-1))])))] .ret) .skip)) (q' 18 [am 1,aV 4] .ret)))))
theorem b6a (a:f5) (left:Int) (hpre:0≤left∧left≤1048576):Z9 Tryz.prog 61 [(true,[.s a.Name,.sl false [.s [],.i .i64 0,.s []] (a.Args.map c8.cells)]),(false,[.i .i64 left])] [] (.one (false,[.i .i64 (szR left (a5w a:Nat))])):=by
 refine sx' false false none Tryz.func61 b2u [.t 4] [(142,[],a4K)] ?_
 intro hb hE
 simp only [go_sem];(repeat' first | apply CJ.mk | intro hc);all_goals try exact om'
 all_goals ((repeat (simp (disch:=omega) only [p6] at *))<;>(try simp only [szR,a5w] at *)<;>(first | omega | (split<;>omega)))
noncomputable def a2w:CT:=l5 (fun (x:f5×Int) h=>b6a x.1 x.2 h)
@[go_sem] def c4S:=fun x0 x1 x2=>nm' (fP' a2w rfl (⟨x0,x1⟩,x2))
@[go_sem] def b5o:ACode:=q' 2 [ao (.box 10 (.t 0)),az 4 0] (q' 5 [af 1 2,aE 2,am 1,ac 61 [6,7],aV 1] (.seq (q' 9 [am 1,ao (.bin .lss (.t 9) (k' 0))] (.cond (.t 10) (q' 4 [ao (.mov (.k
 (.v false [.c (.i .i64 (-1))])))] .ret) .skip)) (q' 11 [af 4 2,aE 3,am 1,ac 257 [12,13],aV 1] (.seq (q' 15 [am 1,ao (.bin .lss (.t 15) (k' 0))] (.cond (.t 16)
 (q' 4 [ao (.mov (.k (.v false [.c (.i .i64 (-1))])))] .ret) .skip)) (q' 17 [af 7 2,aE 3,am 1,ac 257 [18,19],aV 1] (.seq (q' 21 [am 1,ao (.bin .lss (.t 21) (k'
 0))] (.cond (.t 22) (q' 4 [ao (.mov (.k (.v false [.c (.i .i64 (-1))])))] .ret) .skip)) (q' 23 [am 1,aV 4] .ret)))))))
theorem b8n (a:d5) (left:Int) (hpre:0≤left∧left≤1048576):Z9 Tryz.prog 143 [(true,[.i .i64 a.Kind,.s a.Atom.Name,.sl false [.s [],.i .i64 0,.s []] (a.Atom.Args.map c8.cells),.i .i64 a.Op,.s a.A.Var,.i .i64 a.A.Val.N,.s a.A.Val.S,.s a.B.Var,.i .i64 a.B.Val.N,.s a.B.Val.S]),(false,[.i .i64 left])] [] (.one (false,[.i .i64 (szR left (a0P a:Nat))])):=by
 refine sx' false false none Tryz.func143 b5o [.t 4] [(61,[],a2w),(257,[],a2x)] ?_
 intro hb hE
 simp only [go_sem];(repeat' first | apply CJ.mk | intro hc);all_goals try exact om'
 all_goals ((repeat (simp (disch:=omega) only [p6] at *))<;>(try simp only [szR,a0P] at *)<;>(first | omega | (split<;>omega)))
noncomputable def a7G:CT:=l5 (fun (x:d5×Int) h=>b8n x.1 x.2 h)
@[go_sem] def c6t:=fun x0 x1 x2 x3 x4 x5 x6 x7 x8 x9 x10=>nm' (fP' a7G rfl (⟨x0,⟨x1,x2⟩,x3,⟨x4,⟨x5,x6⟩⟩,⟨x7,⟨x8,x9⟩⟩⟩,x10))
@[go_sem] def b2x:ACode:=q' 4 [aK 0] (q' 6 [aM [1,0],aN,ao (.bin .sub (.t 6) (.t 8)),aV 1] (.seq (q' 10 [am 1,ao (.bin .lss (.t 10) (k' 0))] (.cond (.t 11) (q' 4 [ao (.mov (.k (.v false
 [.c (.i .i64 (-1))])))] .ret) .skip)) (.seq (q' 5 [aK 0] (.block 0 (.loop (.seq (q' 12 [aM [5,0],aN,ar 12 14] (.cond (.t 15) .skip (.exit 0))) (.seq (.block 1
 (q' 18 [aM [0,5],aI 10,aE 10,am 1,ac 143 [21,22],aV 1] (q' 24 [am 1,ao (.bin .lss (.t 24) (k' 0))] (.cond (.t 25) (q' 4 [ao (.mov (.k (.v false [.c (.i .i64
 (-1))])))] .ret) .skip)))) (g' 16 [aB 5])))))) (q' 26 [am 1,aV 4] .ret))))
theorem b6d (a:List d5) (left:Int) (hpre:0≤left∧left≤1048576):Z9 Tryz.prog 62 [(false,[.sl false [.i .i64 0,.s [],.sl false [.s [],.i .i64 0,.s []] [],.i .i64 0,.s [],.i .i64 0,.s [],.s [],.i .i64 0,.s []] (a.map (d5.cells false false))]),(false,[.i .i64 left])] [] (.one (false,[.i .i64 (szR left ((a.length+n0 a0P a):Nat))])):=by
 refine sx' false false none Tryz.func62 b2x [.t 4] [(143,[],a7G)] ?_
 intro hb hE
 simp only [go_sem];(repeat' first | apply CJ.mk | intro hc);all_goals try exact om'
 ·all_goals ((repeat (simp (disch:=omega) only [p6] at *))<;>(try simp only [szR,szR] at *)<;>(first | omega | (split<;>omega)))
 have hw:=p6 (l:=left) (n:=a.length) (by omega) (by omega) (by omega) (by omega)
 rw [hw] at hc
 refine lq' false [0] [] [] (fun i:{i:Nat // i≤a.length∧(a.length:Int)+(n0 a0P (a.take i):Nat)≤left}=>[(5,slV (.i .i64 i.1)),(1,slV (.i .i64 (left - a.length - (n0 a0P (a.take i.1):Nat))))]) nl' nl' (fun i=>a.length - i.1) (⟨0,by simp only [List.take_zero,a0l];omega⟩) ?_
 intro S0 hS0 i
 obtain ⟨i,hi,ht⟩:=i
 simp only [go_sem,hw,hS0];(repeat' first | apply CJ.mk | intro hc);all_goals try exact om'
 ·have h1:=i7 a0P (default:d5) (show i < a.length by omega)
  have h2:=s7 a0P a (i+1)
  all_goals ((repeat (simp (disch:=omega) only [p6] at *))<;>(try simp only [szR,szR] at *)<;>(first | omega | (split<;>omega)))
 ·have h1:=i7 a0P (default:d5) (show i < a.length by omega)
  (refine lpK_n2 (⟨i+1,by omega,by unfold szR at hc;split at hc<;>omega⟩) _ rfl ?_;simp only [go_sem,hw,hS0];first | done | ((repeat' apply And.intro)<;>try exact on'))
  rw [h1]
  unfold szR at hc ⊢
  split at hc<;>omega
 ·have h1:=a0Q a0P (show ¬ i < a.length by omega)
  all_goals ((repeat (simp (disch:=omega) only [p6] at *))<;>(try simp only [szR,szR] at *)<;>(first | omega | (split<;>omega)))
 all_goals all_goals ((repeat (simp (disch:=omega) only [p6] at *))<;>(try simp only [szR,szR] at *)<;>(first | omega | (split<;>omega)))
noncomputable def a5R:CT:=l5 (fun (x:(List d5)×Int) h=>b6d x.1 x.2 h)
@[go_sem] def c4V:=fun a x0=>nm' (fP' a5R rfl (a,x0))
@[go_sem] def b2z:ACode:=q' 2 [ao (.box 4 (.t 0)),az 4 0] (q' 5 [af 1 2,aE 2,am 1,ac 61 [6,7],aV 1] (.seq (q' 9 [am 1,ao (.bin .lss (.t 9) (k' 0))] (.cond (.t 10) (q' 4 [ao (.mov (.k
 (.v false [.c (.i .i64 (-1))])))] .ret) .skip)) (q' 11 [aG 3 2,am 1,ac 62 [12,13],aV 1] (.seq (q' 15 [am 1,ao (.bin .lss (.t 15) (k' 0))] (.cond (.t 16) (q' 4
 [ao (.mov (.k (.v false [.c (.i .i64 (-1))])))] .ret) .skip)) (q' 17 [am 1,aV 4] .ret)))))
theorem b6f (a:c6) (left:Int) (hpre:0≤left∧left≤1048576):Z9 Tryz.prog 13 [(true,[.i .i64 a.Kind,.s a.Head.Name,.sl false [.s [],.i .i64 0,.s []] (a.Head.Args.map c8.cells),.sl false [.i .i64 0,.s [],.sl false [.s [],.i .i64 0,.s []] [],.i .i64 0,.s [],.i .i64 0,.s [],.s [],.i .i64 0,.s []] (a.Body.map (d5.cells false false))]),(false,[.i .i64 left])] [] (.one (false,[.i .i64 (szR left (y5 a:Nat))])):=by
 refine sx' false false none Tryz.func13 b2z [.t 4] [(61,[],a2w),(62,[],a5R)] ?_
 intro hb hE
 simp only [go_sem];(repeat' first | apply CJ.mk | intro hc);all_goals try exact om'
 all_goals ((repeat (simp (disch:=omega) only [p6] at *))<;>(try simp only [szR,y5] at *)<;>(first | omega | (split<;>omega)))
noncomputable def a5T:CT:=l5 (fun (x:c6×Int) h=>b6f x.1 x.2 h)
@[go_sem] def c4X:=fun x0 x1 x2 x3 x4=>nm' (fP' a5T rfl (⟨x0,⟨x1,x2⟩,x3⟩,x4))
@[go_sem] def b0N:ACode:=q' 4 [aK 0] (q' 6 [aM [1,0],aN,ao (.bin .sub (.t 6) (.t 8)),aV 1] (.seq (q' 10 [am 1,ao (.bin .lss (.t 10) (k' 0))] (.cond (.t 11) (q' 4 [ao (.mov (.k (.v false
 [.c (.i .i64 (-1))])))] .ret) .skip)) (.seq (q' 5 [aK 0] (.block 0 (.loop (.seq (q' 12 [aM [5,0],aN,ar 12 14] (.cond (.t 15) .skip (.exit 0))) (.seq (.block 1
 (q' 18 [aM [0,5],aI 4,aE 4,am 1,ac 13 [21,22],aV 1] (q' 24 [am 1,ao (.bin .lss (.t 24) (k' 0))] (.cond (.t 25) (q' 4 [ao (.mov (.k (.v false [.c (.i .i64
 (-1))])))] .ret) .skip)))) (g' 16 [aB 5])))))) (q' 26 [am 1,aV 4] .ret))))
theorem b4c (a:List c6) (left:Int) (hpre:0≤left∧left≤1048576):Z9 Tryz.prog 100 [(false,[.sl false [.i .i64 0,.s [],.sl false [.s [],.i .i64 0,.s []] [],.sl false [.i .i64 0,.s [],.sl false [.s [],.i .i64 0,.s []] [],.i .i64 0,.s [],.i .i64 0,.s [],.s [],.i .i64 0,.s []] []] (a.map (c6.cells false false))]),(false,[.i .i64 left])] [] (.one (false,[.i .i64 (szR left ((a.length+n0 y5 a):Nat))])):=by
 refine sx' false false none Tryz.func100 b0N [.t 4] [(13,[],a5T)] ?_
 intro hb hE
 simp only [go_sem];(repeat' first | apply CJ.mk | intro hc);all_goals try exact om'
 ·all_goals ((repeat (simp (disch:=omega) only [p6] at *))<;>(try simp only [szR,szR] at *)<;>(first | omega | (split<;>omega)))
 have hw:=p6 (l:=left) (n:=a.length) (by omega) (by omega) (by omega) (by omega)
 rw [hw] at hc
 refine lq' false [0] [] [] (fun i:{i:Nat // i≤a.length∧(a.length:Int)+(n0 y5 (a.take i):Nat)≤left}=>[(5,slV (.i .i64 i.1)),(1,slV (.i .i64 (left - a.length - (n0 y5 (a.take i.1):Nat))))]) nl' nl' (fun i=>a.length - i.1) (⟨0,by simp only [List.take_zero,a0l];omega⟩) ?_
 intro S0 hS0 i
 obtain ⟨i,hi,ht⟩:=i
 simp only [go_sem,hw,hS0];(repeat' first | apply CJ.mk | intro hc);all_goals try exact om'
 ·have h1:=i7 y5 (default:c6) (show i < a.length by omega)
  have h2:=s7 y5 a (i+1)
  all_goals ((repeat (simp (disch:=omega) only [p6] at *))<;>(try simp only [szR,szR] at *)<;>(first | omega | (split<;>omega)))
 ·have h1:=i7 y5 (default:c6) (show i < a.length by omega)
  (refine lpK_n2 (⟨i+1,by omega,by unfold szR at hc;split at hc<;>omega⟩) _ rfl ?_;simp only [go_sem,hw,hS0];first | done | ((repeat' apply And.intro)<;>try exact on'))
  rw [h1]
  unfold szR at hc ⊢
  split at hc<;>omega
 ·have h1:=a0Q y5 (show ¬ i < a.length by omega)
  all_goals ((repeat (simp (disch:=omega) only [p6] at *))<;>(try simp only [szR,szR] at *)<;>(first | omega | (split<;>omega)))
 all_goals all_goals ((repeat (simp (disch:=omega) only [p6] at *))<;>(try simp only [szR,szR] at *)<;>(first | omega | (split<;>omega)))
noncomputable def a4H:CT:=l5 (fun (x:(List c6)×Int) h=>b4c x.1 x.2 h)
@[go_sem] def c3f:=fun a x0=>nm' (fP' a4H rfl (a,x0))
@[go_sem] def b2w:ACode:=q' 2 [ao (.box 3 (.t 0)),az 4 0] (q' 5 [am 1,aG 1 2,ao (.lens (.t 7)),ao (.bin .sub (.t 5) (.t 8)),aV 1] (.seq (q' 10 [am 1,ao (.bin .lss (.t 10) (k' 0))]
 (.cond (.t 11) (q' 4 [ao (.mov (.k (.v false [.c (.i .i64 (-1))])))] .ret) .skip)) (q' 12 [am 1,aV 4] .ret)))
theorem b6c (a:d7) (left:Int) (hpre:0≤left∧left≤1048576):Z9 Tryz.prog 204 [(true,[.i .i64 a.Kind,.s a.Name,.i .i64 a.Arity]),(false,[.i .i64 left])] [] (.one (false,[.i .i64 (szR left (a0O a:Nat))])):=by
 refine sx' false false none Tryz.func204 b2w [.t 4] [] ?_
 intro hb hE
 simp only [go_sem];(repeat' first | apply CJ.mk | intro hc);all_goals try exact om'
 all_goals ((repeat (simp (disch:=omega) only [p6] at *))<;>(try simp only [szR,a0O] at *)<;>(first | omega | (split<;>omega)))
noncomputable def a5Q:CT:=l5 (fun (x:d7×Int) h=>b6c x.1 x.2 h)
@[go_sem] def c4U:=fun x0 x1 x2 x3=>nm' (fP' a5Q rfl (⟨x0,x1,x2⟩,x3))
@[go_sem] def b0L:ACode:=q' 4 [aK 0] (q' 6 [aM [1,0],aN,ao (.bin .sub (.t 6) (.t 8)),aV 1] (.seq (q' 10 [am 1,ao (.bin .lss (.t 10) (k' 0))] (.cond (.t 11) (q' 4 [ao (.mov (.k (.v false
 [.c (.i .i64 (-1))])))] .ret) .skip)) (.seq (q' 5 [aK 0] (.block 0 (.loop (.seq (q' 12 [aM [5,0],aN,ar 12 14] (.cond (.t 15) .skip (.exit 0))) (.seq (.block 1
 (q' 18 [aM [0,5],aI 3,aE 3,am 1,ac 204 [21,22],aV 1] (q' 24 [am 1,ao (.bin .lss (.t 24) (k' 0))] (.cond (.t 25) (q' 4 [ao (.mov (.k (.v false [.c (.i .i64
 (-1))])))] .ret) .skip)))) (g' 16 [aB 5])))))) (q' 26 [am 1,aV 4] .ret))))
theorem b4a (a:List d7) (left:Int) (hpre:0≤left∧left≤1048576):Z9 Tryz.prog 99 [(false,[.sl false [.i .i64 0,.s [],.i .i64 0] (a.map d7.cells)]),(false,[.i .i64 left])] [] (.one (false,[.i .i64 (szR left ((a.length+n0 a0O a):Nat))])):=by
 refine sx' false false none Tryz.func99 b0L [.t 4] [(204,[],a5Q)] ?_
 intro hb hE
 simp only [go_sem];(repeat' first | apply CJ.mk | intro hc);all_goals try exact om'
 ·all_goals ((repeat (simp (disch:=omega) only [p6] at *))<;>(try simp only [szR,szR] at *)<;>(first | omega | (split<;>omega)))
 have hw:=p6 (l:=left) (n:=a.length) (by omega) (by omega) (by omega) (by omega)
 rw [hw] at hc
 refine lq' false [0] [] [] (fun i:{i:Nat // i≤a.length∧(a.length:Int)+(n0 a0O (a.take i):Nat)≤left}=>[(5,slV (.i .i64 i.1)),(1,slV (.i .i64 (left - a.length - (n0 a0O (a.take i.1):Nat))))]) nl' nl' (fun i=>a.length - i.1) (⟨0,by simp only [List.take_zero,a0l];omega⟩) ?_
 intro S0 hS0 i
 obtain ⟨i,hi,ht⟩:=i
 simp only [go_sem,hw,hS0];(repeat' first | apply CJ.mk | intro hc);all_goals try exact om'
 ·have h1:=i7 a0O (default:d7) (show i < a.length by omega)
  have h2:=s7 a0O a (i+1)
  all_goals ((repeat (simp (disch:=omega) only [p6] at *))<;>(try simp only [szR,szR] at *)<;>(first | omega | (split<;>omega)))
 ·have h1:=i7 a0O (default:d7) (show i < a.length by omega)
  (refine lpK_n2 (⟨i+1,by omega,by unfold szR at hc;split at hc<;>omega⟩) _ rfl ?_;simp only [go_sem,hw,hS0];first | done | ((repeat' apply And.intro)<;>try exact on'))
  rw [h1]
  unfold szR at hc ⊢
  split at hc<;>omega
 ·have h1:=a0Q a0O (show ¬ i < a.length by omega)
  all_goals ((repeat (simp (disch:=omega) only [p6] at *))<;>(try simp only [szR,szR] at *)<;>(first | omega | (split<;>omega)))
 all_goals all_goals ((repeat (simp (disch:=omega) only [p6] at *))<;>(try simp only [szR,szR] at *)<;>(first | omega | (split<;>omega)))
noncomputable def a4F:CT:=l5 (fun (x:(List d7)×Int) h=>b4a x.1 x.2 h)
@[go_sem] def c3d:=fun a x0=>nm' (fP' a4F rfl (a,x0))
@[go_sem] def a6Z:ACode:=q' 2 [ao (.box 2 (.t 0)),az 4 0] (q' 5 [aG 0 2,am 1,ac 99 [6,7],aV 1] (.seq (q' 9 [am 1,ao (.bin .lss (.t 9) (k' 0))] (.cond (.t 10) (q' 4 [ao (.mov (.k (.v
 false [.c (.i .i64 (-1))])))] .ret) .skip)) (q' 11 [aG 1 2,am 1,ac 100 [12,13],aV 1] (.seq (q' 15 [am 1,ao (.bin .lss (.t 15) (k' 0))] (.cond (.t 16) (q' 4
 [ao (.mov (.k (.v false [.c (.i .i64 (-1))])))] .ret) .skip)) (q' 17 [am 1,aV 4] .ret)))))
theorem a9z (a:c4) (left:Int) (hpre:0≤left∧left≤1048576):Z9 Tryz.prog 33 [(true,[.sl false [.i .i64 0,.s [],.i .i64 0] (a.Decls.map d7.cells),.sl false [.i .i64 0,.s [],.sl false [.s [],.i .i64 0,.s []] [],.sl false [.i .i64 0,.s [],.sl false [.s [],.i .i64 0,.s []] [],.i .i64 0,.s [],.i .i64 0,.s [],.s [],.i .i64 0,.s []] []] (a.Rules.map (c6.cells false false))]),(false,[.i .i64 left])] [] (.one (false,[.i .i64 (szR left (a3A a:Nat))])):=by
 refine sx' false false none Tryz.func33 a6Z [.t 4] [(99,[],a4F),(100,[],a4H)] ?_
 intro hb hE
 simp only [go_sem];(repeat' first | apply CJ.mk | intro hc);all_goals try exact om'
 all_goals ((repeat (simp (disch:=omega) only [p6] at *))<;>(try simp only [szR,a3A] at *)<;>(first | omega | (split<;>omega)))
noncomputable def a2P:CT:=l5 (fun (x:c4×Int) h=>a9z x.1 x.2 h)
@[go_sem] def c0H:=fun x0 x1 x2=>nm' (fP' a2P rfl (⟨x0,x1⟩,x2))
@[go_sem] def b2C:ACode:=q' 1 [ao (.box 2 (.t 0)),aw [.s,.sl [.s [],.i .i64 0,.s []]]] (q' 3 [aw [.s,.sl [.s [],.i .i64 0,.s []]]] (q' 4 [aG 0 1,af 0 3,aS 1 6 5] (q' 7 [aG 1 1,ac
 147 [8],af 1 3,aS 1 10 9] (q' 11 [ae 2 3,aS 2 2 11] .ret))))
theorem b6i (a:f5) (hpre:(a5w a:Int)≤1048576):Z9 Tryz.prog 65 [(true,[.s a.Name,.sl false [.s [],.i .i64 0,.s []] (a.Args.map c8.cells)])] [] (.one (true,[.s a.Name,.sl true [.s [],.i .i64 0,.s []] (a.Args.map c8.cells)])):=by
 refine sx' true false none Tryz.func65 b2C [.c 2 true 2] [(147,[],a4R)] ?_
 intro hb hE
 simp only [go_sem];(repeat' first | apply CJ.mk | intro hc);all_goals try exact om'
 all_goals (simp only [a5w] at *;omega)
noncomputable def a2y:CT:=l5 (fun (x:f5) h=>b6i x h)
@[go_sem] def c5a:=fun x0 x1=>nm' (fP' a2y rfl ⟨x0,x1⟩)
@[go_sem] def b5s:ACode:=q' 1 [ao (.box 10 (.t 0)),aw [.i .i64,.s,.sl [.s [],.i .i64 0,.s []],.i .i64,.s,.i .i64,.s,.s,.i .i64,.s]] (q' 3 [aw [.i .i64,.s,.sl [.s [],.i
 .i64 0,.s []],.i .i64,.s,.i .i64,.s,.s,.i .i64,.s]] (q' 4 [aG 0 1,af 0 3,aS 1 6 5] (q' 7 [af 1 1,aE 2,ac 65 [8],af 1 3,aS 2 10 9] (q' 11 [aG 3 1,af 3
 3,aS 1 13 12] (q' 14 [af 4 1,aE 3,ac 263 [15],af 4 3,aS 3 17 16] (q' 18 [af 7 1,aE 3,ac 263 [19],af 7 3,aS 3 21 20] (q' 22 [ae 10 3,aS 10 2 22] .ret)))))))
theorem b8r (a:d5) (hpre:(a0P a:Int)≤1048576):Z9 Tryz.prog 148 [(true,[.i .i64 a.Kind,.s a.Atom.Name,.sl false [.s [],.i .i64 0,.s []] (a.Atom.Args.map c8.cells),.i .i64 a.Op,.s a.A.Var,.i .i64 a.A.Val.N,.s a.A.Val.S,.s a.B.Var,.i .i64 a.B.Val.N,.s a.B.Val.S])] [] (.one (true,[.i .i64 a.Kind,.s a.Atom.Name,.sl true [.s [],.i .i64 0,.s []] (a.Atom.Args.map c8.cells),.i .i64 a.Op,.s a.A.Var,.i .i64 a.A.Val.N,.s a.A.Val.S,.s a.B.Var,.i .i64 a.B.Val.N,.s a.B.Val.S])):=by
 refine sx' true false none Tryz.func148 b5s [.c 2 true 10] [(65,[],a2y),(263,[],a2z)] ?_
 intro hb hE
 simp only [go_sem];(repeat' first | apply CJ.mk | intro hc);all_goals try exact om'
 all_goals (simp only [a0P] at *;omega)
noncomputable def a7J:CT:=l5 (fun (x:d5) h=>b8r x h)
@[go_sem] def c6x:=fun x0 x1 x2 x3 x4 x5 x6 x7 x8 x9=>nm' (fP' a7J rfl ⟨x0,⟨x1,x2⟩,x3,⟨x4,⟨x5,x6⟩⟩,⟨x7,⟨x8,x9⟩⟩⟩)
@[go_sem] def b2F:ACode:=q' 2 [ao (.mov (.k (.v false [.nl [.i .i64 0,.s [],.sl false [.s [],.i .i64 0,.s []] [],.i .i64 0,.s [],.i .i64 0,.s [],.s [],.i .i64 0,.s []]])))]
 (q' 5 [am 0,aN,ao (.mks 10 136 [.i .i64,.s,.sl [.s [],.i .i64 0,.s []],.i .i64,.s,.i .i64,.s,.s,.i .i64,.s] (.t 6) (.t 6)),aV 3] (.seq (q' 4 [aK 0]
 (.block 0 (.loop (.seq (q' 8 [aM [4,0],aN,ar 8 10] (.cond (.t 11) .skip (.exit 0))) (.seq (.block 1 (g' 14 [aM [3,4,0,4],aI 10,aE 10,ac 148 [19],ai 10 14
 15,aS 10 21 20])) (g' 12 [aB 4])))))) (q' 22 [am 3,aV 2] .ret)))
theorem b6l (a:List d5) (hpre:(((a.length+n0 a0P a):Nat):Int)≤1048576):Z9 Tryz.prog 66 [(false,[.sl false [.i .i64 0,.s [],.sl false [.s [],.i .i64 0,.s []] [],.i .i64 0,.s [],.i .i64 0,.s [],.s [],.i .i64 0,.s []] (a.map (d5.cells false false))])] [] (.one (false,[.sl true [.i .i64 0,.s [],.sl true [.s [],.i .i64 0,.s []] [],.i .i64 0,.s [],.i .i64 0,.s [],.s [],.i .i64 0,.s []] (a.map (d5.cells true true))])):=by
 refine sx' true false none Tryz.func66 b2F [.t 2] [(148,[],a7J)] ?_
 intro hb hE
 simp only [go_sem,b1U];(repeat' first | apply CJ.mk | intro hc);all_goals try exact om'
 refine lq' true [0,3] [] [] (fun i:{p:Nat×(List d5) // p.1≤a.length∧p.2.length=a.length∧p.2.take p.1=a.take p.1}=>[(4,slV (.i .i64 i.1.1))]) nl' (fun i=>[(896,[.i .i64 0,.s [],.sl true [.s [],.i .i64 0,.s []] [],.i .i64 0,.s [],.i .i64 0,.s [],.s [],.i .i64 0,.s []],i.1.2.map (d5.cells true true))]) (fun i=>a.length - i.1.1) (⟨(0,List.replicate a.length default),by simp⟩) ?_
 intro S0 hS0 i
 obtain ⟨⟨i,L⟩,hi,hl,ht⟩:=i
 simp only at hi hl ht
 have hg:=a3f a0P a i default rfl
 simp only [go_sem,b1U,hS0];(repeat' first | apply CJ.mk | intro hc);all_goals try exact om'
 ·(refine lpK_n2 (⟨(i+1,L.set i (a.getD i default)),by simp only;omega,by simp [hl],s6 hl ht (by omega)⟩) _ rfl ?_;simp only [go_sem,b1U,hS0];first | done | ((repeat' apply And.intro)<;>try exact on'))
 ·obtain rfl:=j7 hl ht (by omega)
  rfl
noncomputable def a5X:CT:=l5 (fun (x:(List d5)) h=>b6l x h)
@[go_sem] def c5d:=fun a=>nm' (fP' a5X rfl a)
@[go_sem] def b2H:ACode:=q' 1 [ao (.box 4 (.t 0)),aw [.i .i64,.s,.sl [.s [],.i .i64 0,.s []],.sl [.i .i64 0,.s [],.sl false [.s [],.i .i64 0,.s []] [],.i .i64 0,.s [],.i
 .i64 0,.s [],.s [],.i .i64 0,.s []]]] (q' 3 [aw [.i .i64,.s,.sl [.s [],.i .i64 0,.s []],.sl [.i .i64 0,.s [],.sl false [.s [],.i .i64 0,.s []]
 [],.i .i64 0,.s [],.i .i64 0,.s [],.s [],.i .i64 0,.s []]]] (q' 4 [aG 0 1,af 0 3,aS 1 6 5] (q' 7 [af 1 1,aE 2,ac 65 [8],af 1 3,aS 2 10 9] (q' 11 [aG 3
 1,ac 66 [12],af 3 3,aS 1 14 13] (q' 15 [ae 4 3,aS 4 2 15] .ret)))))
theorem b6n (a:c6) (hpre:(y5 a:Int)≤1048576):Z9 Tryz.prog 16 [(true,[.i .i64 a.Kind,.s a.Head.Name,.sl false [.s [],.i .i64 0,.s []] (a.Head.Args.map c8.cells),.sl false [.i .i64 0,.s [],.sl false [.s [],.i .i64 0,.s []] [],.i .i64 0,.s [],.i .i64 0,.s [],.s [],.i .i64 0,.s []] (a.Body.map (d5.cells false false))])] [] (.one (true,[.i .i64 a.Kind,.s a.Head.Name,.sl true [.s [],.i .i64 0,.s []] (a.Head.Args.map c8.cells),.sl true [.i .i64 0,.s [],.sl true [.s [],.i .i64 0,.s []] [],.i .i64 0,.s [],.i .i64 0,.s [],.s [],.i .i64 0,.s []] (a.Body.map (d5.cells true true))])):=by
 refine sx' true false none Tryz.func16 b2H [.c 2 true 4] [(65,[],a2y),(66,[],a5X)] ?_
 intro hb hE
 simp only [go_sem];(repeat' first | apply CJ.mk | intro hc);all_goals try exact om'
 all_goals (simp only [y5] at *;omega)
noncomputable def a5Z:CT:=l5 (fun (x:c6) h=>b6n x h)
@[go_sem] def c5f:=fun x0 x1 x2 x3=>nm' (fP' a5Z rfl ⟨x0,⟨x1,x2⟩,x3⟩)
@[go_sem] def b0V:ACode:=q' 2 [ao (.mov (.k (.v false [.nl [.i .i64 0,.s [],.sl false [.s [],.i .i64 0,.s []] [],.sl false [.i .i64 0,.s [],.sl false [.s [],.i .i64 0,.s []]
 [],.i .i64 0,.s [],.i .i64 0,.s [],.s [],.i .i64 0,.s []] []]])))] (q' 5 [am 0,aN,ao (.mks 4 72 [.i .i64,.s,.sl [.s [],.i .i64 0,.s []],.sl [.i
 .i64 0,.s [],.sl false [.s [],.i .i64 0,.s []] [],.i .i64 0,.s [],.i .i64 0,.s [],.s [],.i .i64 0,.s []]] (.t 6) (.t 6)),aV 3] (.seq (q' 4 [aK 0]
 (.block 0 (.loop (.seq (q' 8 [aM [4,0],aN,ar 8 10] (.cond (.t 11) .skip (.exit 0))) (.seq (.block 1 (g' 14 [aM [3,4,0,4],aI 4,aE 4,ac 16 [19],ai 4 14 15,aS 4
 21 20])) (g' 12 [aB 4])))))) (q' 22 [am 3,aV 2] .ret)))
theorem b4k (a:List c6) (hpre:(((a.length+n0 y5 a):Nat):Int)≤1048576):Z9 Tryz.prog 106 [(false,[.sl false [.i .i64 0,.s [],.sl false [.s [],.i .i64 0,.s []] [],.sl false [.i .i64 0,.s [],.sl false [.s [],.i .i64 0,.s []] [],.i .i64 0,.s [],.i .i64 0,.s [],.s [],.i .i64 0,.s []] []] (a.map (c6.cells false false))])] [] (.one (false,[.sl true [.i .i64 0,.s [],.sl true [.s [],.i .i64 0,.s []] [],.sl true [.i .i64 0,.s [],.sl true [.s [],.i .i64 0,.s []] [],.i .i64 0,.s [],.i .i64 0,.s [],.s [],.i .i64 0,.s []] []] (a.map (c6.cells true true))])):=by
 refine sx' true false none Tryz.func106 b0V [.t 2] [(16,[],a5Z)] ?_
 intro hb hE
 simp only [go_sem,a8D];(repeat' first | apply CJ.mk | intro hc);all_goals try exact om'
 refine lq' true [0,3] [] [] (fun i:{p:Nat×(List c6) // p.1≤a.length∧p.2.length=a.length∧p.2.take p.1=a.take p.1}=>[(4,slV (.i .i64 i.1.1))]) nl' (fun i=>[(896,[.i .i64 0,.s [],.sl true [.s [],.i .i64 0,.s []] [],.sl true [.i .i64 0,.s [],.sl true [.s [],.i .i64 0,.s []] [],.i .i64 0,.s [],.i .i64 0,.s [],.s [],.i .i64 0,.s []] []],i.1.2.map (c6.cells true true))]) (fun i=>a.length - i.1.1) (⟨(0,List.replicate a.length default),by simp⟩) ?_
 intro S0 hS0 i
 obtain ⟨⟨i,L⟩,hi,hl,ht⟩:=i
 simp only at hi hl ht
 have hg:=a3f y5 a i default rfl
 simp only [go_sem,a8D,hS0];(repeat' first | apply CJ.mk | intro hc);all_goals try exact om'
 ·(refine lpK_n2 (⟨(i+1,L.set i (a.getD i default)),by simp only;omega,by simp [hl],s6 hl ht (by omega)⟩) _ rfl ?_;simp only [go_sem,a8D,hS0];first | done | ((repeat' apply And.intro)<;>try exact on'))
 ·obtain rfl:=j7 hl ht (by omega)
  rfl
noncomputable def a4O:CT:=l5 (fun (x:(List c6)) h=>b4k x h)
@[go_sem] def c3n:=fun a=>nm' (fP' a4O rfl a)
@[go_sem] def b2E:ACode:=q' 1 [ao (.box 3 (.t 0)),aw [.i .i64,.s,.i .i64]] (q' 3 [aw [.i .i64,.s,.i .i64]] (q' 4 [aG 0 1,af 0 3,aS 1 6 5] (q' 7 [aG 1 1,af 1 3,aS 1 9 8] (q' 10 [aG 2
 1,af 2 3,aS 1 12 11] (q' 13 [ae 3 3,aS 3 2 13] .ret)))))
theorem b6k (a:d7):Z9 Tryz.prog 217 [(true,[.i .i64 a.Kind,.s a.Name,.i .i64 a.Arity])] [] (.one (true,[.i .i64 a.Kind,.s a.Name,.i .i64 a.Arity])):=by
 refine sx' true false none Tryz.func217 b2E [.c 2 true 3] [] ?_
 intro hb hE
 simp only [go_sem];(repeat' first | apply CJ.mk | intro hc);all_goals try exact om'
noncomputable def a5W:CT:=i3 (fun (x:d7)=>b6k x)
@[go_sem] def c5c:=fun x0 x1 x2=>nm' (fQ' a5W rfl ⟨x0,x1,x2⟩)
@[go_sem] def b0T:ACode:=q' 2 [ao (.mov (.k (.v false [.nl [.i .i64 0,.s [],.i .i64 0]])))] (q' 5 [am 0,aN,ao (.mks 3 32 [.i .i64,.s,.i .i64] (.t 6) (.t 6)),aV 3] (.seq (q' 4 [aK 0]
 (.block 0 (.loop (.seq (q' 8 [aM [4,0],aN,ar 8 10] (.cond (.t 11) .skip (.exit 0))) (.seq (.block 1 (g' 14 [aM [3,4,0,4],aI 3,aE 3,ac 217 [19],ai 3 14 15,aS 3
 21 20])) (g' 12 [aB 4])))))) (q' 22 [am 3,aV 2] .ret)))
theorem b4i (a:List d7) (hpre:(((a.length+n0 a0O a):Nat):Int)≤1048576):Z9 Tryz.prog 105 [(false,[.sl false [.i .i64 0,.s [],.i .i64 0] (a.map d7.cells)])] [] (.one (false,[.sl true [.i .i64 0,.s [],.i .i64 0] (a.map d7.cells)])):=by
 refine sx' true false none Tryz.func105 b0T [.t 2] [(217,[],a5W)] ?_
 intro hb hE
 simp only [go_sem,a8C];(repeat' first | apply CJ.mk | intro hc);all_goals try exact om'
 refine lq' true [0,3] [] [] (fun i:{p:Nat×(List d7) // p.1≤a.length∧p.2.length=a.length∧p.2.take p.1=a.take p.1}=>[(4,slV (.i .i64 i.1.1))]) nl' (fun i=>[(896,[.i .i64 0,.s [],.i .i64 0],i.1.2.map d7.cells)]) (fun i=>a.length - i.1.1) (⟨(0,List.replicate a.length default),by simp⟩) ?_
 intro S0 hS0 i
 obtain ⟨⟨i,L⟩,hi,hl,ht⟩:=i
 simp only at hi hl ht
 simp only [go_sem,a8C,hS0];(repeat' first | apply CJ.mk | intro hc);all_goals try exact om'
 ·(refine lpK_n2 (⟨(i+1,L.set i (a.getD i default)),by simp only;omega,by simp [hl],s6 hl ht (by omega)⟩) _ rfl ?_;simp only [go_sem,a8C,hS0];first | done | ((repeat' apply And.intro)<;>try exact on'))
 ·obtain rfl:=j7 hl ht (by omega)
  rfl
noncomputable def a4M:CT:=l5 (fun (x:(List d7)) h=>b4i x h)
@[go_sem] def c3l:=fun a=>nm' (fP' a4M rfl a)
@[go_sem] def a7a:ACode:=q' 1 [ao (.box 2 (.t 0)),aw [.sl [.i .i64 0,.s [],.i .i64 0],.sl [.i .i64 0,.s [],.sl false [.s [],.i .i64 0,.s []] [],.sl false [.i .i64 0,.s [],.sl
 false [.s [],.i .i64 0,.s []] [],.i .i64 0,.s [],.i .i64 0,.s [],.s [],.i .i64 0,.s []] []]]] (q' 3 [aw [.sl [.i .i64 0,.s [],.i .i64 0],.sl [.i
 .i64 0,.s [],.sl false [.s [],.i .i64 0,.s []] [],.sl false [.i .i64 0,.s [],.sl false [.s [],.i .i64 0,.s []] [],.i .i64 0,.s [],.i .i64 0,.s
 [],.s [],.i .i64 0,.s []] []]]] (q' 4 [aG 0 1,ac 105 [5],af 0 3,aS 1 7 6] (q' 8 [aG 1 1,ac 106 [9],af 1 3,aS 1 11 10] (q' 12 [ae 2 3,aS 2 2 12] .ret))))
theorem a9A (a:c4) (hpre:(a3A a:Int)≤1048576):Z9 Tryz.prog 37 [(true,[.sl false [.i .i64 0,.s [],.i .i64 0] (a.Decls.map d7.cells),.sl false [.i .i64 0,.s [],.sl false [.s [],.i .i64 0,.s []] [],.sl false [.i .i64 0,.s [],.sl false [.s [],.i .i64 0,.s []] [],.i .i64 0,.s [],.i .i64 0,.s [],.s [],.i .i64 0,.s []] []] (a.Rules.map (c6.cells false false))])] [] (.one (true,[.sl true [.i .i64 0,.s [],.i .i64 0] (a.Decls.map d7.cells),.sl true [.i .i64 0,.s [],.sl true [.s [],.i .i64 0,.s []] [],.sl true [.i .i64 0,.s [],.sl true [.s [],.i .i64 0,.s []] [],.i .i64 0,.s [],.i .i64 0,.s [],.s [],.i .i64 0,.s []] []] (a.Rules.map (c6.cells true true))])):=by
 refine sx' true false none Tryz.func37 a7a [.c 2 true 2] [(105,[],a4M),(106,[],a4O)] ?_
 intro hb hE
 simp only [go_sem];(repeat' first | apply CJ.mk | intro hc);all_goals try exact om'
 all_goals (simp only [a3A] at *;omega)
noncomputable def a2Q:CT:=l5 (fun (x:c4) h=>a9A x h)
@[go_sem] def c0I:=fun x0 x1=>nm' (fP' a2Q rfl ⟨x0,x1⟩)
@[go_sem] def b2m:ACode:=q' 2 [ao (.box 2 (.t 0)),ao (.box 2 (.t 1)),ao (.mov (bb false))] (.seq (q' 5 [aG 0 2,aG 0 3,ao (.bin .neq (.t 6) (.t 8))] (.cond (.t 9) (q' 0 [ab 4 false]
 .ret) .skip)) (.seq (q' 10 [aG 1 2,aG 1 3,ac 161 [11,13],ao (.not (.t 14))] (.cond (.t 15) (q' 0 [ab 4 false] .ret) .skip)) (q' 0 [ab 4 true] .ret)))
theorem b5S (a:f5) (b:f5):Z9 Tryz.prog 73 [(true,[.s a.Name,.sl false [.s [],.i .i64 0,.s []] (a.Args.map c8.cells)]),(true,[.s b.Name,.sl false [.s [],.i .i64 0,.s []] (b.Args.map c8.cells)])] [] (.one (false,[.b (decide (a=b))])):=by
 refine sx' false false none Tryz.func73 b2m [.t 4] [(161,[],a4D)] ?_
 intro hb hE
 simp only [go_sem];(repeat' first | apply CJ.mk | intro hc);all_goals try exact om'
 all_goals (cases a;cases b;simp_all)
noncomputable def a2u:CT:=i3 (fun (x:f5×f5)=>b5S x.1 x.2)
@[go_sem] def c4K:=fun x0 x1 x2 x3=>nm' (fQ' a2u rfl (⟨x0,x1⟩,⟨x2,x3⟩))
@[go_sem] def b5k:ACode:=q' 2 [ao (.box 10 (.t 0)),ao (.box 10 (.t 1)),ao (.mov (bb false))] (.seq (q' 5 [aG 0 2,aG 0 3,ao (.bin .neq (.t 6) (.t 8))] (.cond (.t 9) (q' 0 [ab 4 false]
 .ret) .skip)) (.seq (q' 10 [af 1 2,aE 2,af 1 3,aE 2,ac 73 [11,13],ao (.not (.t 14))] (.cond (.t 15) (q' 0 [ab 4 false] .ret) .skip)) (.seq (q' 16 [aG 3 2,aG 3
 3,ao (.bin .neq (.t 17) (.t 19))] (.cond (.t 20) (q' 0 [ab 4 false] .ret) .skip)) (.seq (q' 21 [af 4 2,aE 3,af 4 3,aE 3,ac 279 [22,24],ao (.not (.t 25))]
 (.cond (.t 26) (q' 0 [ab 4 false] .ret) .skip)) (.seq (q' 27 [af 7 2,aE 3,af 7 3,aE 3,ac 279 [28,30],ao (.not (.t 31))] (.cond (.t 32) (q' 0 [ab 4 false]
 .ret) .skip)) (q' 0 [ab 4 true] .ret))))))
theorem b8j (a:d5) (b:d5):Z9 Tryz.prog 162 [(true,[.i .i64 a.Kind,.s a.Atom.Name,.sl false [.s [],.i .i64 0,.s []] (a.Atom.Args.map c8.cells),.i .i64 a.Op,.s a.A.Var,.i .i64 a.A.Val.N,.s a.A.Val.S,.s a.B.Var,.i .i64 a.B.Val.N,.s a.B.Val.S]),(true,[.i .i64 b.Kind,.s b.Atom.Name,.sl false [.s [],.i .i64 0,.s []] (b.Atom.Args.map c8.cells),.i .i64 b.Op,.s b.A.Var,.i .i64 b.A.Val.N,.s b.A.Val.S,.s b.B.Var,.i .i64 b.B.Val.N,.s b.B.Val.S])] [] (.one (false,[.b (decide (a=b))])):=by
 refine sx' false false none Tryz.func162 b5k [.t 4] [(73,[],a2u),(279,[],a2v)] ?_
 intro hb hE
 simp only [go_sem];(repeat' first | apply CJ.mk | intro hc);all_goals try exact om'
 all_goals (cases a;cases b;simp_all)
noncomputable def a7D:CT:=i3 (fun (x:d5×d5)=>b8j x.1 x.2)
@[go_sem] def c6p:=fun x0 x1 x2 x3 x4 x5 x6 x7 x8 x9 x10 x11 x12 x13 x14 x15 x16 x17 x18 x19=>nm' (fQ' a7D rfl (⟨x0,⟨x1,x2⟩,x3,⟨x4,⟨x5,x6⟩⟩,⟨x7,⟨x8,x9⟩⟩⟩,⟨x10,⟨x11,x12⟩,x13,⟨x14,⟨x15,x16⟩⟩,⟨x17,⟨x18,x19⟩⟩⟩))
@[go_sem] def b2p:ACode:=q' 0 [ab 4 false] (.seq (q' 6 [am 0,aN,am 1,aN,ao (.bin .neq (.t 7) (.t 9))] (.cond (.t 10) (q' 0 [ab 4 false] .ret) .skip)) (.seq (q' 5 [aK 0] (.block 0 (.loop
 (.seq (q' 11 [aM [5,0],aN,ar 11 13] (.cond (.t 14) .skip (.exit 0))) (.seq (.block 1 (.seq (G' 17 [aM [0,5],aI 10,aE 10,aM [1,5],aI 10,aE 10,ac 162 [20,24],ao
 (.not (.t 25))]) (.cond (.t 26) (q' 0 [ab 4 false] .ret) .skip))) (g' 15 [aB 5])))))) (q' 0 [ab 4 true] .ret)))
theorem b5V (a:List d5) (b:List d5):Z9 Tryz.prog 74 [(false,[.sl false [.i .i64 0,.s [],.sl false [.s [],.i .i64 0,.s []] [],.i .i64 0,.s [],.i .i64 0,.s [],.s [],.i .i64 0,.s []] (a.map (d5.cells false false))]),(false,[.sl false [.i .i64 0,.s [],.sl false [.s [],.i .i64 0,.s []] [],.i .i64 0,.s [],.i .i64 0,.s [],.s [],.i .i64 0,.s []] (b.map (d5.cells false false))])] [] (.one (false,[.b (decide (a=b))])):=by
 refine sx' false false none Tryz.func74 b2p [.t 4] [(162,[],a7D)] ?_
 intro hb hE
 simp only [go_sem];(repeat' first | apply CJ.mk | intro hc);all_goals try exact om'
 ·symm
  rw [decide_eq_false_iff_not]
  rintro rfl
  simp at hc
 have hl:a.length=b.length:=by simpa [Int.ofNat_inj] using hc
 refine lq' false [0,1] [] [] (fun i:{i:Nat // i≤a.length∧a.take i=b.take i}=>[(5,slV (.i .i64 i.1))]) nl' nl' (fun i=>a.length - i.1) (⟨0,by simp⟩) ?_
 intro S0 hS0 i
 obtain ⟨i,hi,ht⟩:=i
 simp only [go_sem,hS0];(repeat' first | apply CJ.mk | intro hc);all_goals try exact om'
 ·exact (decide_eq_false (u1 default (i:=i) (by simpa using hc))).symm
 ·exact nx0 ⟨i+1,by omega,o8 ht (by omega) (by omega) (d:=default) (by simpa using hc)⟩
 ·exact (decide_eq_true (j7 hl ht (by omega))).symm
noncomputable def a5L:CT:=i3 (fun (x:(List d5)×(List d5))=>b5V x.1 x.2)
@[go_sem] def c4N:=fun a b=>nm' (fQ' a5L rfl (a,b))
@[go_sem] def b2r:ACode:=q' 2 [ao (.box 4 (.t 0)),ao (.box 4 (.t 1)),ao (.mov (bb false))] (.seq (q' 5 [aG 0 2,aG 0 3,ao (.bin .neq (.t 6) (.t 8))] (.cond (.t 9) (q' 0 [ab 4 false]
 .ret) .skip)) (.seq (q' 10 [af 1 2,aE 2,af 1 3,aE 2,ac 73 [11,13],ao (.not (.t 14))] (.cond (.t 15) (q' 0 [ab 4 false] .ret) .skip)) (.seq (q' 16 [aG 3 2,aG 3
 3,ac 74 [17,19],ao (.not (.t 20))] (.cond (.t 21) (q' 0 [ab 4 false] .ret) .skip)) (q' 0 [ab 4 true] .ret))))
theorem b5X (a:c6) (b:c6):Z9 Tryz.prog 20 [(true,[.i .i64 a.Kind,.s a.Head.Name,.sl false [.s [],.i .i64 0,.s []] (a.Head.Args.map c8.cells),.sl false [.i .i64 0,.s [],.sl false [.s [],.i .i64 0,.s []] [],.i .i64 0,.s [],.i .i64 0,.s [],.s [],.i .i64 0,.s []] (a.Body.map (d5.cells false false))]),(true,[.i .i64 b.Kind,.s b.Head.Name,.sl false [.s [],.i .i64 0,.s []] (b.Head.Args.map c8.cells),.sl false [.i .i64 0,.s [],.sl false [.s [],.i .i64 0,.s []] [],.i .i64 0,.s [],.i .i64 0,.s [],.s [],.i .i64 0,.s []] (b.Body.map (d5.cells false false))])] [] (.one (false,[.b (decide (a=b))])):=by
 refine sx' false false none Tryz.func20 b2r [.t 4] [(73,[],a2u),(74,[],a5L)] ?_
 intro hb hE
 simp only [go_sem];(repeat' first | apply CJ.mk | intro hc);all_goals try exact om'
 all_goals (cases a;cases b;simp_all)
noncomputable def a5N:CT:=i3 (fun (x:c6×c6)=>b5X x.1 x.2)
@[go_sem] def c4P:=fun x0 x1 x2 x3 x4 x5 x6 x7=>nm' (fQ' a5N rfl (⟨x0,⟨x1,x2⟩,x3⟩,⟨x4,⟨x5,x6⟩,x7⟩))
@[go_sem] def b0F:ACode:=q' 0 [ab 4 false] (.seq (q' 6 [am 0,aN,am 1,aN,ao (.bin .neq (.t 7) (.t 9))] (.cond (.t 10) (q' 0 [ab 4 false] .ret) .skip)) (.seq (q' 5 [aK 0] (.block 0 (.loop
 (.seq (q' 11 [aM [5,0],aN,ar 11 13] (.cond (.t 14) .skip (.exit 0))) (.seq (.block 1 (.seq (G' 17 [aM [0,5],aI 4,aE 4,aM [1,5],aI 4,aE 4,ac 20 [20,24],ao
 (.not (.t 25))]) (.cond (.t 26) (q' 0 [ab 4 false] .ret) .skip))) (g' 15 [aB 5])))))) (q' 0 [ab 4 true] .ret)))
theorem b3U (a:List c6) (b:List c6):Z9 Tryz.prog 112 [(false,[.sl false [.i .i64 0,.s [],.sl false [.s [],.i .i64 0,.s []] [],.sl false [.i .i64 0,.s [],.sl false [.s [],.i .i64 0,.s []] [],.i .i64 0,.s [],.i .i64 0,.s [],.s [],.i .i64 0,.s []] []] (a.map (c6.cells false false))]),(false,[.sl false [.i .i64 0,.s [],.sl false [.s [],.i .i64 0,.s []] [],.sl false [.i .i64 0,.s [],.sl false [.s [],.i .i64 0,.s []] [],.i .i64 0,.s [],.i .i64 0,.s [],.s [],.i .i64 0,.s []] []] (b.map (c6.cells false false))])] [] (.one (false,[.b (decide (a=b))])):=by
 refine sx' false false none Tryz.func112 b0F [.t 4] [(20,[],a5N)] ?_
 intro hb hE
 simp only [go_sem];(repeat' first | apply CJ.mk | intro hc);all_goals try exact om'
 ·symm
  rw [decide_eq_false_iff_not]
  rintro rfl
  simp at hc
 have hl:a.length=b.length:=by simpa [Int.ofNat_inj] using hc
 refine lq' false [0,1] [] [] (fun i:{i:Nat // i≤a.length∧a.take i=b.take i}=>[(5,slV (.i .i64 i.1))]) nl' nl' (fun i=>a.length - i.1) (⟨0,by simp⟩) ?_
 intro S0 hS0 i
 obtain ⟨i,hi,ht⟩:=i
 simp only [go_sem,hS0];(repeat' first | apply CJ.mk | intro hc);all_goals try exact om'
 ·exact (decide_eq_false (u1 default (i:=i) (by simpa using hc))).symm
 ·exact nx0 ⟨i+1,by omega,o8 ht (by omega) (by omega) (d:=default) (by simpa using hc)⟩
 ·exact (decide_eq_true (j7 hl ht (by omega))).symm
noncomputable def a4A:CT:=i3 (fun (x:(List c6)×(List c6))=>b3U x.1 x.2)
@[go_sem] def c2X:=fun a b=>nm' (fQ' a4A rfl (a,b))
@[go_sem] def b2o:ACode:=q' 2 [ao (.box 3 (.t 0)),ao (.box 3 (.t 1)),ao (.mov (bb false))] (.seq (q' 5 [aG 0 2,aG 0 3,ao (.bin .neq (.t 6) (.t 8))] (.cond (.t 9) (q' 0 [ab 4 false]
 .ret) .skip)) (.seq (q' 10 [aG 1 2,aG 1 3,ao (.bin .neq (.t 11) (.t 13))] (.cond (.t 14) (q' 0 [ab 4 false] .ret) .skip)) (.seq (q' 15 [aG 2 2,aG 2 3,ao (.bin
 .neq (.t 16) (.t 18))] (.cond (.t 19) (q' 0 [ab 4 false] .ret) .skip)) (q' 0 [ab 4 true] .ret))))
theorem b5U (a:d7) (b:d7):Z9 Tryz.prog 227 [(true,[.i .i64 a.Kind,.s a.Name,.i .i64 a.Arity]),(true,[.i .i64 b.Kind,.s b.Name,.i .i64 b.Arity])] [] (.one (false,[.b (decide (a=b))])):=by
 refine sx' false false none Tryz.func227 b2o [.t 4] [] ?_
 intro hb hE
 simp only [go_sem];(repeat' first | apply CJ.mk | intro hc);all_goals try exact om'
 all_goals (cases a;cases b;simp_all)
noncomputable def a5K:CT:=i3 (fun (x:d7×d7)=>b5U x.1 x.2)
@[go_sem] def c4M:=fun x0 x1 x2 x3 x4 x5=>nm' (fQ' a5K rfl (⟨x0,x1,x2⟩,⟨x3,x4,x5⟩))
@[go_sem] def b0D:ACode:=q' 0 [ab 4 false] (.seq (q' 6 [am 0,aN,am 1,aN,ao (.bin .neq (.t 7) (.t 9))] (.cond (.t 10) (q' 0 [ab 4 false] .ret) .skip)) (.seq (q' 5 [aK 0] (.block 0 (.loop
 (.seq (q' 11 [aM [5,0],aN,ar 11 13] (.cond (.t 14) .skip (.exit 0))) (.seq (.block 1 (.seq (G' 17 [aM [0,5],aI 3,aE 3,aM [1,5],aI 3,aE 3,ac 227 [20,24],ao
 (.not (.t 25))]) (.cond (.t 26) (q' 0 [ab 4 false] .ret) .skip))) (g' 15 [aB 5])))))) (q' 0 [ab 4 true] .ret)))
theorem b3S (a:List d7) (b:List d7):Z9 Tryz.prog 111 [(false,[.sl false [.i .i64 0,.s [],.i .i64 0] (a.map d7.cells)]),(false,[.sl false [.i .i64 0,.s [],.i .i64 0] (b.map d7.cells)])] [] (.one (false,[.b (decide (a=b))])):=by
 refine sx' false false none Tryz.func111 b0D [.t 4] [(227,[],a5K)] ?_
 intro hb hE
 simp only [go_sem];(repeat' first | apply CJ.mk | intro hc);all_goals try exact om'
 ·symm
  rw [decide_eq_false_iff_not]
  rintro rfl
  simp at hc
 have hl:a.length=b.length:=by simpa [Int.ofNat_inj] using hc
 refine lq' false [0,1] [] [] (fun i:{i:Nat // i≤a.length∧a.take i=b.take i}=>[(5,slV (.i .i64 i.1))]) nl' nl' (fun i=>a.length - i.1) (⟨0,by simp⟩) ?_
 intro S0 hS0 i
 obtain ⟨i,hi,ht⟩:=i
 simp only [go_sem,hS0];(repeat' first | apply CJ.mk | intro hc);all_goals try exact om'
 ·exact (decide_eq_false (u1 default (i:=i) (by simpa using hc))).symm
 ·exact nx0 ⟨i+1,by omega,o8 ht (by omega) (by omega) (d:=default) (by simpa using hc)⟩
 ·exact (decide_eq_true (j7 hl ht (by omega))).symm
noncomputable def a4y:CT:=i3 (fun (x:(List d7)×(List d7))=>b3S x.1 x.2)
@[go_sem] def c2V:=fun a b=>nm' (fQ' a4y rfl (a,b))
@[go_sem] def a6Y:ACode:=q' 2 [ao (.box 2 (.t 0)),ao (.box 2 (.t 1)),ao (.mov (bb false))] (.seq (q' 5 [aG 0 2,aG 0 3,ac 111 [6,8],ao (.not (.t 9))] (.cond (.t 10) (q' 0 [ab 4 false]
 .ret) .skip)) (.seq (q' 11 [aG 1 2,aG 1 3,ac 112 [12,14],ao (.not (.t 15))] (.cond (.t 16) (q' 0 [ab 4 false] .ret) .skip)) (q' 0 [ab 4 true] .ret)))
theorem a9y (a:c4) (b:c4):Z9 Tryz.prog 41 [(true,[.sl false [.i .i64 0,.s [],.i .i64 0] (a.Decls.map d7.cells),.sl false [.i .i64 0,.s [],.sl false [.s [],.i .i64 0,.s []] [],.sl false [.i .i64 0,.s [],.sl false [.s [],.i .i64 0,.s []] [],.i .i64 0,.s [],.i .i64 0,.s [],.s [],.i .i64 0,.s []] []] (a.Rules.map (c6.cells false false))]),(true,[.sl false [.i .i64 0,.s [],.i .i64 0] (b.Decls.map d7.cells),.sl false [.i .i64 0,.s [],.sl false [.s [],.i .i64 0,.s []] [],.sl false [.i .i64 0,.s [],.sl false [.s [],.i .i64 0,.s []] [],.i .i64 0,.s [],.i .i64 0,.s [],.s [],.i .i64 0,.s []] []] (b.Rules.map (c6.cells false false))])] [] (.one (false,[.b (decide (a=b))])):=by
 refine sx' false false none Tryz.func41 a6Y [.t 4] [(111,[],a4y),(112,[],a4A)] ?_
 intro hb hE
 simp only [go_sem];(repeat' first | apply CJ.mk | intro hc);all_goals try exact om'
 all_goals (cases a;cases b;simp_all)
noncomputable def a2O:CT:=i3 (fun (x:c4×c4)=>a9y x.1 x.2)
@[go_sem] def c0G:=fun x0 x1 x2 x3=>nm' (fQ' a2O rfl (⟨x0,x1⟩,⟨x2,x3⟩))
end Go.Aw
